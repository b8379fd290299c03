import PyProof.Rows.All
import HandS.ForMost
import HandS.Exc
import HandS.ExcOwn
import HandS.TryOnly
import HandS.WordsExc
import HandS.EndTab
import HandS.AnyAll
import HandS.Wide
import HandS.Style
import HandS.TupAny
import HandS.TupMul
import HandS.More
import KE.KLam
import HandS.Walk
import HandS.Zip
import HandS.Flow
import HandS.GenList
import HandS.Conv
import HandS.EndOwn
import PySem.Challenge.RW_circuitstack_k14_values_told_as_bits
set_option Elab.async false
set_option linter.all false
set_option maxRecDepth 100000
/-! Eng.A: data, the small language, its evaluator. -/
namespace Eng
open PySem (Str PyData)

inductive D where
  | non
  | bl (b : Bool)
  | int (i : Int)
  | str (s : Str)
  | tup (l : List D)
  | lst (l : List D)
  | dic (ks vs : List D)
  | ref (k : Nat)
  | lam (k : Nat)
  | scr (l : List D)
instance : Inhabited D := ⟨.non⟩

mutual
def D.eqb : D → D → Bool
  | .non, .non => true
  | .bl a, .bl b => a == b
  | .bl a, .int j => (if a then 1 else 0) == j
  | .int i, .bl b => i == (if b then 1 else 0)
  | .int i, .int j => i == j
  | .str x, .str y => x == y
  | .lst xs, .lst ys => D.eqbs xs ys
  | .tup xs, .tup ys => D.eqbs xs ys
  | _, _ => false
def D.eqbs : List D → List D → Bool
  | [], [] => true
  | x :: xs, y :: ys => D.eqb x y && D.eqbs xs ys
  | _, _ => false
end
mutual
/-- data that == may look at: no deeper than n -/
def D.shp : Nat → D → Bool
  | _, .non => true
  | _, .bl _ => true
  | _, .int _ => true
  | _, .str s => PyData.strOk s
  | 0, _ => false
  | n + 1, .tup l => D.shps n l
  | n + 1, .lst l => D.shps n l
  | _, _ => false
def D.shps : Nat → List D → Bool
  | _, [] => true
  | n, d :: r => D.shp n d && D.shps n r
end
mutual
/-- no list, dict, lambda within -/
def D.noL : D → Bool
  | .non => true
  | .bl _ => true
  | .int _ => true
  | .str _ => true
  | .ref _ => true
  | .tup l => D.noLs l
  | _ => false
def D.noLs : List D → Bool
  | [] => true
  | d :: r => D.noL d && D.noLs r
end
def D.flat : D → Bool
  | .non => true
  | .bl _ => true
  | .int _ => true
  | .str _ => true
  | _ => false
def D.isNon : D → Bool
  | .non => true
  | _ => false
/-- is it data of a kind that may be looked at as a key -/
def D.isKey : D → Bool
  | .int _ => true
  | .str _ => true
  | _ => false

inductive Ob where
  | lst (l : List D)
  | dic (ks vs : List D)
  | ins (c : Nat) (fs : List (Nat × D))
abbrev Sto := List Ob
inductive Sl where
  | no
  | val (d : D)
  | own (l : List D)
abbrev Env := List Sl

inductive R (α : Type) where
  | ok (a : α) (st : Sto)
  | er (c : Nat) (st : Sto)
  | bad
def R.bind {α β : Type} : R α → (α → Sto → R β) → R β
  | .ok a st, f => f a st
  | .er c st, _ => .er c st
  | .bad, _ => .bad
/-- an error has no claim here -/
def R.noEr {α : Type} : R α → R α
  | .ok a st => .ok a st
  | _ => .bad
def ofO {α : Type} (o : Option α) (st : Sto) : R α := match o with
  | some a => .ok a st
  | none => .bad

inductive Bop where | add | sub | mul | fdiv | mod | pow
inductive Cop where | eq | ne | lt | le | gt | ge | is_ | isn | in_ | nin
inductive B1 where | abs | len | int | tuple | list | sum | min | max | str
inductive B2 where | min | max
inductive G1 where | any | all | tuple

/-! ### values -/
def lim : Nat := 1000000
def bigOk (l : List D) : Bool := decide (l.length < lim)
def truth (st : Sto) : D → Option Bool
  | .non => some false
  | .bl b => some b
  | .int i => some (i != 0)
  | .str s => if s.length < lim then some (s.length != 0) else none
  | .tup l => some !l.isEmpty
  | .lst l => some !l.isEmpty
  | _ => none
def sq (st : Sto) : D → Option (List D)
  | .tup l => some l
  | .lst l => some l
  | .ref k => match st[k]? with
    | some (.lst l) => some l
    | _ => none
  | _ => none
def mulOk (i j : Int) : Bool := decide (i.natAbs < 2 ^ 64) || decide (j.natAbs < 2 ^ 64) || decide (i.natAbs.log2 + j.natAbs.log2 < 1000000)
def divOk (j : Int) : Bool := decide (j ≠ 0) && decide (j.natAbs.log2 < 9000)
def powOk (i j : Int) : Bool := decide (0 ≤ j) && decide (j ≤ 100000) && decide (i.natAbs < 2 ^ 64)
def bopV : Bop → D → D → Option D
  | .add, .int i, .int j => some (.int (i + j))
  | .sub, .int i, .int j => some (.int (i - j))
  | .mul, .int i, .int j => if mulOk i j then some (.int (i * j)) else none
  | .fdiv, .int i, .int j => if divOk j then some (.int (i.fdiv j)) else none
  | .mod, .int i, .int j => if j = 0 then none else some (.int (i.fmod j))
  | .pow, .int i, .int j => if powOk i j then some (.int (i ^ j.toNat)) else none
  | .add, .lst a, .lst b => if bigOk a && bigOk b then some (.lst (a ++ b)) else none
  | .add, .tup a, .tup b => if bigOk a && bigOk b then some (.tup (a ++ b)) else none
  | .add, .str a, .str b => if a.length < lim ∧ b.length < lim then some (.str (a ++ b)) else none
  | .mul, .lst l, .int k => if -(2 ^ 60) < k ∧ k < 2 ^ 60 ∧ l.length * k.toNat < lim then some (.lst (List.replicate k.toNat l).flatten) else none
  | .mul, .tup l, .int k => if l.isEmpty = false ∧ 2 ≤ k ∧ k ≤ 1000 ∧ l.length ≤ 1000 then some (.tup (List.replicate k.toNat l).flatten) else none
  | _, _, _ => none
def revV : D → Option D
  | .lst l => some (.lst l.reverse)
  | .tup l => some (.tup l.reverse)
  | _ => none
/-- an item of a written sequence by an index of any sign -/
def atD (l : List D) (i : Int) : Option D := L2.atI l i
def cutD (l : List D) (lo hi : Option Int) : List D := (l.drop (HT.sIx l.length 0 lo)).take (HT.sIx l.length l.length hi - HT.sIx l.length 0 lo)
/-- a slice -/
def cutOf (lo hi : Option Int) : D → Option D
  | .lst xs => some (.lst (cutD xs lo hi))
  | .scr xs => some (.lst (cutD xs lo hi))
  | .tup xs => some (.tup (cutD xs lo hi))
  | .str s => if s.length < lim then some (.str (L2.cutS s lo hi)) else none
  | _ => none
def ixV (st : Sto) : D → D → Option D
  | .str s, .int k => if s.length < lim then (L2.atI s.cps.toList k).map fun c => .str ⟨#[c]⟩ else none
  | d, .int k => (sq st d).bind fun l => atD l k
  | _, _ => none
def memD (x : D) (l : List D) : Bool := l.any fun y => D.eqb y x
def cmpV (st : Sto) : Cop → D → D → Option Bool
  | .eq, d, e => if D.shp 60 d && D.shp 60 e then some (D.eqb d e) else none
  | .ne, d, e => if D.shp 60 d && D.shp 60 e then some (!D.eqb d e) else none
  | .lt, .int i, .int j => some (decide (i < j))
  | .le, .int i, .int j => some (decide (i ≤ j))
  | .gt, .int i, .int j => some (decide (j < i))
  | .ge, .int i, .int j => some (decide (j ≤ i))
  | .is_, d, .non => some d.isNon
  | .isn, d, .non => some (!d.isNon)
  | .in_, x, d => match sq st d with
    | some l => if x.flat && l.all D.flat then some (memD x l) else none
    | none => none
  | .nin, x, d => match sq st d with
    | some l => if x.flat && l.all D.flat then some (!memD x l) else none
    | none => none
  | _, _, _ => none
def intsOf : List D → Option (List Int)
  | [] => some []
  | .int i :: r => (intsOf r).map (i :: ·)
  | _ :: _ => none
def b1V (st : Sto) : B1 → D → Option D
  | .abs, .int i => some (.int (if i < 0 then -i else i))
  | .len, .str s => if s.length < lim then some (.int s.length) else none
  | .len, d => (sq st d).map fun l => .int l.length
  | .int, .int i => some (.int i)
  | .int, .bl b => some (.int (if b then 1 else 0))
  | .tuple, d => (sq st d).map .tup
  | .list, d => (sq st d).map .lst
  | .sum, .lst l => (intsOf l).map fun l => .int l.sum
  | .str, .int i => if i.natAbs.log2 < 1920 then some (.str (Str.ofString (toString i))) else none
  | _, _ => none
def b2V : B2 → D → D → Option D
  | .min, .int i, .int j => some (.int (if j < i then j else i))
  | .max, .int i, .int j => some (.int (if j > i then j else i))
  | _, _, _ => none

/-! ### the language -/
/-- what a name or names are bound to -/
inductive Pt where
  | name (i : Nat)
  | pair (a b : Pt)
  | trip (a b c : Pt)
mutual
inductive IE where
  | no
  | non
  | bl (b : Bool)
  | int (i : Int)
  | str (s : Str)
  | var (i : Nat)
  | own (i : Nat)
  | glob (k : Nat)
  | bop (o : Bop) (a b : IE)
  | neg (a : IE)
  | not (a : IE)
  | cmp (o : Cop) (a b : IE)
  | cmp2 (o p : Cop) (a b c : IE)
  | and (es : IEs)
  | or (es : IEs)
  | ite (c a b : IE)
  | tup (es : IEs)
  | lst (es : IEs)
  | newl (es : IEs)
  | ix (a i : IE)
  | sl (a lo hi : IE)
  | call (k : Nat) (es : IEs)
  | b1 (b : B1) (a : IE)
  | b2 (b : B2) (a c : IE)
  | lc (vs : List Nat) (p : Pt) (it : It) (ifs : IEs) (elt : IE)
  | gen (g : G1) (vs : List Nat) (p : Pt) (it : It) (ifs : IEs) (elt : IE)
  | rev (a : IE)
  | told (k : Nat) (e : IE)
  | toldv (k : Nat) (a : IE)
  | lamv (n : Nat)
inductive IEs where
  | nil
  | cons (e : IE) (es : IEs)
inductive It where
  | seq (e : IE)
  | range1 (a : IE)
  | range2 (a b : IE)
  | range3 (a b c : IE)
  | enum (a : IE)
  | zip (a b : IE)
end
/-- where a value is put -/
inductive Tg where
  | name (i : Nat)
  | pair (a b : Tg)
  | trip (a b c : Tg)
  | ixo (i : Nat) (e : IE)
  | rix (o e : IE)
mutual
inductive IS where
  | asg (t : Tg) (e : IE)
  | setN (i : Nat) (e : IE)
  | par (ts : List (Nat × Bool)) (es : IEs)
  | aug (i : Nat) (o : Bop) (e : IE)
  | app (i : Nat) (e : IE)
  | ins (i : Nat) (k e : IE)
  | expr (e : IE)
  | ret (e : IE)
  | retN
  | iff (c : IE) (a b : ISs)
  | whil (c : IE) (b : ISs)
  | forr (p : Pt) (it : It) (b : ISs)
  | brk
  | cont
  | pass
  | rais (c : Nat)
inductive ISs where
  | nil
  | cons (s : IS) (r : ISs)
  | frz (i : Nat) (r : ISs)
end

/-! ### the evaluator -/
def bindP : Pt → D → Env → Option Env
  | .name i, d, Γ => if i < Γ.length then some (Γ.set i (.val d)) else none
  | .pair a b, d, Γ => (match d with
    | .tup [x, y] => (bindP a x Γ).bind fun Γ1 => bindP b y Γ1
    | _ => none)
  | .trip a b c, d, Γ => (match d with
    | .tup [x, y, z] => (bindP a x Γ).bind fun Γ1 => (bindP b y Γ1).bind fun Γ2 => bindP c z Γ2
    | _ => none)
def wipeE (Γ : Env) : List Nat → Env
  | [] => Γ
  | v :: vs => (wipeE Γ vs).set v .no
def rangeD (lo hi : Int) : List D := (List.range (hi - lo).toNat).map (fun (k : Nat) => D.int (lo + (k : Int)))
def rngOk (i : Int) : Bool := decide (-(2 ^ 60) < i) && decide (i < 2 ^ 60)
def enumD (k : Int) : List D → List D
  | [] => []
  | x :: r => .tup [.int k, x] :: enumD (k + 1) r
def zipD : List D → List D → List D
  | x :: xs, y :: ys => .tup [x, y] :: zipD xs ys
  | _, _ => []
/-- the turns of a comprehension -/
def compL (bind : D → Env → Option Env) (cond : Env → Sto → R Bool) (f : Env → Sto → R D) : List D → Env → Sto → R (List D)
  | [], _, st => .ok [] st
  | x :: xs, Γ, st => match bind x Γ with
    | none => .bad
    | some Γ' => (cond Γ' st).bind fun b st1 =>
      if b then (f Γ' st1).bind fun d st2 => (compL bind cond f xs Γ st2).bind fun ds st3 => .ok (d :: ds) st3
      else compL bind cond f xs Γ st1
/-- any, all: till one is found -/
def anyL (stop : Bool) (bind : D → Env → Option Env) (cond : Env → Sto → R Bool) (f : Env → Sto → R D) : List D → Env → Sto → R Bool
  | [], _, st => .ok (!stop) st
  | x :: xs, Γ, st => match bind x Γ with
    | none => .bad
    | some Γ' => (cond Γ' st).bind fun b st1 =>
      if b then (f Γ' st1).bind fun d st2 => match d with
        | .bl k => if k == stop then .ok stop st2 else anyL stop bind cond f xs Γ st2
        | _ => .bad
      else anyL stop bind cond f xs Γ st1
/-- range(i, j, k) -/
def rng3Ok (i j k : Int) : Bool := decide (k ≠ 0) && decide (k.natAbs < 1073741824) && PySem.Builtin.Range.small i j k && decide (0 ≤ PySem.Builtin.Range.rangeSize i j k)
def range3D (i j k : Int) : List D := (List.range (PySem.Builtin.Range.rangeSize i j k).toNat).map (fun (m : Nat) => D.int (i + (m : Int) * k))

structure Prg where
  /-- module constants -/
  globs : List D
  /-- for a told def: the class that it catches, the text that it gives -/
  tolds : Nat → Option (Nat × Str)
  /-- is an error's class (first) caught by a clause of the second -/
  sub : Nat → Nat → Bool
  /-- the lambdas' bodies, and where they stand among the defs -/
  lams : Nat → IE
  lb : Nat

abbrev CallT := Nat → List D → Sto → R D
section
variable (P : Prg)
def toldR (k : Nat) (r : R D) : R D := match P.tolds k with
  | none => .bad
  | some (c, s) => match r with
    | .ok d st => .ok d st
    | .er c' st => if P.sub c' c then .ok (.str s) st else .bad
    | .bad => .bad
/-- a test's outcome -/
def tst (r : R D) : R Bool := r.bind fun x st1 => ofO (truth st1 x) st1
def isNo : IE → Bool
  | .no => true
  | _ => false
/-- a slice's end -/
def partR (no : Bool) (st : Sto) (r : R D) : R (Option Int) := if no then .ok none st else r.bind fun x st1 => match x with
  | .int i => .ok (some i) st1
  | _ => .bad
mutual
def ev : List CallT → IE → Env → Sto → R D
  | cs, .no, _, _ => .bad
  | cs, .non, _, st => .ok .non st
  | cs, .bl b, _, st => .ok (.bl b) st
  | cs, .int i, _, st => .ok (.int i) st
  | cs, .str s, _, st => .ok (.str s) st
  | cs, .var i, Γ, st => match Γ[i]? with
    | some (.val d) => .ok d st
    | _ => .bad
  | cs, .own i, Γ, st => match Γ[i]? with
    | some (.own l) => .ok (.lst l) st
    | some (.val d) => .ok d st
    | _ => .bad
  | cs, .glob k, _, st => ofO P.globs[k]? st
  | cs, .bop o a b, Γ, st => (ev cs a Γ st).bind fun x st1 => (ev cs b Γ st1).bind fun y st2 => ofO (bopV o x y) st2
  | cs, .neg a, Γ, st => (ev cs a Γ st).bind fun x st1 => match x with
    | .int i => .ok (.int (-i)) st1
    | _ => .bad
  | cs, .not a, Γ, st => (ev cs a Γ st).bind fun x st1 => ofO ((truth st1 x).map fun b => .bl (!b)) st1
  | cs, .cmp o a b, Γ, st => (ev cs a Γ st).bind fun x st1 => (ev cs b Γ st1).bind fun y st2 => ofO ((cmpV st2 o x y).map .bl) st2
  | cs, .cmp2 o p a b c, Γ, st => (ev cs a Γ st).bind fun x st1 => (ev cs b Γ st1).bind fun y st2 => (ofO (cmpV st2 o x y) st2).bind fun t st3 =>
      if t then (ev cs c Γ st3).bind fun z st4 => ofO ((cmpV st4 p y z).map .bl) st4 else .ok (.bl false) st3
  | cs, .and es, Γ, st => evAnd cs es Γ st
  | cs, .or es, Γ, st => evOr cs es Γ st
  | cs, .ite c a b, Γ, st => (ev cs c Γ st).bind fun x st1 => (ofO (truth st1 x) st1).bind fun t st2 => if t then ev cs a Γ st2 else ev cs b Γ st2
  | cs, .tup es, Γ, st => (evs cs es Γ st).bind fun l st1 => if bigOk l then .ok (.tup l) st1 else .bad
  | cs, .lst es, Γ, st => (evs cs es Γ st).bind fun l st1 => if bigOk l then .ok (.lst l) st1 else .bad
  | cs, .newl es, Γ, st => (evs cs es Γ st).bind fun l st1 => if bigOk l then .ok (.ref st1.length) (st1 ++ [.lst l]) else .bad
  | cs, .ix a i, Γ, st => (ev cs a Γ st).bind fun x st1 => (ev cs i Γ st1).bind fun y st2 => ofO (ixV st2 x y) st2
  | cs, .sl a lo hi, Γ, st => (ev cs a Γ st).bind fun x st1 => (partR (isNo lo) st1 (ev cs lo Γ st1)).bind fun l st2 => (partR (isNo hi) st2 (ev cs hi Γ st2)).bind fun h st3 => ofO (cutOf l h x) st3
  | cs, .call k es, Γ, st => match cs with
    | c :: _ => (evs cs es Γ st).bind fun l st1 => c k l st1
    | [] => .bad
  | cs, .b1 b a, Γ, st => (ev cs a Γ st).bind fun x st1 => ofO (b1V st1 b x) st1
  | cs, .b2 b a c, Γ, st => (ev cs a Γ st).bind fun x st1 => (ev cs c Γ st1).bind fun y st2 => ofO (b2V b x y) st2
  | cs, .lc vs p it ifs elt, Γ, st => (evIt cs it Γ st).bind fun xs st1 =>
      ((compL (bindP p) (evIfs cs ifs) (ev cs elt) xs (wipeE Γ vs) st1).noEr).bind fun l st2 => if bigOk xs then .ok (.lst l) st2 else .bad
  | cs, .gen g vs p it ifs elt, Γ, st => match cs with
    | _ :: r => (evIt cs it Γ st).bind fun xs st1 => match g with
      | .any => ((anyL true (bindP p) (evIfs r ifs) (ev r elt) xs (wipeE Γ vs) st1).noEr).bind fun b st2 => if bigOk xs then .ok (.bl b) st2 else .bad
      | .all => ((anyL false (bindP p) (evIfs r ifs) (ev r elt) xs (wipeE Γ vs) st1).noEr).bind fun b st2 => if bigOk xs then .ok (.bl b) st2 else .bad
      | .tuple => ((compL (bindP p) (evIfs r ifs) (ev r elt) xs (wipeE Γ vs) st1).noEr).bind fun l st2 => if bigOk xs then .ok (.tup l) st2 else .bad
    | [] => .bad
  | cs, .rev a, Γ, st => (ev cs a Γ st).bind fun x st1 => ofO (revV x) st1
  | cs, .told k e, Γ, st => match cs with
    | _ :: _ :: r => toldR P k (ev r e Γ st)
    | _ => .bad
  | cs, .toldv k a, Γ, st => match cs with
    | _ :: c2 :: _ => (ev cs a Γ st).bind fun d st1 => (match d with
      | .lam n => toldR P k (c2 (P.lb + n) [] st1)
      | _ => .bad)
    | _ => .bad
  | cs, .lamv n, _, st => .ok (.lam n) st
def evs : List CallT → IEs → Env → Sto → R (List D)
  | cs, .nil, _, st => .ok [] st
  | cs, .cons e es, Γ, st => (ev cs e Γ st).bind fun x st1 => (evs cs es Γ st1).bind fun l st2 => .ok (x :: l) st2
def evIfs : List CallT → IEs → Env → Sto → R Bool
  | cs, .nil, _, st => .ok true st
  | cs, .cons e es, Γ, st => match es with
    | .nil => tst (ev cs e Γ st)
    | .cons _ _ => .bad
def evAnd : List CallT → IEs → Env → Sto → R D
  | cs, .nil, _, _ => .bad
  | cs, .cons e es, Γ, st => match es with
    | .nil => ev cs e Γ st
    | .cons _ _ => (ev cs e Γ st).bind fun x st1 => (ofO (truth st1 x) st1).bind fun t st2 => if t then evAnd cs es Γ st2 else .ok x st2
def evOr : List CallT → IEs → Env → Sto → R D
  | cs, .nil, _, _ => .bad
  | cs, .cons e es, Γ, st => match es with
    | .nil => ev cs e Γ st
    | .cons _ _ => (ev cs e Γ st).bind fun x st1 => (ofO (truth st1 x) st1).bind fun t st2 => if t then .ok x st2 else evOr cs es Γ st2
def evIt : List CallT → It → Env → Sto → R (List D)
  | cs, .seq e, Γ, st => (ev cs e Γ st).bind fun x st1 => match x with
    | .tup l => .ok l st1
    | .lst l => .ok l st1
    | _ => .bad
  | cs, .range1 a, Γ, st => (ev cs a Γ st).bind fun x st1 => match x with
    | .int i => if rngOk i then .ok (rangeD 0 i) st1 else .bad
    | _ => .bad
  | cs, .range2 a b, Γ, st => (ev cs a Γ st).bind fun x st1 => (ev cs b Γ st1).bind fun y st2 => match x, y with
    | .int i, .int j => if rngOk i && rngOk j then .ok (rangeD i j) st2 else .bad
    | _, _ => .bad
  | cs, .range3 a b c, Γ, st => (ev cs a Γ st).bind fun x st1 => (ev cs b Γ st1).bind fun y st2 => (ev cs c Γ st2).bind fun z st3 => match x, y, z with
    | .int i, .int j, .int k => if rng3Ok i j k then .ok (range3D i j k) st3 else .bad
    | _, _, _ => .bad
  | cs, .enum a, Γ, st => (ev cs a Γ st).bind fun x st1 => match x with
    | .lst l => .ok (enumD 0 l) st1
    | _ => .bad
  | cs, .zip a b, Γ, st => (ev cs a Γ st).bind fun x st1 => (ev cs b Γ st1).bind fun y st2 => match x, y with
    | .lst l, .lst m => .ok (zipD l m) st2
    | .tup l, .tup m => .ok (zipD l m) st2
    | _, _ => .bad
end
end

/-! ### statements -/
inductive O where
  | nx (Γ : Env) (st : Sto)
  | ret (d : D) (st : Sto)
  | brk (Γ : Env) (st : Sto)
  | cnt (Γ : Env) (st : Sto)
  | er (c : Nat) (Γ : Env) (st : Sto)
  | bad
/-- an expression, then a statement's rest -/
def R.then_ {α : Type} (r : R α) (Γ : Env) (f : α → Sto → O) : O := match r with
  | .ok a st => f a st
  | .er c st => .er c Γ st
  | .bad => .bad
def O.seq (o : O) (f : Env → Sto → O) : O := match o with
  | .nx Γ st => f Γ st
  | o => o
def whileL (c : Env → Sto → R Bool) (b : Env → Sto → O) : Nat → Env → Sto → O
  | 0, _, _ => .bad
  | n + 1, Γ, st => (c Γ st).then_ Γ fun t st1 => if t then (match b Γ st1 with
      | .nx Γ2 st2 => whileL c b n Γ2 st2
      | .cnt Γ2 st2 => whileL c b n Γ2 st2
      | .brk Γ2 st2 => .nx Γ2 st2
      | o => o) else .nx Γ st1
def forL (bind : D → Env → Option Env) (b : Env → Sto → O) : List D → Env → Sto → O
  | [], Γ, st => .nx Γ st
  | x :: xs, Γ, st => match bind x Γ with
    | none => .bad
    | some Γ1 => match b Γ1 st with
      | .nx Γ2 st2 => forL bind b xs Γ2 st2
      | .cnt Γ2 st2 => forL bind b xs Γ2 st2
      | .brk Γ2 st2 => .nx Γ2 st2
      | o => o
/-- a list's item is put -/
def setD (l : List D) (i : Int) (d : D) : Option (List D) := (L2.ixN l.length i).map fun j => l.set j d
section
variable (P : Prg) (cs : List CallT) (W : Nat)
/-- a value is put where a target tells -/
def putT : Tg → D → Env → Sto → O
  | .name i, d, Γ, st => if i < Γ.length then .nx (Γ.set i (.val d)) st else .bad
  | .pair a b, d, Γ, st => (match d with
    | .tup [x, y] => (putT a x Γ st).seq fun Γ1 st1 => putT b y Γ1 st1
    | _ => .bad)
  | .trip a b c, d, Γ, st => (match d with
    | .tup [x, y, z] => (putT a x Γ st).seq fun Γ1 st1 => (putT b y Γ1 st1).seq fun Γ2 st2 => putT c z Γ2 st2
    | _ => .bad)
  | .ixo i e, d, Γ, st => (match Γ[i]? with
    | some (.own l) => (ev P cs e Γ st).then_ Γ fun k st1 => (match k with
      | .int k => (match setD l k d with
        | some l' => .nx (Γ.set i (.own l')) st1
        | none => .bad)
      | _ => .bad)
    | _ => .bad)
  | .rix o e, d, Γ, st => (ev P cs o Γ st).then_ Γ fun r st1 => (ev P cs e Γ st1).then_ Γ fun k st2 => (match r, k with
    | .ref n, .int k => (match st2[n]? with
      | some (.lst l) => (match setD l k d with
        | some l' => .nx Γ (st2.set n (.lst l'))
        | none => .bad)
      | _ => .bad)
    | _, _ => .bad)
/-- name op= value -/
def augV (o : Bop) : D → D → Option D
  | .int i, y => bopV o (.int i) y
  | .str s, y => bopV o (.str s) y
  | _, _ => none
/-- several names' values -/
def parE : List (Nat × Bool) → List Sl → Env → Option Env
  | [], [], Γ => some Γ
  | (i, _) :: ts, s :: l, Γ => if i < Γ.length then parE ts l (Γ.set i s) else none
  | _, _, _ => none
def asL : R D → R (List D)
  | .ok (.lst l) st => .ok l st
  | .er c st => .er c st
  | _ => .bad
def evsF : List (Nat × Bool) → IEs → Env → Sto → R (List Sl)
  | [], .nil, _, st => .ok [] st
  | (_, false) :: ts, .cons e es, Γ, st => (ev P cs e Γ st).bind fun x st1 => (evsF ts es Γ st1).bind fun l st2 => .ok (.val x :: l) st2
  | (_, true) :: ts, .cons e es, Γ, st => (asL (ev P cs e Γ st)).bind fun x st1 => (evsF ts es Γ st1).bind fun l st2 => .ok (.own x :: l) st2
  | _, _, _, _ => .bad
mutual
def exec : IS → Env → Sto → O
  | .asg t e, Γ, st => (ev P cs e Γ st).then_ Γ fun d st1 => putT P cs t d Γ st1
  | .setN i e, Γ, st => (asL (ev P cs e Γ st)).then_ Γ fun l st1 => if i < Γ.length then .nx (Γ.set i (.own l)) st1 else .bad
  | .par ts es, Γ, st => (evsF P cs ts es Γ st).then_ Γ fun l st1 => (match parE ts l Γ with
    | some Γ' => .nx Γ' st1
    | none => .bad)
  | .aug i o e, Γ, st => (match Γ[i]? with
    | some (.val x) => (ev P cs e Γ st).then_ Γ fun y st1 => (match augV o x y with
      | some z => .nx (Γ.set i (.val z)) st1
      | none => .bad)
    | _ => .bad)
  | .app i e, Γ, st => (match Γ[i]? with
    | some (.own l) => (ev P cs e Γ st).then_ Γ fun y st1 => if bigOk l then .nx (Γ.set i (.own (l ++ [y]))) st1 else .bad
    | _ => .bad)
  | .ins i k e, Γ, st => (match Γ[i]? with
    | some (.own l) => (ev P cs k Γ st).then_ Γ fun x st1 => (ev P cs e Γ st1).then_ Γ fun y st2 => (match x with
      | .int j => if bigOk l && (decide (0 ≤ j) && decide (j < 2 ^ 60)) then .nx (Γ.set i (.own (l.take j.toNat ++ [y] ++ l.drop j.toNat))) st2 else .bad
      | _ => .bad)
    | _ => .bad)
  | .expr e, Γ, st => (ev P cs e Γ st).then_ Γ fun _ st1 => .nx Γ st1
  | .ret e, Γ, st => (ev P cs e Γ st).then_ Γ fun d st1 => .ret d st1
  | .retN, _, st => .ret .non st
  | .iff c a b, Γ, st => (tst (ev P cs c Γ st)).then_ Γ fun t st1 => if t then execs a Γ st1 else execs b Γ st1
  | .whil c b, Γ, st => whileL (fun Γ st => tst (ev P cs c Γ st)) (execs b) W Γ st
  | .forr p it b, Γ, st => (evIt P cs it Γ st).then_ Γ fun xs st1 => forL (bindP p) (execs b) xs Γ st1
  | .brk, Γ, st => .brk Γ st
  | .cont, Γ, st => .cnt Γ st
  | .pass, Γ, st => .nx Γ st
  | .rais c, Γ, st => .er c Γ st
def execs : ISs → Env → Sto → O
  | .nil, Γ, st => .nx Γ st
  | .cons s r, Γ, st => (exec s Γ st).seq fun Γ1 st1 => execs r Γ1 st1
  | .frz i r, Γ, st => (match Γ[i]? with
    | some (.own l) => execs r (Γ.set i (.val (.lst l))) st
    | some (.val _) => execs r Γ st
    | _ => .bad)
end
end
structure Fn where
  np : Nat
  nl : Nat
  body : ISs
def O.toR : O → R D
  | .nx _ st => .ok .non st
  | .ret d st => .ok d st
  | .er c _ st => .er c st
  | _ => .bad
def startE (n : Nat) (args : List D) : Env := args.map .val ++ List.replicate (n - args.length) .no
def runsF (P : Prg) (fns : List Fn) (W : Nat) : Nat → List CallT
  | 0 => []
  | n + 1 => (fun k args st => match fns[k]? with
    | none => .bad
    | some f => if args.length = f.np then (execs P (runsF P fns W n) W f.body (startE f.nl args) st).toR else .bad) :: runsF P fns W n
end Eng
/-! Eng.B: how data stand in the abstract heap. -/
namespace Eng
open PySem PySem.Spec PyProof.Rows L2

structure Nm where
  gl : List Str
  fn : List Str
  ex : List Str
  td : List Str
  /-- has the def a table: of lambdas, of generator expressions -/
  tb : Option Bool
  /-- is a written lambda the n-th -/
  lm : Nat → Arguments → Expr → Scope → Bool
abbrev Nm.noTb (C : Nm) : Nm := { C with tb := none, lm := fun _ _ _ _ => false }
structure GP where
  K : PySem.W.Frag
  ca : Nat → Addr
  T : List (Addr × Option Str)
  lm : Nat → Arguments → Expr → Scope → Bool
  c1 : Nm
inductive Tag where
  | slot (i : Nat)
  | obj (k : Nat)
structure Gh where
  F : Hp
  ad : List Addr
  Mu : Addr → Option Tag

/-- the object of a lambda that captured nothing -/
def LamO (q : Str) (a : Arguments) (b : Expr) (s : Scope) (f c : Addr) : HO := .ext fun h => ∃ pm ctv, h.get? f = some (PySem.W.kla_obj "<lambda>" (q ++ "<lambda>") a b s [] pm c ctv)

mutual
def Rp (G : GP) (F : Hp) (ad : List Addr) : D → V → Prop
  | .non, v => v = .non
  | .bl b, v => v = .bl b
  | .int i, v => v = .int i
  | .str s, v => v = .str s
  | .tup l, v => ∃ a vs, v = .ref a ∧ SqT G.K F a vs ∧ Rps G F ad l vs
  | .lst l, v => ∃ a vs, v = .ref a ∧ F a = some (.lst vs) ∧ Rps G F ad l vs
  | .dic _ _, _ => False
  | .ref k, v => ∃ a, v = .ref a ∧ ad[k]? = some a
  | .lam n, v => ∃ f c q a b s, v = .ref f ∧ F f = some (LamO q a b s f c) ∧ F c = some (LamX.CodeO c (q ++ "<lambda>")) ∧ G.lm n a b s = true
  | .scr l, v => ∃ a vs, v = .ref a ∧ SqL G.K F a vs ∧ Rps G F ad l vs
def Rps (G : GP) (F : Hp) (ad : List Addr) : List D → List V → Prop
  | [], vs => vs = []
  | d :: r, vs => ∃ v t, vs = v :: t ∧ Rp G F ad d v ∧ Rps G F ad r t
end

def HLe (F F' : Hp) : Prop := ∀ a o, F a = some o → F' a = some o
theorem HLe.refl (F : Hp) : HLe F F := fun _ _ h => h
theorem HLe.trans {F F' F'' : Hp} (a : HLe F F') (b : HLe F' F'') : HLe F F'' := fun c o h => b c o (a c o h)
theorem HLe.sqL {K : PySem.W.Frag} {F F' : Hp} {a : Addr} {xs : List V} (e : HLe F F') (h : SqL K F a xs) : SqL K F' a xs := by
  rcases h with (h | ⟨o, h⟩) | h
  · exact .inl (.inl (e _ _ h))
  · exact .inl (.inr ⟨o, e _ _ h⟩)
  · exact .inr h
theorem HLe.sqT {K : PySem.W.Frag} {F F' : Hp} {a : Addr} {xs : List V} (e : HLe F F') (h : SqT K F a xs) : SqT K F' a xs := by
  rcases h with (h | ⟨o, h⟩) | h
  · exact .inl (.inl (e _ _ h))
  · exact .inl (.inr ⟨o, e _ _ h⟩)
  · exact .inr h
/-- one list of addresses goes on in another -/
def ALe (ad ad' : List Addr) : Prop := ∃ r, ad' = ad ++ r
theorem ALe.refl (ad : List Addr) : ALe ad ad := ⟨[], by simp⟩
theorem ALe.trans {a b c : List Addr} (h : ALe a b) (h' : ALe b c) : ALe a c := by
  obtain ⟨r, rfl⟩ := h
  obtain ⟨t, rfl⟩ := h'
  exact ⟨r ++ t, by simp⟩
theorem ALe.get {ad ad' : List Addr} (h : ALe ad ad') {k : Nat} {a : Addr} (e : ad[k]? = some a) : ad'[k]? = some a := by
  obtain ⟨r, rfl⟩ := h
  rw [List.getElem?_append_left (List.getElem?_eq_some_iff.mp e).1]
  exact e
section
variable {G : GP} {F F' : Hp} {ad ad' : List Addr}
mutual
theorem Rp.mono (hF : HLe F F') (hA : ALe ad ad') : ∀ {d : D} {v : V}, Rp G F ad d v → Rp G F' ad' d v
  | .non, _, h => h
  | .bl _, _, h => h
  | .int _, _, h => h
  | .str _, _, h => h
  | .tup _, _, ⟨a, vs, e, q, r⟩ => ⟨a, vs, e, hF.sqT q, Rps.mono hF hA r⟩
  | .lst _, _, ⟨a, vs, e, q, r⟩ => ⟨a, vs, e, hF _ _ q, Rps.mono hF hA r⟩
  | .dic _ _, _, h => h.elim
  | .ref _, _, ⟨a, e, q⟩ => ⟨a, e, hA.get q⟩
  | .lam _, _, ⟨f, c, q, a, b, s, e, h1, h2, h3⟩ => ⟨f, c, q, a, b, s, e, hF _ _ h1, hF _ _ h2, h3⟩
  | .scr _, _, ⟨a, vs, e, q, r⟩ => ⟨a, vs, e, hF.sqL q, Rps.mono hF hA r⟩
theorem Rps.mono (hF : HLe F F') (hA : ALe ad ad') : ∀ {l : List D} {vs : List V}, Rps G F ad l vs → Rps G F' ad' l vs
  | [], _, h => h
  | _ :: _, _, ⟨v, t, e, q, r⟩ => ⟨v, t, e, Rp.mono hF hA q, Rps.mono hF hA r⟩
end
theorem Rps.length : ∀ {l : List D} {vs : List V}, Rps G F ad l vs → vs.length = l.length
  | [], _, h => by rw [show _ = [] from h]; rfl
  | _ :: _, _, ⟨v, t, e, _, r⟩ => by rw [e, List.length_cons, List.length_cons, Rps.length r]
theorem Rps.get : ∀ {l : List D} {vs : List V} {i : Nat} {d : D}, Rps G F ad l vs → l[i]? = some d → ∃ v, vs[i]? = some v ∧ Rp G F ad d v
  | [], _, _, _, _, e => by simp at e
  | _ :: _, _, 0, _, ⟨v, t, e, q, _⟩, h => by
    rw [List.getElem?_cons_zero] at h
    cases h
    rw [e]
    exact ⟨v, rfl, q⟩
  | _ :: _, _, i + 1, _, ⟨v, t, e, _, r⟩, h => by
    rw [List.getElem?_cons_succ] at h
    rw [e, List.getElem?_cons_succ]
    exact Rps.get r h
theorem Rps.nil : Rps G F ad [] [] := rfl
theorem Rps.cons {d : D} {l : List D} {v : V} {vs : List V} (h : Rp G F ad d v) (t : Rps G F ad l vs) : Rps G F ad (d :: l) (v :: vs) := ⟨v, vs, rfl, h, t⟩
theorem Rps.append : ∀ {l m : List D} {vs us : List V}, Rps G F ad l vs → Rps G F ad m us → Rps G F ad (l ++ m) (vs ++ us)
  | [], _, _, _, h, h' => by
    have e : _ = [] := h
    subst e
    exact h'
  | _ :: _, _, _, _, ⟨v, t, e, q, r⟩, h' => ⟨v, t ++ _, by rw [e]; rfl, q, Rps.append r h'⟩
theorem Rps.rep {l : List D} {vs : List V} (r : Rps G F ad l vs) : ∀ n : Nat, Rps G F ad (List.replicate n l).flatten (List.replicate n vs).flatten
  | 0 => Rps.nil
  | n + 1 => by
    rw [List.replicate_succ, List.replicate_succ, List.flatten_cons, List.flatten_cons]
    exact Rps.append r (Rps.rep r n)
theorem Rps.rev : ∀ {l : List D} {vs : List V}, Rps G F ad l vs → Rps G F ad l.reverse vs.reverse
  | [], _, h => by
    have e : _ = [] := h
    subst e
    exact Rps.nil
  | _ :: _, _, ⟨v, t, e, q, r⟩ => by
    rw [e, List.reverse_cons, List.reverse_cons]
    exact Rps.append (Rps.rev r) ⟨v, [], rfl, q, Rps.nil⟩
theorem Rps.drop : ∀ {l : List D} {vs : List V} (n : Nat), Rps G F ad l vs → Rps G F ad (l.drop n) (vs.drop n)
  | l, vs, 0, h => h
  | [], _, n + 1, h => by
    have e : _ = [] := h
    subst e
    exact Rps.nil
  | _ :: _, _, n + 1, ⟨v, t, e, _, r⟩ => by
    rw [e]
    exact Rps.drop n r
theorem Rps.take : ∀ {l : List D} {vs : List V} (n : Nat), Rps G F ad l vs → Rps G F ad (l.take n) (vs.take n)
  | l, vs, 0, h => by
    rw [List.take_zero, List.take_zero]
    exact Rps.nil
  | [], _, n + 1, h => by
    have e : _ = [] := h
    subst e
    exact Rps.nil
  | _ :: _, _, n + 1, ⟨v, t, e, q, r⟩ => by
    rw [e]
    exact Rps.cons q (Rps.take n r)
theorem Rps.set {d : D} {v : V} (h : Rp G F ad d v) : ∀ {l : List D} {vs : List V} (j : Nat), Rps G F ad l vs → Rps G F ad (l.set j d) (vs.set j v)
  | [], _, j, e => by
    have e : _ = [] := e
    subst e
    exact Rps.nil
  | _ :: _, _, 0, ⟨w, t, e, _, r⟩ => by
    rw [e]
    exact Rps.cons h r
  | _ :: _, _, j + 1, ⟨w, t, e, q, r⟩ => by
    rw [e]
    exact Rps.cons q (Rps.set h j r)
end

/-- an object of the store -/
def OR (G : GP) (F : Hp) (ad : List Addr) (H : Hp) (a : Addr) : Ob → Prop
  | .lst l => ∃ vs, H a = some (.lst vs) ∧ Rps G F ad l vs
  | .dic _ _ => False
  | .ins _ _ => False
/-- a table whose code objects are known -/
def TabF (H F : Hp) (P : Addr) (q : Str) : Prop := ∃ ps : Array Value, H P = some (.tbl ps) ∧ TriplesOk ps.toList ∧ ∀ (pos : Pos) (cv : Value), codeAmong pos ps.toList = some cv → ∃ c, cv = .ref c ∧ F c = some (LamX.CodeO c q)
/-- the tables of code objects -/
def TabsT (T : List (Addr × Option Str)) (H F : Hp) : Prop := ∀ p ∈ T, match p.2 with
  | some q => TabF H F p.1 q
  | none => GxR.TabG H p.1
theorem TabsT.to {T : List (Addr × Option Str)} {H F H' F' : Hp} (t : TabsT T H F) (h : ∀ b ps, H b = some (.tbl ps) → H' b = some (.tbl ps)) (f : ∀ a o, F a = some o → F' a = some o) : TabsT T H' F' := fun p hp => by
  have := t p hp
  revert this
  cases p.2 with
  | some q =>
    rintro ⟨ps, h1, h2, h3⟩
    refine ⟨ps, h _ _ h1, h2, fun pos cv hc => ?_⟩
    obtain ⟨c, e1, e2⟩ := h3 pos cv hc
    exact ⟨c, e1, f _ _ e2⟩
  | none =>
    rintro ⟨ps, h1, h2⟩
    exact ⟨ps, h _ _ h1, h2⟩
def isTbl : HO → Bool
  | .tbl _ => true
  | _ => false
structure SR (G : GP) (H : Hp) (st : Sto) (g : Gh) : Prop where
  fh : ∀ a o, g.F a = some o → H a = some o ∧ g.Mu a = none ∧ isTbl o = false
  live : ∀ a t, g.Mu a = some t → ∃ xs, H a = some (.lst xs)
  alen : g.ad.length = st.length
  objs : ∀ (k : Nat) (ob : Ob), st[k]? = some ob → ∃ a, g.ad[k]? = some a ∧ g.Mu a = some (.obj k) ∧ OR G g.F g.ad H a ob
  tabs : TabsT G.T H g.F
/-- one list of addresses and frozen things goes on; only objects of the store change -/
structure Ext (H : Hp) (g : Gh) (H' : Hp) (g' : Gh) : Prop where
  f : HLe g.F g'.F
  fn : ∀ a o, g'.F a = some o → g.F a = some o ∨ H a = none
  ad : ALe g.ad g'.ad
  mu : ∀ a t, g.Mu a = some t → g'.Mu a = some t
  mn : ∀ a t, g'.Mu a = some t → g.Mu a = some t ∨ H a = none
  keep : ∀ b o, H b = some o → isTbl o = false → (∀ k, g.Mu b ≠ some (.obj k)) → H' b = some o
  there : ∀ b, H' b = none → H b = none
theorem Ext.refl (H : Hp) (g : Gh) : Ext H g H g := ⟨HLe.refl _, fun _ _ h => .inl h, ALe.refl _, fun _ _ h => h, fun _ _ h => .inl h, fun _ _ h _ _ => h, fun _ h => h⟩
theorem Ext.trans {H H1 H2 : Hp} {g g1 g2 : Gh} (a : Ext H g H1 g1) (b : Ext H1 g1 H2 g2) : Ext H g H2 g2 where
  f := a.f.trans b.f
  fn := fun x o h => by
    rcases b.fn x o h with h | h
    · exact a.fn x o h
    · exact .inr (a.there x h)
  ad := a.ad.trans b.ad
  mu := fun x t h => b.mu x t (a.mu x t h)
  mn := fun x t h => by
    rcases b.mn x t h with h | h
    · exact a.mn x t h
    · exact .inr (a.there x h)
  keep := fun x o h t n => b.keep x o (a.keep x o h t n) t fun k hk => by
    rcases a.mn x _ hk with hk | hk
    · exact n k hk
    · rw [h] at hk
      cases hk
  there := fun x h => a.there x (b.there x h)

/-- the slots -/
def SlotR (G : GP) (g : Gh) (H : Hp) (i : Nat) (w : Option (Option V)) : Sl → Prop
  | .no => True
  | .val d => ∃ v, w = some (some v) ∧ Rp G g.F g.ad d v
  | .own l => ∃ p vs, w = some (some (.ref p)) ∧ H p = some (.lst vs) ∧ g.Mu p = some (.slot i) ∧ Rps G g.F g.ad l vs
def ER (G : GP) (Γ : Env) (σ : L2.St) (H : Hp) (g : Gh) : Prop := σ.length = Γ.length ∧ ∀ i s, Γ[i]? = some s → SlotR G g H i σ[i]? s
theorem SlotR.ext {G : GP} {g g' : Gh} {H H' : Hp} {i : Nat} {w : Option (Option V)} {s : Sl} (x : Ext H g H' g') (h : SlotR G g H i w s) : SlotR G g' H' i w s := by
  cases s with
  | no => trivial
  | val d =>
    obtain ⟨v, e, q⟩ := h
    exact ⟨v, e, q.mono x.f x.ad⟩
  | own l =>
    obtain ⟨p, vs, e, h1, h2, h3⟩ := h
    exact ⟨p, vs, e, x.keep p _ h1 rfl (fun k hk => by rw [h2] at hk; cases hk), x.mu _ _ h2, h3.mono x.f x.ad⟩
theorem ER.ext {G : GP} {g g' : Gh} {H H' : Hp} {Γ : Env} {σ : L2.St} (x : Ext H g H' g') (h : ER G Γ σ H g) : ER G Γ σ H' g' := ⟨h.1, fun i s e => (h.2 i s e).ext x⟩

/-- a value that may be a list of a slot's own -/
def Ru (G : GP) (g : Gh) (H : Hp) (d : D) (v : V) : Prop := Rp G g.F g.ad d v ∨ ∃ l p vs i, d = .lst l ∧ v = .ref p ∧ H p = some (.lst vs) ∧ g.Mu p = some (.slot i) ∧ Rps G g.F g.ad l vs
theorem Ru.ext {G : GP} {g g' : Gh} {H H' : Hp} {d : D} {v : V} (x : Ext H g H' g') (h : Ru G g H d v) : Ru G g' H' d v := by
  rcases h with h | ⟨l, p, vs, i, e, e', h1, h2, h3⟩
  · exact .inl (h.mono x.f x.ad)
  · exact .inr ⟨l, p, vs, i, e, e', x.keep p _ h1 rfl (fun k hk => by rw [h2] at hk; cases hk), x.mu _ _ h2, h3.mono x.f x.ad⟩
def Rx (s : Bool) (G : GP) (g : Gh) (H : Hp) (d : D) (v : V) : Prop := if s = true then Rp G g.F g.ad d v else Ru G g H d v
theorem Rx.u {s : Bool} {G : GP} {g : Gh} {H : Hp} {d : D} {v : V} (h : Rx s G g H d v) : Ru G g H d v := by
  cases s with
  | true => exact .inl h
  | false => exact h
theorem Rx.ext {s : Bool} {G : GP} {g g' : Gh} {H H' : Hp} {d : D} {v : V} (x : Ext H g H' g') (h : Rx s G g H d v) : Rx s G g' H' d v := by
  cases s with
  | true => exact Rp.mono x.f x.ad h
  | false => exact Ru.ext x h
theorem Rx.weak {s : Bool} {G : GP} {g : Gh} {H : Hp} {d : D} {v : V} (h : Rx true G g H d v) : Rx s G g H d v := by
  cases s with
  | true => exact h
  | false => exact .inl h
/-- lists of values, none a slot's own -/
def Rus (G : GP) (g : Gh) (H : Hp) : List D → List V → Prop
  | [], vs => vs = []
  | d :: r, vs => ∃ v t, vs = v :: t ∧ Ru G g H d v ∧ Rus G g H r t

section
variable {G : GP} {g g' : Gh} {H H' : Hp} {st : Sto}
theorem SR.hle (S : SR G H st g) : HLe g.F H := fun a o h => (S.fh a o h).1
/-- a new frozen thing -/
theorem SR.freeze (S : SR G H st g) {p : Addr} {o : HO} (hp : H p = none) (ht : isTbl o = false) : SR G (upd H p o) st { g with F := upd g.F p o } ∧ Ext H g (upd H p o) { g with F := upd g.F p o } := by
  have nF : g.F p = none := by
    cases q : g.F p with
    | none => rfl
    | some u => rw [(S.fh p u q).1] at hp; cases hp
  have nM : g.Mu p = none := by
    cases q : g.Mu p with
    | none => rfl
    | some t => obtain ⟨xs, e⟩ := S.live p t q; rw [e] at hp; cases hp
  have kp : ∀ b u, H b = some u → upd H p o b = some u := fun b u e => by rw [upd_ne (ne_of_none e hp)]; exact e
  have fle : HLe g.F (upd g.F p o) := fun a u e => by rw [upd_ne (ne_of_none e nF)]; exact e
  refine ⟨⟨fun a u e => ?_, fun a t e => ?_, S.alen, fun k ob e => ?_, S.tabs.to (fun b ps e => kp b _ e) fle⟩, ⟨fle, fun a u e => ?_, ALe.refl _, fun _ _ h => h, fun _ _ h => .inl h, fun b u e _ _ => kp b u e, fun b e => ?_⟩⟩
  · by_cases h : a = p
    · subst h
      have e' : upd g.F a o a = some u := e
      rw [upd_same] at e'
      cases e'
      exact ⟨upd_same, nM, ht⟩
    · have e' : upd g.F p o a = some u := e
      rw [upd_ne h] at e'
      obtain ⟨h1, h2, h3⟩ := S.fh a u e'
      exact ⟨kp a u h1, h2, h3⟩
  · obtain ⟨xs, h1⟩ := S.live a t e
    exact ⟨xs, kp a _ h1⟩
  · obtain ⟨a, h1, h2, h3⟩ := S.objs k ob e
    refine ⟨a, h1, h2, ?_⟩
    cases ob with
    | lst l =>
      obtain ⟨vs, h4, h5⟩ := h3
      exact ⟨vs, kp a _ h4, h5.mono fle (ALe.refl _)⟩
    | dic _ _ => exact h3
    | ins _ _ => exact h3
  · by_cases h : a = p
    · subst h
      exact .inr hp
    · have e' : upd g.F p o a = some u := e
      rw [upd_ne h] at e'
      exact .inl e'
  · by_cases h : b = p
    · subst h
      exact hp
    · rw [upd_ne h] at e
      exact e
theorem rp_new_tup (S : SR G H st g) {p : Addr} {l : List D} {vs : List V} (hp : H p = none) (r : Rps G g.F g.ad l vs) : Rp G (upd g.F p (.tup vs)) g.ad (.tup l) (.ref p) := by
  have x := (S.freeze (o := .tup vs) hp rfl).2
  exact ⟨p, vs, rfl, .inl (.inl upd_same), r.mono x.f x.ad⟩
theorem rp_new_lst (S : SR G H st g) {p : Addr} {l : List D} {vs : List V} (hp : H p = none) (r : Rps G g.F g.ad l vs) : Rp G (upd g.F p (.lst vs)) g.ad (.lst l) (.ref p) := by
  have x := (S.freeze (o := .lst vs) hp rfl).2
  exact ⟨p, vs, rfl, upd_same, r.mono x.f x.ad⟩
/-- a list, tracked -/
theorem Ru.lst (S : SR G H st g) {v : V} {l : List D} (h : Ru G g H (.lst l) v) : ∃ a vs, v = .ref a ∧ H a = some (.lst vs) ∧ Rps G g.F g.ad l vs := by
  rcases h with ⟨a, vs, e1, q, r⟩ | ⟨l, p, vs, i, z, e1, h1, h2, h3⟩
  · exact ⟨a, vs, e1, S.hle _ _ q, r⟩
  · cases z
    exact ⟨p, vs, e1, h1, h3⟩
/-- a sequence, read -/
theorem Ru.seq (S : SR G H st g) {d : D} {v : V} {l : List D} (h : Ru G g H d v) (e : sq st d = some l) : ∃ a vs, v = .ref a ∧ (SqL G.K H a vs ∨ SqT G.K H a vs) ∧ Rps G g.F g.ad l vs := by
  cases d with
  | tup m =>
    cases e
    rcases h with ⟨a, vs, e1, q, r⟩ | ⟨_, _, _, _, z, _⟩
    · exact ⟨a, vs, e1, .inr (S.hle.sqT q), r⟩
    · cases z
  | lst m =>
    cases e
    rcases h with ⟨a, vs, e1, q, r⟩ | ⟨l, p, vs, i, z, e1, h1, h2, h3⟩
    · exact ⟨a, vs, e1, .inl (.inl (.inl (S.hle _ _ q))), r⟩
    · cases z
      exact ⟨p, vs, e1, .inl (.inl (.inl h1)), h3⟩
  | ref k =>
    rcases h with ⟨a, e1, q⟩ | ⟨_, _, _, _, z, _⟩
    · have e : (match st[k]? with | some (.lst l) => some l | _ => none) = some l := e
      cases hk : st[k]? with
      | none => rw [hk] at e; cases e
      | some ob =>
        rw [hk] at e
        cases ob with
        | lst m =>
          cases e
          obtain ⟨a', h1, h2, vs, h3, h4⟩ := S.objs k _ hk
          rw [q] at h1
          cases h1
          exact ⟨a, vs, e1, .inl (.inl (.inl h3)), h4⟩
        | dic _ _ => cases e
        | ins _ _ => cases e
    · cases z
  | non => cases e
  | bl _ => cases e
  | int _ => cases e
  | str _ => cases e
  | dic _ _ => cases e
  | lam _ => cases e
  | scr _ => cases e
theorem Ru.flat {d : D} {v : V} (h : Ru G g H d v) (f : d.flat = true) : Rp G g.F g.ad d v := by
  rcases h with h | ⟨_, _, _, _, z, _⟩
  · exact h
  · rw [z] at f
    cases f
theorem Ru.int {i : Int} {v : V} (h : Ru G g H (.int i) v) : v = .int i := h.flat rfl
theorem Ru.str {s : Str} {v : V} (h : Ru G g H (.str s) v) : v = .str s := h.flat rfl
theorem Ru.bl {b : Bool} {v : V} (h : Ru G g H (.bl b) v) : v = .bl b := h.flat rfl
theorem Ru.non {v : V} (h : Ru G g H .non v) : v = .non := h.flat rfl
end
end Eng
/-! Eng.C: operators and built-ins, by data. -/
namespace Eng
open PySem PySem.Spec PyProof.Rows L2

/-! ### == -/
mutual
def D.toP : D → PyData
  | .non => .none
  | .bl b => .bool b
  | .int i => .int i
  | .str s => .str s
  | .tup l => .tuple (D.toPs l)
  | .lst l => .list (D.toPs l)
  | _ => .none
def D.toPs : List D → List PyData
  | [] => []
  | d :: r => D.toP d :: D.toPs r
end
mutual
theorem shp_can : ∀ (n : Nat) (d : D), D.shp n d = true → (D.toP d).canLay0 = true ∧ (D.toP d).depth ≤ n
  | n, .non, _ => by simp [D.toP, PyData.canLay0, PyData.depth]
  | n, .bl b, _ => by simp [D.toP, PyData.canLay0, PyData.depth]
  | n, .int i, _ => by simp [D.toP, PyData.canLay0, PyData.depth]
  | n, .str s, h => by
    have h : PyData.strOk s = true := by cases n <;> simpa [D.shp] using h
    simp [D.toP, PyData.canLay0, PyData.depth, h]
  | 0, .tup l, h => by simp [D.shp] at h
  | 0, .lst l, h => by simp [D.shp] at h
  | n + 1, .tup l, h => by
    have ih := shps_can n l (by simpa [D.shp] using h)
    simp only [D.toP, PyData.canLay0, PyData.depth]
    exact ⟨ih.1, Nat.succ_le_succ ih.2⟩
  | n + 1, .lst l, h => by
    have ih := shps_can n l (by simpa [D.shp] using h)
    simp only [D.toP, PyData.canLay0, PyData.depth]
    exact ⟨ih.1, Nat.succ_le_succ ih.2⟩
  | n, .dic _ _, h => by cases n <;> simp [D.shp] at h
  | n, .ref _, h => by cases n <;> simp [D.shp] at h
  | n, .lam _, h => by cases n <;> simp [D.shp] at h
  | n, .scr _, h => by cases n <;> simp [D.shp] at h
theorem shps_can : ∀ (n : Nat) (l : List D), D.shps n l = true → PyData.canLayAll0 (D.toPs l) = true ∧ PyData.depthAll (D.toPs l) ≤ n
  | n, [], _ => by simp [D.toPs, PyData.canLayAll0, PyData.depthAll]
  | n, d :: r, h => by
    have h : D.shp n d = true ∧ D.shps n r = true := by simpa [D.shps] using h
    have i1 := shp_can n d h.1
    have i2 := shps_can n r h.2
    simp only [D.toPs, PyData.canLayAll0, PyData.depthAll, i1.1, i2.1, Bool.and_self, true_and]
    omega
end
mutual
theorem eqb_toP : ∀ (n m : Nat) (d e : D), D.shp n d = true → D.shp m e = true → D.eqb d e = PyData.eqv (D.toP d) (D.toP e)
  | n, m, .non, e, _, h => by cases e <;> first | rfl | (cases m <;> simp [D.shp] at h)
  | n, m, .bl b, e, _, h => by cases e <;> first | rfl | (cases m <;> simp [D.shp] at h)
  | n, m, .int i, e, _, h => by cases e <;> first | rfl | (cases m <;> simp [D.shp] at h)
  | n, m, .str s, e, _, h => by cases e <;> first | rfl | (cases m <;> simp [D.shp] at h)
  | 0, m, .tup l, e, h, _ => by simp [D.shp] at h
  | 0, m, .lst l, e, h, _ => by simp [D.shp] at h
  | n + 1, m, .tup l, e, h, h' => by
    have h : D.shps n l = true := by simpa [D.shp] using h
    cases e with
    | tup l' =>
      cases m with
      | zero => simp [D.shp] at h'
      | succ m =>
        have h' : D.shps m l' = true := by simpa [D.shp] using h'
        simp only [D.eqb, D.toP, PyData.eqv]
        exact eqbs_toP n m l l' h h'
    | _ => first | rfl | (cases m <;> simp [D.shp] at h')
  | n + 1, m, .lst l, e, h, h' => by
    have h : D.shps n l = true := by simpa [D.shp] using h
    cases e with
    | lst l' =>
      cases m with
      | zero => simp [D.shp] at h'
      | succ m =>
        have h' : D.shps m l' = true := by simpa [D.shp] using h'
        simp only [D.eqb, D.toP, PyData.eqv]
        exact eqbs_toP n m l l' h h'
    | _ => first | rfl | (cases m <;> simp [D.shp] at h')
  | n, m, .dic _ _, e, h, _ => by cases n <;> simp [D.shp] at h
  | n, m, .ref _, e, h, _ => by cases n <;> simp [D.shp] at h
  | n, m, .lam _, e, h, _ => by cases n <;> simp [D.shp] at h
  | n, m, .scr _, e, h, _ => by cases n <;> simp [D.shp] at h
theorem eqbs_toP : ∀ (n m : Nat) (d e : List D), D.shps n d = true → D.shps m e = true → D.eqbs d e = PyData.eqvAll (D.toPs d) (D.toPs e)
  | n, m, [], e, _, _ => by cases e <;> rfl
  | n, m, d :: r, [], _, _ => rfl
  | n, m, d :: r, e :: t, h, h' => by
    have h : D.shp n d = true ∧ D.shps n r = true := by simpa [D.shps] using h
    have h' : D.shp m e = true ∧ D.shps m t = true := by simpa [D.shps] using h'
    simp only [D.eqbs, D.toPs, PyData.eqvAll]
    rw [eqb_toP n m d e h.1 h'.1, eqbs_toP n m r t h.2 h'.2]
end
section
variable {G : GP} {F H : Hp} {ad : List Addr}
mutual
theorem Rp.dp (hF : HLe F H) : ∀ (n : Nat) (d : D) (v : V), D.shp n d = true → Rp G F ad d v → Dp G.K H v (D.toP d)
  | n, .non, v, _, h => by rw [show v = .non from h]; exact .non
  | n, .bl b, v, _, h => by rw [show v = .bl b from h]; exact .bl b
  | n, .int i, v, _, h => by rw [show v = .int i from h]; exact .int i
  | n, .str s, v, _, h => by rw [show v = .str s from h]; exact .str s
  | 0, .tup l, v, h, _ => by simp [D.shp] at h
  | 0, .lst l, v, h, _ => by simp [D.shp] at h
  | n + 1, .tup l, v, h, ⟨a, vs, e, q, r⟩ => by
    rw [e]
    exact .tup (hF.sqT q) (Rps.dp hF n l vs (by simpa [D.shp] using h) r)
  | n + 1, .lst l, v, h, ⟨a, vs, e, q, r⟩ => by
    rw [e]
    exact .lst (.inl (.inl (hF _ _ q))) (Rps.dp hF n l vs (by simpa [D.shp] using h) r)
  | n, .dic _ _, v, h, _ => by cases n <;> simp [D.shp] at h
  | n, .ref _, v, h, _ => by cases n <;> simp [D.shp] at h
  | n, .lam _, v, h, _ => by cases n <;> simp [D.shp] at h
  | n, .scr _, v, h, _ => by cases n <;> simp [D.shp] at h
theorem Rps.dp (hF : HLe F H) : ∀ (n : Nat) (l : List D) (vs : List V), D.shps n l = true → Rps G F ad l vs → DpAll G.K H vs (D.toPs l)
  | n, [], vs, _, h => by rw [show vs = [] from h]; exact .nil
  | n, d :: r, vs, h, ⟨v, t, e, q, s⟩ => by
    have h : D.shp n d = true ∧ D.shps n r = true := by simpa [D.shps] using h
    rw [e]
    exact .cons (Rp.dp hF n d v h.1 q) (Rps.dp hF n r t h.2 s)
end
end
theorem Ru.dp {G : GP} {g : Gh} {H : Hp} {st : Sto} (S : SR G H st g) {d : D} {v : V} (hs : D.shp 60 d = true) (h : Ru G g H d v) : Dp G.K H v (D.toP d) := by
  rcases h with h | ⟨l, p, vs, i, e, e', h1, h2, h3⟩
  · exact h.dp S.hle 60 d v hs
  · subst e
    rw [e']
    exact .lst (.inl (.inl h1)) (h3.dp S.hle 59 l vs (by simpa [D.shp] using hs))
theorem shaped_of {d : D} (h : D.shp 60 d = true) : SeqAt.shaped (D.toP d) = true := by
  have := shp_can 60 d h
  unfold SeqAt.shaped
  rw [this.1, decide_eq_true (by omega : (D.toP d).depth ≤ 64)]
  rfl

/-! ### readings by data -/
/-- what is wanted of an outcome -/
def Wp {α : Type} (G : GP) (E : Value → Hp → Prop) (r : R α) (H : Hp) (g : Gh) (post : α → Sto → Hp → Gh → Prop) : Prop := match r with
  | .ok a st' => ∀ H' g', SR G H' st' g' → Ext H g H' g' → post a st' H' g'
  | .er c st' => ∀ H' g', SR G H' st' g' → Ext H g H' g' → E (.ref (G.ca c)) H'
  | .bad => False
section
variable {α β : Type} {G : GP} {E : Value → Hp → Prop} {H H1 : Hp} {g g1 : Gh}
theorem Wp.ext {r : R α} {post : α → Sto → Hp → Gh → Prop} (x : Ext H g H1 g1) (w : Wp G E r H g post) : Wp G E r H1 g1 post := by
  cases r with
  | ok a st => exact fun H' g' S y => w H' g' S (x.trans y)
  | er c st => exact fun H' g' S y => w H' g' S (x.trans y)
  | bad => exact w
theorem Wp.imp {r : R α} {post post' : α → Sto → Hp → Gh → Prop} (w : Wp G E r H g post) (h : ∀ a st' H' g', SR G H' st' g' → Ext H g H' g' → post a st' H' g' → post' a st' H' g') : Wp G E r H g post' := by
  cases r with
  | ok a st => exact fun H' g' S y => h a st H' g' S y (w H' g' S y)
  | er c st => exact w
  | bad => exact w
theorem Wp.bind {r : R α} {k : α → Sto → R β} {post : β → Sto → Hp → Gh → Prop} (w : Wp G E (r.bind k) H g post) : Wp G E r H g fun a st1 H1 g1 => Wp G E (k a st1) H1 g1 post := by
  cases r with
  | ok a st => exact fun H' g' S y => Wp.ext y (show Wp G E (k a st) H g post from w)
  | er c st => exact w
  | bad => exact w
theorem Wp.now {a : α} {st : Sto} {post : α → Sto → Hp → Gh → Prop} (S : SR G H st g) (w : Wp G E (.ok a st) H g post) : post a st H g := w H g S (Ext.refl H g)
theorem Wp.ofO {o : Option α} {st : Sto} {post : α → Sto → Hp → Gh → Prop} (w : Wp G E (ofO o st) H g post) : ∃ a, o = some a ∧ Wp G E (.ok a st) H g post := by
  cases o with
  | some a => exact ⟨a, rfl, w⟩
  | none => exact w.elim
theorem Wp.noEr {r : R α} {post : α → Sto → Hp → Gh → Prop} (w : Wp G E r.noEr H g post) : Wp G (fun _ _ => False) r H g post := by
  cases r with
  | ok a st => exact w
  | er c st => exact w.elim
  | bad => exact w
end
abbrev Eσ (W : WX) (σ : L2.St) : Value → Hp → Prop := fun c H => W c none σ H
/-- an expression's reading -/
def TEv (G : GP) (W : WX) (s : Bool) (f : Env → Sto → R D) : TE := fun σ H Q => ∃ Γ st g, SR G H st g ∧ ER G Γ σ H g ∧ Wp G (Eσ W σ) (f Γ st) H g fun d _ H' g' => ∀ v, Rx s G g' H' d v → Q v H'
def TTv (G : GP) (W : WX) (f : Env → Sto → R Bool) : TT := fun σ H Q => ∃ Γ st g, SR G H st g ∧ ER G Γ σ H g ∧ Wp G (Eσ W σ) (f Γ st) H g fun b _ H' g' => Q b H'
def TAv (G : GP) (W : WX) (s : Bool) (f : Env → Sto → R (List D)) : TA := fun σ H Q => ∃ Γ st g, SR G H st g ∧ ER G Γ σ H g ∧ Wp G (Eσ W σ) (f Γ st) H g fun l _ H' g' => ∀ vs, (if s = true then Rps G g'.F g'.ad l vs else Rus G g' H' l vs) → Q vs H'
theorem _root_.L2.PE.weak {X : Cx} {e : Expr} {t t' : TE} (h : PE X e t) (i : ∀ σ H Q, t' σ H Q → t σ H Q) : PE X e t' := ⟨fun pins s σ H Q I q => h.run pins s σ H Q I (i σ H Q q)⟩
theorem _root_.L2.PT.weak {X : Cx} {e : Expr} {t t' : TT} (h : PT X e t) (i : ∀ σ H Q, t' σ H Q → t σ H Q) : PT X e t' := ⟨fun pins s σ H Q I q => h.run pins s σ H Q I (i σ H Q q)⟩
theorem _root_.L2.PA.weak {X : Cx} {e : List Expr} {t t' : TA} (h : PA X e t) (i : ∀ σ H Q, t' σ H Q → t σ H Q) : PA X e t' := ⟨fun pos pins s σ H Q I q => h.run pos pins s σ H Q I (i σ H Q q)⟩

/-- an operation's reading by data: what it makes of two values -/
def rV2 (G : GP) (op : Sto → D → D → Option D) : R2 := fun x y H Q => ∃ st g d e z, SR G H st g ∧ Ru G g H d x ∧ Ru G g H e y ∧ op st d e = some z ∧ ∀ v H' g', SR G H' st g' → Ext H g H' g' → Rp G g'.F g'.ad z v → Q v H'
def opOf : Bop → Operator
  | .add => .Add
  | .sub => .Sub
  | .mul => .Mult
  | .fdiv => .FloorDiv
  | .mod => .Mod
  | .pow => .Pow
section
variable {X : Cx} {G : GP}
theorem mulOk_ok {i j : Int} (h : mulOk i j = true) : IntMulOk i j := by
  unfold mulOk at h
  simp only [Bool.or_eq_true, decide_eq_true_eq] at h
  rcases h with (h | h) | h
  · exact CMul.ok (.inl (by omega))
  · exact CMul.ok (.inr (by omega))
  · exact CMulW.ok h
theorem sl_len : (1000000 : Nat) + 1000000 ≤ sizeLine := by rw [sizeLine_eq]; decide
theorem lim_sl {n : Nat} (h : n < lim) : n ≤ sizeLine := by have := sl_len; unfold lim at h; omega
theorem lim_sl' {n : Nat} (h : n < lim) : n < sizeLine := by have := sl_len; unfold lim at h; omega
theorem bop_R (hK : X.K = G.K) (o : Bop) : OpR X (binaryOp (opOf o)) (rV2 G fun _ => bopV o) := by
  intro pins s σ H x y v u Q I rx ry h
  obtain ⟨st, g, d, e, z, S, hd, he, ho, q⟩ := h
  have flat : ∀ {w : V}, Rp G g.F g.ad z w → Q w H := fun r => q _ H g S (Ext.refl H g) r
  have onI : ∀ (f : Int → Int → Int) (C : Int → Int → Prop) {oo : Operator}, OpR X (binaryOp oo) (rI C fun i j => .int (f i j)) → ∀ i j, d = .int i → e = .int j → C i j → z = .int (f i j) → wpAny (model X.prog X.w) X.A (binaryOp oo v u) (EP X pins σ Q) X.xe s := by
    intro f C oo hop i j ed ee hc ez
    subst ed ee ez
    exact hop pins s σ H x y v u Q I rx ry ⟨i, j, hd.int, he.int, hc, flat rfl⟩
  replace ho : bopV o d e = some z := ho
  unfold bopV at ho
  split at ho
  · cases ho
    exact onI (fun i j => i + j) (fun _ _ => True) (fun pins s σ H x y v u Q I rx ry ⟨i, j, a, b, _, q⟩ => op_add pins s σ H x y v u Q I rx ry ⟨i, j, a, b, q⟩) _ _ rfl rfl trivial rfl
  · cases ho
    exact onI (fun i j => i - j) (fun _ _ => True) (fun pins s σ H x y v u Q I rx ry ⟨i, j, a, b, _, q⟩ => op_sub pins s σ H x y v u Q I rx ry ⟨i, j, a, b, q⟩) _ _ rfl rfl trivial rfl
  · rename_i i j
    by_cases hc : mulOk i j = true
    · rw [if_pos hc] at ho
      cases ho
      exact onI (fun i j => i * j) (fun i j => mulOk i j = true) (opI fun _ _ _ _ _ _ _ hc q => mul_int q (mulOk_ok hc)) _ _ rfl rfl hc rfl
    · rw [if_neg hc] at ho
      cases ho
  · rename_i i j
    by_cases hc : divOk j = true
    · rw [if_pos hc] at ho
      cases ho
      refine onI (fun i j => i.fdiv j) (fun _ j => divOk j = true) (opI fun _ _ _ _ _ _ _ hc q => ?_) _ _ rfl rfl hc rfl
      unfold divOk at hc
      simp only [Bool.and_eq_true, decide_eq_true_eq] at hc
      exact floordiv_int hc.1 q (.inl (PyProof.noPylong_of_log2 hc.2))
    · rw [if_neg hc] at ho
      cases ho
  · rename_i i j
    by_cases hc : j = 0
    · rw [if_pos hc] at ho
      cases ho
    · rw [if_neg hc] at ho
      cases ho
      exact onI (fun i j => i.fmod j) (fun _ j => j ≠ 0) op_modN _ _ rfl rfl hc rfl
  · rename_i i j
    by_cases hc : powOk i j = true
    · rw [if_pos hc] at ho
      cases ho
      unfold powOk at hc
      simp only [Bool.and_eq_true, decide_eq_true_eq] at hc
      exact onI (fun i j => i ^ j.toNat) CPow op_pow _ _ rfl rfl ⟨hc.1.1, by omega, hc.2⟩ rfl
    · rw [if_neg hc] at ho
      cases ho
  · rename_i a b
    by_cases hc : (bigOk a && bigOk b) = true
    · rw [if_pos hc] at ho
      cases ho
      simp only [bigOk, Bool.and_eq_true, decide_eq_true_eq] at hc
      obtain ⟨pa, va, rfl, h1, r1⟩ := hd.lst S
      obtain ⟨pb, vb, rfl, h2, r2⟩ := he.lst S
      refine op_cat pins s σ H _ _ v u Q I rx ry ⟨pa, pb, va, vb, rfl, rfl, h1, h2, ?_, fun p hp => ?_⟩
      · have e1 := r1.length
        have e2 := r2.length
        have := sl_len
        unfold lim at hc
        omega
      · have f := S.freeze (o := .lst (va ++ vb)) hp rfl
        exact q _ _ _ f.1 f.2 (rp_new_lst S hp (r1.append r2))
    · rw [if_neg hc] at ho
      cases ho
  · rename_i a b
    by_cases hc : (bigOk a && bigOk b) = true
    · rw [if_pos hc] at ho
      cases ho
      simp only [bigOk, Bool.and_eq_true, decide_eq_true_eq] at hc
      have tp : ∀ {l : List D} {w : V}, Ru G g H (.tup l) w → ∃ p vs, w = .ref p ∧ SqT G.K g.F p vs ∧ Rps G g.F g.ad l vs := fun h => by
        rcases h with h | ⟨_, _, _, _, z, _⟩
        · exact h
        · cases z
      obtain ⟨pa, va, rfl, h1, r1⟩ := tp hd
      obtain ⟨pb, vb, rfl, h2, r2⟩ := tp he
      have nn : ∀ {l : List D}, Rps G g.F g.ad l [] → l = [] := fun {l} r => by
        cases l with
        | nil => rfl
        | cons _ _ => obtain ⟨_, _, z, _⟩ := r; cases z
      refine op_catA pins s σ H _ _ v u Q I rx ry ⟨pa, pb, va, vb, rfl, rfl, by rw [hK]; exact S.hle.sqT h1, by rw [hK]; exact S.hle.sqT h2, ?_, fun e => ?_, fun _ e => ?_, fun _ _ p hp => ?_⟩
      · have e1 := r1.length
        have e2 := r2.length
        have := sl_len
        unfold lim at hc
        omega
      · subst e
        have e := nn r1
        subst e
        exact flat ⟨pb, vb, rfl, h2, r2⟩
      · subst e
        have e := nn r2
        subst e
        exact flat ⟨pa, va, rfl, h1, by rw [List.append_nil]; exact r1⟩
      · have f := S.freeze (o := .tup (va ++ vb)) hp rfl
        exact q _ _ _ f.1 f.2 (rp_new_tup S hp (r1.append r2))
    · rw [if_neg hc] at ho
      cases ho
  · rename_i a b
    by_cases hc : a.length < lim ∧ b.length < lim
    · rw [if_pos hc] at ho
      cases ho
      refine op_add_str pins s σ H _ _ v u Q I rx ry ⟨a, b, hd.str, he.str, ?_, flat rfl⟩
      have := sl_len
      unfold lim at hc
      omega
    · rw [if_neg hc] at ho
      cases ho
  · rename_i l k
    by_cases hc : -(2 ^ 60) < k ∧ k < 2 ^ 60 ∧ l.length * k.toNat < lim
    · rw [if_pos hc] at ho
      cases ho
      obtain ⟨pa, va, rfl, h1, r1⟩ := hd.lst S
      refine op_rep pins s σ H _ _ v u Q I rx ry ⟨pa, k, va, rfl, he.int, h1, by omega, by omega, ?_, fun p hp => ?_⟩
      · rw [r1.length]
        exact lim_sl hc.2.2
      · have f := S.freeze (o := .lst (List.replicate k.toNat va).flatten) hp rfl
        exact q _ _ _ f.1 f.2 (rp_new_lst S hp (r1.rep _))
    · rw [if_neg hc] at ho
      cases ho
  · rename_i l k
    by_cases hc : l.isEmpty = false ∧ 2 ≤ k ∧ k ≤ 1000 ∧ l.length ≤ 1000
    · rw [if_pos hc] at ho
      cases ho
      rcases hd with ⟨pa, va, rfl, h1, r1⟩ | ⟨_, _, _, _, z, _⟩
      · refine op_repT pins s σ H _ _ v u Q I rx ry ⟨pa, k, va, rfl, he.int, by rw [hK]; exact S.hle.sqT h1, fun z => ?_, hc.2.1, hc.2.2.1, by rw [r1.length]; exact hc.2.2.2, fun p hp => ?_⟩
        · have := r1.length
          rw [z] at this
          cases l with
          | nil => cases hc.1
          | cons _ _ => cases this
        · have f := S.freeze (o := .tup (List.replicate k.toNat va).flatten) hp rfl
          exact q _ _ _ f.1 f.2 (rp_new_tup S hp (r1.rep _))
      · cases z
    · rw [if_neg hc] at ho
      cases ho
  · cases ho

/-! ### comparisons -/
def copOf : Cop → CmpOp
  | .eq => .Eq
  | .ne => .NotEq
  | .lt => .Lt
  | .le => .LtE
  | .gt => .Gt
  | .ge => .GtE
  | .is_ => .Is
  | .isn => .IsNot
  | .in_ => .In
  | .nin => .NotIn
theorem flat_V {G : GP} {F : Hp} {ad : List Addr} {d : D} {v : V} (h : Rp G F ad d v) (f : d.flat = true) : flatV v = true ∧ (∀ e w, Rp G F ad e w → e.flat = true → eqV v w = D.eqb d e) := by
  cases d with
  | non =>
    rw [show v = .non from h]
    refine ⟨rfl, fun e w r fe => ?_⟩
    cases e <;> first | (cases fe; done) | (rw [show w = _ from r]; rfl)
  | bl b =>
    rw [show v = .bl b from h]
    refine ⟨rfl, fun e w r fe => ?_⟩
    cases e <;> first | (cases fe; done) | (rw [show w = _ from r]; rfl)
  | int i =>
    rw [show v = .int i from h]
    refine ⟨rfl, fun e w r fe => ?_⟩
    cases e <;> first | (cases fe; done) | (rw [show w = _ from r]; rfl)
  | str s =>
    rw [show v = .str s from h]
    refine ⟨rfl, fun e w r fe => ?_⟩
    cases e <;> first | (cases fe; done) | (rw [show w = _ from r]; rfl)
  | _ => cases f
theorem flats_V {G : GP} {F : Hp} {ad : List Addr} {x : D} {w : V} (hx : Rp G F ad x w) (fx : x.flat = true) : ∀ {l : List D} {vs : List V}, Rps G F ad l vs → l.all D.flat = true → vs.all flatV = true ∧ inV w vs = memD x l
  | [], vs, h, _ => by rw [show vs = [] from h]; exact ⟨rfl, rfl⟩
  | d :: r, vs, ⟨v, t, e, q, s⟩, f => by
    rw [List.all_cons, Bool.and_eq_true] at f
    obtain ⟨h1, h2⟩ := flat_V q f.1
    obtain ⟨h3, h4⟩ := flats_V hx fx s f.2
    rw [e]
    refine ⟨by rw [List.all_cons, h1, h3]; rfl, ?_⟩
    show ((v :: t).any fun y => eqV y w) = ((d :: r).any fun y => D.eqb y x)
    rw [List.any_cons, List.any_cons, h2 x w hx fx]
    exact congrArg _ h4
theorem non_V {G : GP} {g : Gh} {H : Hp} {d : D} {v : V} (h : Ru G g H d v) : decide (v = .non) = d.isNon := by
  cases d with
  | non => rw [h.non]; rfl
  | bl b => rw [h.bl]; rfl
  | int i => rw [h.int]; rfl
  | str s => rw [h.str]; rfl
  | tup l =>
    rcases h with ⟨a, vs, e, _⟩ | ⟨_, _, _, _, z, _⟩
    · rw [e]; rfl
    · cases z
  | lst l =>
    rcases h with ⟨a, vs, e, _⟩ | ⟨_, _, _, _, _, e, _⟩
    · rw [e]; rfl
    · rw [e]; rfl
  | dic _ _ =>
    rcases h with h | ⟨_, _, _, _, z, _⟩
    · exact h.elim
    · cases z
  | ref k =>
    rcases h with ⟨a, e, _⟩ | ⟨_, _, _, _, z, _⟩
    · rw [e]; rfl
    · cases z
  | lam k =>
    rcases h with ⟨a, _, _, _, _, _, e, _⟩ | ⟨_, _, _, _, z, _⟩
    · rw [e]; rfl
    · cases z
  | scr k =>
    rcases h with ⟨a, _, e, _⟩ | ⟨_, _, _, _, z, _⟩
    · rw [e]; rfl
    · cases z
theorem cmp_R (hu : X.A.units + 64 < cLine) (hK : X.K = G.K) (o : Cop) : OpR X (compareOp (copOf o)) (rV2 G fun st d e => (cmpV st o d e).map .bl) := by
  intro pins s σ H x y v u Q I rx ry h
  obtain ⟨st, g, d, e, z, S, hd, he, ho, q⟩ := h
  replace ho : (cmpV st o d e).map D.bl = some z := ho
  cases hb : cmpV st o d e with
  | none => rw [hb] at ho; cases ho
  | some b =>
  rw [hb] at ho
  have ho : D.bl b = z := Option.some.inj ho
  subst ho
  have fin : ∀ {c : Bool}, c = b → Q (.bl c) H := fun ec => by subst ec; exact q _ H g S (Ext.refl H g) rfl
  unfold cmpV at hb
  split at hb
  · split at hb
    · rename_i hs
      rw [Bool.and_eq_true] at hs
      cases hb
      refine op_eqD hu pins s σ H x y v u Q I rx ry ⟨_, _, by rw [hK]; exact hd.dp S hs.1, by rw [hK]; exact he.dp S hs.2, shaped_of hs.1, shaped_of hs.2, fin (eqb_toP 60 60 _ _ hs.1 hs.2).symm⟩
    · cases hb
  · split at hb
    · rename_i hs
      rw [Bool.and_eq_true] at hs
      cases hb
      refine op_neD hu pins s σ H x y v u Q I rx ry ⟨_, _, by rw [hK]; exact hd.dp S hs.1, by rw [hK]; exact he.dp S hs.2, shaped_of hs.1, shaped_of hs.2, fin (congrArg not (eqb_toP 60 60 _ _ hs.1 hs.2).symm)⟩
    · cases hb
  · cases hb
    exact op_lt pins s σ H x y v u Q I rx ry ⟨_, _, hd.int, he.int, fin rfl⟩
  · cases hb
    exact op_le pins s σ H x y v u Q I rx ry ⟨_, _, hd.int, he.int, fin rfl⟩
  · cases hb
    exact op_gt pins s σ H x y v u Q I rx ry ⟨_, _, hd.int, he.int, fin rfl⟩
  · cases hb
    exact op_ge pins s σ H x y v u Q I rx ry ⟨_, _, hd.int, he.int, fin rfl⟩
  · refine op_isN pins s σ H x y v u Q I rx ry ⟨he.non, fin ?_⟩
    rw [non_V hd]
    exact Option.some.inj hb
  · refine op_notN pins s σ H x y v u Q I rx ry ⟨he.non, fin ?_⟩
    rw [non_V hd]
    exact Option.some.inj hb
  · split at hb
    · rename_i l hl
      split at hb
      · rename_i hf
        rw [Bool.and_eq_true] at hf
        cases hb
        obtain ⟨a, vs, rfl, hsq, r⟩ := he.seq S hl
        have hx := hd.flat hf.1
        obtain ⟨f1, f2⟩ := flats_V hx hf.1 r hf.2
        exact op_in_seq pins s σ H x _ v u Q I rx ry ⟨a, vs, rfl, by rw [hK]; exact hsq, (flat_V hx hf.1).1, f1, fin (by rw [← f2]; rfl)⟩
      · cases hb
    · cases hb
  · split at hb
    · rename_i l hl
      split at hb
      · rename_i hf
        rw [Bool.and_eq_true] at hf
        cases hb
        obtain ⟨a, vs, rfl, hsq, r⟩ := he.seq S hl
        have hx := hd.flat hf.1
        obtain ⟨f1, f2⟩ := flats_V hx hf.1 r hf.2
        exact op_notIn_seq pins s σ H x _ v u Q I rx ry ⟨a, vs, rfl, by rw [hK]; exact hsq, (flat_V hx hf.1).1, f1, fin (by rw [← f2]; rfl)⟩
      · cases hb
    · cases hb
  · cases hb
end
end Eng
/-! Eng.D: built-ins, truth, subscripts, displays, by data. -/
namespace Eng
open PySem PySem.Spec PyProof.Rows L2
section
variable {X : Cx} {G : GP}
/-- a call's reading by data -/
def rV1 (G : GP) (op : Sto → D → Option D) : List V → Hp → VK → Prop := fun xs H Q => ∃ st g d z x, xs = [x] ∧ SR G H st g ∧ Ru G g H d x ∧ op st d = some z ∧ ∀ v H' g', SR G H' st g' → Ext H g H' g' → Rp G g'.F g'.ad z v → Q v H'
def rW2 (G : GP) (op : D → D → Option D) : List V → Hp → VK → Prop := fun xs H Q => ∃ st g d e z x y, xs = [x, y] ∧ SR G H st g ∧ Ru G g H d x ∧ Ru G g H e y ∧ op d e = some z ∧ ∀ v H' g', SR G H' st g' → Ext H g H' g' → Rp G g'.F g'.ad z v → Q v H'
theorem intsOf_V {F : Hp} {ad : List Addr} : ∀ {l : List D} {vs : List V} {ns : List Int}, Rps G F ad l vs → intsOf l = some ns → vs = ns.map V.int
  | [], vs, ns, h, e => by
    cases e
    exact h
  | .int i :: r, vs, ns, ⟨v, t, e1, q, s⟩, e => by
    have e : (intsOf r).map (i :: ·) = some ns := e
    cases hr : intsOf r with
    | none => rw [hr] at e; cases e
    | some ms =>
      rw [hr] at e
      cases e
      rw [e1, show v = .int i from q, intsOf_V s hr]
      rfl
  | .non :: _, _, _, _, e => by cases e
  | .bl _ :: _, _, _, _, e => by cases e
  | .str _ :: _, _, _, _, e => by cases e
  | .tup _ :: _, _, _, _, e => by cases e
  | .lst _ :: _, _, _, _, e => by cases e
  | .dic _ _ :: _, _, _, _, e => by cases e
  | .ref _ :: _, _, _, _, e => by cases e
  | .lam _ :: _, _, _, _, e => by cases e
  | .scr _ :: _, _, _, _, e => by cases e
theorem abs_R : CallR X (.builtin "abs") (rV1 G fun st => b1V st .abs) := by
  intro pins s σ H xs us Q I r h
  obtain ⟨st, g, d, z, x, rfl, S, hd, ho, q⟩ := h
  cases d with
  | int i =>
    cases ho
    exact call_abs pins s σ H _ us Q I r ⟨i, by rw [hd.int], q _ H g S (Ext.refl H g) rfl⟩
  | _ => cases ho
theorem len_R (hK : X.K = G.K) : CallR X (.builtin "len") (rV1 G fun st => b1V st .len) := by
  intro pins s σ H xs us Q I r h
  obtain ⟨st, g, d, z, x, rfl, S, hd, ho, q⟩ := h
  have sqc : ∀ l : List D, sq st d = some l → z = .int l.length → wpAny (model X.prog X.w) X.A (call (.builtin "len") us) (EP X pins σ Q) X.xe s := fun l hl ez => by
    obtain ⟨a, vs, rfl, hs, rr⟩ := hd.seq S hl
    refine call_len_seq pins s σ H _ us Q I r ⟨a, vs, rfl, by rw [hK]; exact hs, q _ H g S (Ext.refl H g) ?_⟩
    rw [ez]
    show V.int _ = V.int _
    rw [rr.length]
  have viaS : (sq st d).map (fun l => D.int l.length) = some z → wpAny (model X.prog X.w) X.A (call (.builtin "len") us) (EP X pins σ Q) X.xe s := fun ho => by
    cases hl : sq st d with
    | none => rw [hl] at ho; cases ho
    | some l =>
      rw [hl] at ho
      exact sqc l hl (Option.some.inj ho).symm
  cases d with
  | str t =>
    have ho : (if t.length < lim then some (D.int t.length) else none) = some z := ho
    by_cases hc : t.length < lim
    · rw [if_pos hc] at ho
      cases ho
      exact call_len_str pins s σ H _ us Q I r ⟨t, by rw [hd.str], lim_sl hc, q _ H g S (Ext.refl H g) rfl⟩
    · rw [if_neg hc] at ho
      cases ho
  | _ => exact viaS ho
theorem int_R : CallR X (.type "int") (rV1 G fun st => b1V st .int) := by
  intro pins s σ H xs us Q I r h
  obtain ⟨st, g, d, z, x, rfl, S, hd, ho, q⟩ := h
  cases d with
  | int i =>
    cases ho
    exact call_int1 pins s σ H _ us Q I r (.inl ⟨i, by rw [hd.int], q _ H g S (Ext.refl H g) rfl⟩)
  | bl b =>
    cases ho
    exact call_int1 pins s σ H _ us Q I r (.inr ⟨b, by rw [hd.bl], q _ H g S (Ext.refl H g) rfl⟩)
  | _ => cases ho
theorem str_R : CallR X (.type "str") (rV1 G fun st => b1V st .str) := by
  intro pins s σ H xs us Q I r h
  obtain ⟨st, g, d, z, x, rfl, S, hd, ho, q⟩ := h
  cases d with
  | int i =>
    have ho : (if i.natAbs.log2 < 1920 then some (D.str (Str.ofString (toString i))) else none) = some z := ho
    by_cases hc : i.natAbs.log2 < 1920
    · rw [if_pos hc] at ho
      cases ho
      exact call_str_int pins s σ H _ us Q I r ⟨i, by rw [hd.int], hc, q _ H g S (Ext.refl H g) rfl⟩
    · rw [if_neg hc] at ho
      cases ho
  | _ => cases ho
theorem list_R (hK : X.K = G.K) : CallR X (.type "list") (rV1 G fun st => b1V st .list) := by
  intro pins s σ H xs us Q I r h
  obtain ⟨st, g, d, z, x, rfl, S, hd, ho, q⟩ := h
  have ho : (sq st d).map D.lst = some z := by cases d <;> exact ho
  cases hl : sq st d with
  | none => rw [hl] at ho; cases ho
  | some l =>
    rw [hl] at ho
    cases ho
    obtain ⟨a, vs, rfl, hs, rr⟩ := hd.seq S hl
    refine call_list_of pins s σ H _ us Q I r ⟨a, vs, rfl, by rw [hK]; exact hs, fun p hp => ?_⟩
    have f := S.freeze (o := .lst vs) hp rfl
    exact q _ _ _ f.1 f.2 (rp_new_lst S hp rr)
theorem tuple_R (hK : X.K = G.K) : CallR X (.type "tuple") (rV1 G fun st => b1V st .tuple) := by
  intro pins s σ H xs us Q I r h
  obtain ⟨st, g, d, z, x, rfl, S, hd, ho, q⟩ := h
  have ho : (sq st d).map D.tup = some z := by cases d <;> exact ho
  cases hl : sq st d with
  | none => rw [hl] at ho; cases ho
  | some l =>
    rw [hl] at ho
    cases ho
    have asL : ∀ a vs, x = .ref a → SqL G.K H a vs → Rps G g.F g.ad l vs → wpAny (model X.prog X.w) X.A (call (.type "tuple") us) (EP X pins σ Q) X.xe s := fun a vs e hs rr => by
      subst e
      refine call_tuple_of pins s σ H _ us Q I r ⟨a, vs, rfl, .inl ⟨by rw [hK]; exact hs, fun p hp => ?_⟩⟩
      have f := S.freeze (o := .tup vs) hp rfl
      exact q _ _ _ f.1 f.2 (rp_new_tup S hp rr)
    cases d with
    | tup m =>
      cases hl
      rcases hd with hd | ⟨_, _, _, _, e, _⟩
      · obtain ⟨a, vs, e, hs, rr⟩ := id hd
        subst e
        exact call_tuple_of pins s σ H _ us Q I r ⟨a, vs, rfl, .inr ⟨by rw [hK]; exact S.hle.sqT hs, q _ H g S (Ext.refl H g) hd⟩⟩
      · cases e
    | lst m =>
      cases hl
      obtain ⟨a, vs, e, hs, rr⟩ := hd.lst S
      exact asL a vs e (.inl (.inl hs)) rr
    | ref k =>
      rcases hd with ⟨a, e1, e2⟩ | ⟨_, _, _, _, z, _⟩
      · have hl' : (match st[k]? with | some (.lst l) => some l | _ => none) = some l := hl
        cases hk : st[k]? with
        | none => rw [hk] at hl'; cases hl'
        | some ob =>
          rw [hk] at hl'
          cases ob with
          | lst m =>
            cases hl'
            obtain ⟨a', h1, h2, vs, h3, h4⟩ := S.objs k _ hk
            rw [e2] at h1
            cases h1
            exact asL a vs e1 (.inl (.inl h3)) h4
          | dic _ _ => cases hl'
          | ins _ _ => cases hl'
      · cases z
    | _ => cases hl
theorem sum_R (hK : X.K = G.K) (hc : X.calm = true) : CallR X (.builtin "sum") (rV1 G fun st => b1V st .sum) := by
  intro pins s σ H xs us Q I r h
  obtain ⟨st, g, d, z, x, rfl, S, hd, ho, q⟩ := h
  cases d with
  | lst l =>
    have ho : (intsOf l).map (fun l => D.int l.sum) = some z := ho
    cases hn : intsOf l with
    | none => rw [hn] at ho; cases ho
    | some ns =>
      rw [hn] at ho
      cases ho
      obtain ⟨a, vs, rfl, hs, rr⟩ := hd.lst S
      have ev := intsOf_V rr hn
      subst ev
      exact cr_sum hc pins s σ H _ us Q I r ⟨a, ns, rfl, .inl (.inl hs), q _ H g S (Ext.refl H g) rfl⟩
  | _ => cases ho
theorem min2_R (hc : X.calm = true) : CallR X (.builtin "min") (rW2 G (b2V .min)) := by
  intro pins s σ H xs us Q I r h
  obtain ⟨st, g, d, e, z, x, y, rfl, S, hd, he, ho, q⟩ := h
  cases d with
  | int i =>
    cases e with
    | int j =>
      cases ho
      exact call_min2 hc pins s σ H _ us Q I r ⟨i, j, by rw [hd.int, he.int], q _ H g S (Ext.refl H g) rfl⟩
    | _ => cases ho
  | _ => cases ho
theorem max2_R (hc : X.calm = true) : CallR X (.builtin "max") (rW2 G (b2V .max)) := by
  intro pins s σ H xs us Q I r h
  obtain ⟨st, g, d, e, z, x, y, rfl, S, hd, he, ho, q⟩ := h
  cases d with
  | int i =>
    cases e with
    | int j =>
      cases ho
      exact call_max2 hc pins s σ H _ us Q I r ⟨i, j, by rw [hd.int, he.int], q _ H g S (Ext.refl H g) rfl⟩
    | _ => cases ho
  | _ => cases ho
theorem neg_R {pins : List (Addr × Obj)} {s : Shared} {σ : L2.St} {H : Hp} {v : Value} {Q : VK} {i : Int} (I : L2.Inv X pins σ H s) (r : L2.RelV (.int i) v) (q : Q (.int (-i)) H) : wpAny (model X.prog X.w) X.A (unaryOp .USub v) (EP X pins σ Q) X.xe s := un_neg pins s σ H _ v Q I r ⟨i, rfl, q⟩

/-! ### truth -/
theorem tru_V (hK : X.K = G.K) {st : Sto} {g : Gh} {H : Hp} (S : SR G H st g) {d : D} {v : V} {b : Bool} (h : Ru G g H d v) (e : truth st d = some b) : TruV X.K v H b := by
  have em : ∀ {l : List D} {vs : List V}, Rps G g.F g.ad l vs → (!l.isEmpty) = !vs.isEmpty := fun {l vs} r => by
    cases l with
    | nil => rw [show vs = [] from r]; rfl
    | cons x t => obtain ⟨v, t', e, _⟩ := r; rw [e]; rfl
  cases d with
  | non => rw [h.non]; exact (Option.some.inj e).symm
  | bl k => rw [h.bl]; exact (Option.some.inj e).symm
  | int i => rw [h.int]; exact (Option.some.inj e).symm
  | str t =>
    have e : (if t.length < lim then some (t.length != 0) else none) = some b := e
    by_cases hc : t.length < lim
    · rw [if_pos hc] at e
      cases e
      rw [h.str]
      refine ⟨lim_sl hc, ?_⟩
      cases ht : t.length with
      | zero => rfl
      | succ n => rw [Bool.eq_iff_iff]; simp; omega
    · rw [if_neg hc] at e
      cases e
  | tup l =>
    have e : (!l.isEmpty) = b := Option.some.inj e
    rcases h with ⟨a, vs, e1, q, r⟩ | ⟨_, _, _, _, z, _⟩
    · rw [e1]
      exact .inr (.inl ⟨vs, by rw [hK]; exact S.hle.sqT q, by rw [← e]; exact em r⟩)
    · cases z
  | lst l =>
    have e : (!l.isEmpty) = b := Option.some.inj e
    obtain ⟨a, vs, e1, q, r⟩ := h.lst S
    rw [e1]
    exact .inl ⟨vs, .inl (.inl q), by rw [← e]; exact em r⟩
  | _ => cases e

/-! ### an item -/
theorem atI_len {α β : Type} {l : List α} {m : List β} (h : m.length = l.length) (i : Int) : L2.ixN m.length i = L2.ixN l.length i := by rw [h]
theorem atD_V {F : Hp} {ad : List Addr} {l : List D} {vs : List V} {i : Int} {d : D} (r : Rps G F ad l vs) (e : atD l i = some d) : ∃ v, L2.atI vs i = some v ∧ Rp G F ad d v := by
  unfold atD L2.atI at e
  unfold L2.atI
  rw [atI_len r.length]
  cases h : L2.ixN l.length i with
  | none => rw [h] at e; cases e
  | some j =>
    rw [h] at e
    exact r.get e
theorem ix_R (hK : X.K = G.K) : IxR X (rV2 G ixV) := by
  intro value slice pins s σ H x y v u Q I rx ry h hs2
  obtain ⟨st, g, d, e, z, S, hd, he, ho, q⟩ := h
  have viaS : ∀ i, e = .int i → (sq st d).bind (fun l => atD l i) = some z → wpAny (model X.prog X.w) X.A (subscriptTail value slice v u) (EP X pins σ Q) X.xe s := fun i ei hq => by
    subst ei
    cases hl : sq st d with
    | none =>
      rw [hl] at hq
      cases hq
    | some l =>
      rw [hl] at hq
      obtain ⟨a, vs, rfl, hs, r⟩ := hd.seq S hl
      obtain ⟨w, h1, h2⟩ := atD_V r hq
      have fin : Q w H := q _ H g S (Ext.refl H g) h2
      rcases hs with hs | hs
      · exact ix_list value slice pins s σ H _ y v u Q I rx ry ⟨a, vs, i, w, rfl, he.int, by rw [hK]; exact hs, h1, fin⟩ hs2
      · exact ix_tup value slice pins s σ H _ y v u Q I rx ry ⟨a, vs, i, w, rfl, he.int, by rw [hK]; exact hs, h1, fin⟩ hs2
  cases e with
  | int i =>
    cases d with
    | str t =>
      have ho : (if t.length < lim then (L2.atI t.cps.toList i).map (fun c => D.str ⟨#[c]⟩) else none) = some z := ho
      by_cases hc : t.length < lim
      · rw [if_pos hc] at ho
        cases hat : L2.atI t.cps.toList i with
        | none => rw [hat] at ho; cases ho
        | some c =>
          rw [hat] at ho
          cases ho
          exact ix_str value slice pins s σ H x y v u Q I rx ry ⟨t, i, c, hd.str, he.int, lim_sl hc, hat, q _ H g S (Ext.refl H g) rfl⟩ hs2
      · rw [if_neg hc] at ho
        cases ho
    | _ => exact viaS i rfl ho
  | _ => cases d <;> cases ho
theorem cut_V {F : Hp} {ad : List Addr} {l : List D} {vs : List V} (r : Rps G F ad l vs) (lo hi : Option Int) : Rps G F ad (cutD l lo hi) (cutV vs lo hi) := by
  unfold cutD cutV
  rw [r.length]
  exact (r.drop _).take _
theorem cut_R (hK : X.K = G.K) : SlR X (fun x lo hi H Q => ∃ st g d z, SR G H st g ∧ Ru G g H d x ∧ cutOf lo hi d = some z ∧ ∀ v H' g', SR G H' st g' → Ext H g H' g' → Rp G g'.F g'.ad z v → Q v H') := by
  intro pins s σ H x v vl vu lo hi sl Q I rx hs pl pu h
  obtain ⟨st, g, d, z, S, hd, ho, q⟩ := h
  cases d with
  | lst l =>
    cases ho
    obtain ⟨a, vs, rfl, hl, r⟩ := hd.lst S
    refine sl_list pins s σ H _ v vl vu lo hi sl Q I rx hs pl pu ⟨a, vs, rfl, .inl (.inl hl), fun p hp => ?_⟩
    have f := S.freeze (o := .lst (cutV vs lo hi)) hp rfl
    exact q _ _ _ f.1 f.2 (rp_new_lst S hp (cut_V r lo hi))
  | scr l =>
    cases ho
    rcases hd with ⟨a, vs, rfl, hl, r⟩ | ⟨_, _, _, _, e, _⟩
    · refine sl_list pins s σ H _ v vl vu lo hi sl Q I rx hs pl pu ⟨a, vs, rfl, by rw [hK]; exact S.hle.sqL hl, fun p hp => ?_⟩
      have f := S.freeze (o := .lst (cutV vs lo hi)) hp rfl
      exact q _ _ _ f.1 f.2 (rp_new_lst S hp (cut_V r lo hi))
    · cases e
  | tup l =>
    cases ho
    rcases hd with ⟨a, vs, rfl, hl, r⟩ | ⟨_, _, _, _, e, _⟩
    · refine sl_tupA pins s σ H _ v vl vu lo hi sl Q I rx hs pl pu ⟨a, vs, rfl, by rw [hK]; exact S.hle.sqT hl, fun hw => ?_, fun hw p hp => ?_⟩
      · have e : cutD l lo hi = l := by
          unfold cutD
          rw [← r.length, hw.1, hw.2, List.drop_zero, Nat.sub_zero, r.length, List.take_length]
        exact q _ H g S (Ext.refl H g) ⟨a, vs, rfl, hl, by rw [e]; exact r⟩
      · have f := S.freeze (o := .tup (cutV vs lo hi)) hp rfl
        exact q _ _ _ f.1 f.2 (rp_new_tup S hp (cut_V r lo hi))
    · cases e
  | str t =>
    have ho : (if t.length < lim then some (D.str (cutS t lo hi)) else none) = some z := ho
    by_cases hc : t.length < lim
    · rw [if_pos hc] at ho
      cases ho
      exact sl_str pins s σ H x v vl vu lo hi sl Q I rx hs pl pu ⟨t, hd.str, lim_sl hc, q _ H g S (Ext.refl H g) rfl⟩
    · rw [if_neg hc] at ho
      cases ho
  | _ => cases ho
theorem Rus.of : ∀ {g : Gh} {H : Hp} {l : List D} {vs : List V}, Rps G g.F g.ad l vs → Rus G g H l vs
  | _, _, [], _, h => h
  | _, _, _ :: _, _, ⟨v, t, e, q, s⟩ => ⟨v, t, e, .inl q, Rus.of s⟩
end
end Eng
/-! Eng.E: calls, walks, blocks; what a context must have. -/
namespace Eng
open PySem PySem.Spec PyProof.Rows L2

def bNames : List Str := ["abs", "len", "int", "tuple", "list", "sum", "str", "min", "max", "range", "enumerate", "zip", "any", "all"]

/-! ### a call, from within -/
def Gh.ns (g : Gh) : Gh := { g with Mu := fun a => match g.Mu a with
  | some (.slot _) => none
  | t => t }
def Gh.back (g g' : Gh) : Gh := { g' with Mu := fun a => match g.Mu a with
  | some (.slot i) => some (.slot i)
  | _ => g'.Mu a }
def NoSlot (g : Gh) : Prop := ∀ a i, g.Mu a ≠ some (.slot i)
theorem Gh.ns_no (g : Gh) : NoSlot g.ns := fun a i h => by
  have h : (match g.Mu a with | some (.slot _) => none | t => t) = some (.slot i) := h
  cases hm : g.Mu a with
  | none => rw [hm] at h; cases h
  | some t =>
    rw [hm] at h
    cases t with
    | slot j => cases h
    | obj k => cases h
theorem Gh.ns_obj {g : Gh} {a : Addr} {k : Nat} : g.ns.Mu a = some (.obj k) ↔ g.Mu a = some (.obj k) := by
  show (match g.Mu a with | some (.slot _) => none | t => t) = some (.obj k) ↔ _
  cases hm : g.Mu a with
  | none => simp
  | some t => cases t <;> simp
theorem Gh.ns_none {g : Gh} {a : Addr} (h : g.Mu a = none) : g.ns.Mu a = none := by
  show (match g.Mu a with | some (.slot _) => none | t => t) = none
  rw [h]
theorem Gh.ns_slot {g : Gh} {a : Addr} {i : Nat} (h : g.Mu a = some (.slot i)) : g.ns.Mu a = none := by
  show (match g.Mu a with | some (.slot _) => none | t => t) = none
  rw [h]
theorem Gh.ns_some {g : Gh} {a : Addr} {t : Tag} (h : g.ns.Mu a = some t) : g.Mu a = some t := by
  have h : (match g.Mu a with | some (.slot _) => none | t => t) = some t := h
  cases hm : g.Mu a with
  | none => rw [hm] at h; cases h
  | some t =>
    rw [hm] at h
    cases t with
    | slot j => cases h
    | obj k => exact h
theorem Gh.back_slot {g g' : Gh} {a : Addr} {i : Nat} (h : g.Mu a = some (.slot i)) : (g.back g').Mu a = some (.slot i) := by
  show (match g.Mu a with | some (Tag.slot i) => some (Tag.slot i) | _ => g'.Mu a) = _
  rw [h]
theorem Gh.back_other {g g' : Gh} {a : Addr} (h : ∀ i, g.Mu a ≠ some (.slot i)) : (g.back g').Mu a = g'.Mu a := by
  show (match g.Mu a with | some (Tag.slot i) => some (Tag.slot i) | _ => g'.Mu a) = _
  cases hm : g.Mu a with
  | none => rfl
  | some t =>
    cases t with
    | slot i => exact absurd hm (h i)
    | obj k => rfl
section
variable {G : GP} {H H' : Hp} {st st' : Sto} {g g' : Gh}
theorem SR.ns (S : SR G H st g) : SR G H st g.ns :=
  ⟨fun a o e => ⟨(S.fh a o e).1, Gh.ns_none (S.fh a o e).2.1, (S.fh a o e).2.2⟩, fun a t e => S.live a t (Gh.ns_some e), S.alen, fun k ob e => let ⟨a, h1, h2, h3⟩ := S.objs k ob e; ⟨a, h1, Gh.ns_obj.mpr h2, h3⟩, S.tabs⟩
theorem slotQ (g : Gh) (a : Addr) : (∃ i, g.Mu a = some (.slot i)) ∨ ∀ i, g.Mu a ≠ some (.slot i) := by
  cases hm : g.Mu a with
  | none => exact .inr fun i h => by cases h
  | some t =>
    cases t with
    | slot i => exact .inl ⟨i, rfl⟩
    | obj k => exact .inr fun i h => by cases h
theorem SR.back (S : SR G H st g) (S' : SR G H' st' g') (x : Ext H g.ns H' g') : SR G H' st' (g.back g') ∧ Ext H g H' (g.back g') := by
  have notF : ∀ a i o, g.Mu a = some (.slot i) → g'.F a = some o → False := fun a i o hs e => by
    obtain ⟨xs, hl⟩ := S.live a _ hs
    rcases x.fn a o e with h | h
    · have := (S.fh a o h).2.1
      rw [hs] at this
      cases this
    · rw [hl] at h
      cases h
  refine ⟨⟨fun a o e => ?_, fun a t e => ?_, S'.alen, fun k ob e => ?_, S'.tabs⟩, ⟨x.f, x.fn, x.ad, fun a t e => ?_, fun a t e => ?_, fun b o e ht hn => x.keep b o e ht fun k hk => hn k (Gh.ns_obj.mp hk), x.there⟩⟩
  · obtain ⟨h1, h2, h3⟩ := S'.fh a o e
    rcases slotQ g a with ⟨i, hs⟩ | hs
    · exact (notF a i o hs e).elim
    · exact ⟨h1, (Gh.back_other hs).trans h2, h3⟩
  · rcases slotQ g a with ⟨i, hs⟩ | hs
    · obtain ⟨xs, hl⟩ := S.live a _ hs
      exact ⟨xs, x.keep a _ hl rfl fun k hk => by rw [Gh.ns_slot hs] at hk; cases hk⟩
    · rw [Gh.back_other hs] at e
      exact S'.live a t e
  · obtain ⟨a, h1, h2, h3⟩ := S'.objs k ob e
    refine ⟨a, h1, ?_, h3⟩
    rcases slotQ g a with ⟨i, hs⟩ | hs
    · obtain ⟨xs, hl⟩ := S.live a _ hs
      rcases x.mn a _ h2 with h | h
      · rw [Gh.ns_slot hs] at h
        cases h
      · rw [hl] at h
        cases h
    · rw [Gh.back_other hs]
      exact h2
  · rcases slotQ g a with ⟨i, hs⟩ | hs
    · rw [hs] at e
      cases e
      exact Gh.back_slot hs
    · rw [Gh.back_other hs]
      cases t with
      | slot i => exact absurd e (hs i)
      | obj k => exact x.mu a _ (Gh.ns_obj.mpr e)
  · rcases slotQ g a with ⟨i, hs⟩ | hs
    · rw [Gh.back_slot hs] at e
      cases e
      exact .inl hs
    · rw [Gh.back_other hs] at e
      rcases x.mn a t e with h | h
      · exact .inl (Gh.ns_some h)
      · exact .inr h
theorem Wp.ns {α : Type} {E : Value → Hp → Prop} {r : R α} {post : α → Sto → Hp → Gh → Prop} (S : SR G H st g) (w : Wp G E r H g post) : Wp G E r H g.ns fun a s' H' g' => post a s' H' (g.back g') := by
  cases r with
  | ok a s' => exact fun H' g' S' x => w H' _ (S.back S' x).1 (S.back S' x).2
  | er c s' => exact fun H' g' S' x => w H' _ (S.back S' x).1 (S.back S' x).2
  | bad => exact w
end

/-- a def's promise: what the evaluator says -/
def spEv (G : GP) (f : List D → Sto → R D) : Sp := fun vs H Q E => ∃ ds st g, SR G H st g ∧ NoSlot g ∧ Rps G g.F g.ad ds vs ∧ Wp G (fun c H' => E c none H') (f ds st) H g fun d _ H' g' => ∀ v, Rp G g'.F g'.ad d v → Q v H'

/-- a def that tells what a lambda gives, or an error's name -/
def TdOk (G : GP) (P : Prg) (K : PySem.W.Frag) (mg : Str → Option Value) (k : Nat) (x : Str) : Prop :=
  ∃ (c : Nat) (ret a e : Str) (g CS : Addr) (pg : Arguments) (bg : List Stmt) (sg : Scope) (dV kV doc pm cdv ct oc : Value) (an od : Option Addr) (osl : Array (Option Value)) (Ng : List Str) (j : Nat) (p1 p2 p3 p4 p5 p6 p7 p8 : Pos),
    P.tolds k = some (c, ret) ∧ (∀ c', P.sub c' c = true → PySem.W.exmOne K (.ref (G.ca c')) (.ref CS) = some true) ∧
    mg x = some (.ref g) ∧ PySem.W.keepIn K (.ref g) = true ∧ K.lookup g = some ⟨oc, od, .func (PySem.W.fnOf x x pg bg sg dV kV doc pm an cdv ct), osl⟩ ∧ PySem.W.codeIn K cdv x = true ∧
    L2.Binds K (PySem.W.fnOf x x pg bg sg dV kV doc pm an cdv ct) [a] [] ∧ FnScope Ng [a] sg ∧ Ng[0]? = some a ∧ Vis sg a ∧
    bg = [.Try [.Return (some (.Call (.Name a p1) [] [] p2)) p3] [.ExceptHandler (some (.Name e p4)) none [.Return (some (.Constant (.str ret) j p5)) p6] p7] [] [] p8] ∧
    sg.names.lookup e = some .globalImplicit ∧ mg e = some (.ref CS) ∧ (e == ("__debug__" : Str)) = false ∧ (a == ("__debug__" : Str)) = false ∧ (a == ("__classdict__" : Str)) = false
/-- what a context must have -/
structure Gd (G : GP) (P : Prg) (C : Nm) (cs : List CallT) (X : Cx) (N : List Str) (sc : Scope) (W : WX) : Prop where
  hK : X.K = G.K
  calm : X.calm = true
  tk : Takes X W
  room : Room cs.length X.A
  hN : X.N = N
  nd : N.Nodup
  hsc : X.env.scope = sc
  mgn : ∀ x ∈ bNames, X.mg x = none
  mgc : ∀ (k : Nat) (x : Str), C.gl[k]? = some x → ∃ d u v, P.globs[k]? = some d ∧ X.mg x = some u ∧ L2.RelV v u ∧ Rp G (fun _ => none) [] d v
  mgt : ∀ (k : Nat) (x : Str), C.td[k]? = some x → TdOk G P X.K X.mg k x
  tbl : ∀ (b : Bool), C.tb = some b → ∃ c Pa, LamX.TabB X.base X.mg c Pa ∧ X.env.code = .ref c ∧ (Pa, if b = true then some (X.env.qual ++ "<lambda>") else none) ∈ G.T ∧ ∀ q ∈ G.T, q.1 = Pa → q.2 = if b = true then some (X.env.qual ++ "<lambda>") else none
  c1 : C.noTb = G.c1
  lmG : ∀ n a b s, C.lm n a b s = true → G.lm n a b s = true
  lmE : ∀ (j : Nat) (c : CallT) (rest : List CallT), cs.drop j = c :: rest → ∀ n a b s, G.lm n a b s = true → ∀ st, c (P.lb + n) [] st = ev P rest (P.lams n) [] st
  mgf : ∀ (j : Nat) (c : CallT) (rest : List CallT), cs.drop j = c :: rest → ∀ (k : Nat) (x : Str), C.fn[k]? = some x → ∃ f fd ps, X.mg x = some (.ref f) ∧ PySem.W.keepIn X.K (.ref f) = true ∧ Binds X.K fd ps [] ∧ FnOk X.prog X.w X.K X.mg X.base (L2.CX X.prog X.w) (rest.length + 1) f fd ps (spEv G (c k))
section
variable {G : GP} {P : Prg} {C : Nm} {cs : List CallT} {X : Cx} {N : List Str} {sc : Scope} {W : WX}
theorem Gd.units (h : Gd G P C cs X N sc W) : X.A.units + 64 < cLine := h.room.units

/-! ### names -/
def visB (N : List Str) (sc : Scope) (i : Nat) (x : Str) : Bool := (N[i]? == some x) && (sc.names.lookup x == some .local || sc.names.lookup x == some .cell || sc.names.lookup x == some .free) && !(x == ("__debug__" : Str)) && !(x == ("__classdict__" : Str))
def glB (sc : Scope) (x : Str) : Bool := (sc.names.lookup x == some .globalImplicit) && !(x == ("__debug__" : Str))
theorem name_E (h : Gd G P C cs X N sc W) {i : Nat} {x : Str} {pos : Pos} (hv : visB N sc i x = true) : PE X (.Name x pos) (tVar i) := by
  unfold visB at hv
  simp only [Bool.and_eq_true, Bool.or_eq_true, beq_iff_eq, Bool.not_eq_true'] at hv
  obtain ⟨⟨⟨h1, h2⟩, h3⟩, h4⟩ := hv
  refine pe_var (by rw [h.hN]; exact h1) ?_ h3 h4
  unfold Vis
  rw [h.hsc]
  rcases h2 with (h2 | h2) | h2
  · exact .inl h2
  · exact .inr (.inl h2)
  · exact .inr (.inr h2)
theorem var_E (h : Gd G P C cs X N sc W) {i : Nat} {x : Str} {pos : Pos} (hv : visB N sc i x = true) : PE X (.Name x pos) (TEv G W true fun Γ st => match Γ[i]? with
    | some (.val d) => .ok d st
    | _ => .bad) := by
  refine (name_E h hv).weak fun σ H Q ⟨Γ, st, g, S, E, w⟩ => ?_
  cases hs : Γ[i]? with
  | none => simp only [hs] at w; exact w.elim
  | some s =>
    simp only [hs] at w
    cases s with
    | val d =>
      obtain ⟨v, e, q⟩ := E.2 i _ hs
      exact ⟨v, e, w H g S (Ext.refl H g) v q⟩
    | no => exact w.elim
    | own l => exact w.elim
theorem own_E (h : Gd G P C cs X N sc W) {i : Nat} {x : Str} {pos : Pos} (hv : visB N sc i x = true) : PE X (.Name x pos) (TEv G W false fun Γ st => match Γ[i]? with
    | some (.own l) => .ok (.lst l) st
    | some (.val d) => .ok d st
    | _ => .bad) := by
  refine (name_E h hv).weak fun σ H Q ⟨Γ, st, g, S, E, w⟩ => ?_
  cases hs : Γ[i]? with
  | none => simp only [hs] at w; exact w.elim
  | some s =>
    simp only [hs] at w
    cases s with
    | own l =>
      obtain ⟨p, vs, e, h1, h2, h3⟩ := E.2 i _ hs
      exact ⟨.ref p, e, w H g S (Ext.refl H g) _ (.inr ⟨l, p, vs, i, rfl, rfl, h1, h2, h3⟩)⟩
    | no => exact w.elim
    | val d =>
      obtain ⟨v, e, q⟩ := E.2 i _ hs
      exact ⟨v, e, w H g S (Ext.refl H g) v (.inl q)⟩
theorem gl_of (h : Gd G P C cs X N sc W) {x : Str} (hg : glB sc x = true) : Gl X x ∧ (x == ("__debug__" : Str)) = false := by
  unfold glB at hg
  simp only [Bool.and_eq_true, beq_iff_eq, Bool.not_eq_true'] at hg
  refine ⟨?_, hg.2⟩
  show X.env.scope.names.lookup x = _
  rw [h.hsc]
  exact hg.1
theorem glob_E (h : Gd G P C cs X N sc W) {k : Nat} {x : Str} {pos : Pos} (hk : C.gl[k]? = some x) (hg : glB sc x = true) : PE X (.Name x pos) (TEv G W true fun _ st => ofO P.globs[k]? st) := by
  obtain ⟨g1, g2⟩ := gl_of h hg
  obtain ⟨d, u, v, h1, h2, h3, h4⟩ := h.mgc k x hk
  refine (pe_glob g1 h2 h3 g2).weak fun σ H Q ⟨Γ, st, g, S, E, w⟩ => ?_
  simp only [h1] at w
  refine w H g S (Ext.refl H g) v (Rp.mono (fun _ _ e => by cases e) ⟨g.ad, rfl⟩ h4)
theorem const_E {e : Expr} {v : V} {d : D} (he : PE X e (tC v)) (hd : ∀ F ad, Rp G F ad d v) : PE X e (TEv G W true fun _ st => .ok d st) :=
  he.weak fun σ H Q ⟨Γ, st, g, S, E, w⟩ => w H g S (Ext.refl H g) v (hd _ _)
theorem TEv.false {s : Bool} {f : Env → Sto → R D} {σ : L2.St} {H : Hp} {Q : VK} (h : TEv G W false f σ H Q) : TEv G W s f σ H Q := by
  obtain ⟨Γ, st, g, S, E, w⟩ := h
  refine ⟨Γ, st, g, S, E, w.imp fun d st' H' g' _ _ q v r => q v r.u⟩
theorem pe_false {s : Bool} {e : Expr} {f : Env → Sto → R D} (he : PE X e (TEv G W s f)) : PE X e (TEv G W false f) := he.weak fun _ _ _ h => h.false

/-! ### operators -/
theorem two_V {ea eb : Env → Sto → R D} {op : Sto → D → D → Option D} {σ : L2.St} {H : Hp} {Q : VK} {s : Bool} (h : TEv G W s (fun Γ st => (ea Γ st).bind fun x st1 => (eb Γ st1).bind fun y st2 => ofO (op st2 x y) st2) σ H Q) :
    tOp (rV2 G op) (TEv G W false ea) (TEv G W false eb) σ H Q := by
  obtain ⟨Γ, st, g, S, E, w⟩ := h
  refine ⟨Γ, st, g, S, E, w.bind.imp fun d st1 H1 g1 S1 x1 w1 v1 r1 => ⟨Γ, st1, g1, S1, E.ext x1, w1.bind.imp fun e st2 H2 g2 S2 x2 w2 v2 r2 => ?_⟩⟩
  obtain ⟨z, hz, w3⟩ := w2.ofO
  exact ⟨st2, g2, d, e, z, S2, Ru.ext x2 r1, r2, hz, fun v H' g' S' x' rr => w3 H' g' S' x' v (Rx.weak rr)⟩
theorem bop_E (h : Gd G P C cs X N sc W) {a b : Expr} {pos : Pos} {o : Bop} {ea eb : Env → Sto → R D} (ha : PE X a (TEv G W false ea)) (hb : PE X b (TEv G W false eb)) :
    PE X (.BinOp a (opOf o) b pos) (TEv G W true fun Γ st => (ea Γ st).bind fun x st1 => (eb Γ st1).bind fun y st2 => ofO (bopV o x y) st2) :=
  (pe_op (bop_R h.hK o) ha hb).weak fun σ H Q q => two_V (op := fun _ => bopV o) q
theorem cmp_E (h : Gd G P C cs X N sc W) {a b : Expr} {pos : Pos} {o : Cop} {ea eb : Env → Sto → R D} (hm : behindInMarks (copOf o) b = false) (ha : PE X a (TEv G W false ea)) (hb : PE X b (TEv G W false eb)) :
    PE X (.Compare a [copOf o] [b] pos) (TEv G W true fun Γ st => (ea Γ st).bind fun x st1 => (eb Γ st1).bind fun y st2 => ofO ((cmpV st2 o x y).map .bl) st2) :=
  (pe_cmpR (cmp_R h.units h.hK o) ha hb hm).weak fun σ H Q q => two_V (op := fun st d e => (cmpV st o d e).map .bl) q
theorem tst_of {f : Env → Sto → R D} {σ : L2.St} {H : Hp} {Q : Bool → Hp → Prop} (h : TTv G W (fun Γ st => tst (f Γ st)) σ H Q) (hb : ∀ Γ st d st', f Γ st = .ok d st' → ∃ b, d = .bl b) :
    TEv G W true f σ H fun x H' => ∃ k, x = .bl k ∧ Q k H' := by
  obtain ⟨Γ, st, g, S, E, w⟩ := h
  refine ⟨Γ, st, g, S, E, ?_⟩
  cases hf : f Γ st with
  | ok d st' =>
    obtain ⟨b, rfl⟩ := hb Γ st d st' hf
    have w : Wp G (Eσ W σ) (tst (f Γ st)) H g fun b _ H' g' => Q b H' := w
    rw [hf] at w
    intro H' g' S' x' v r
    exact ⟨b, r, w H' g' S' x'⟩
  | er c st' =>
    have w : Wp G (Eσ W σ) (tst (f Γ st)) H g fun b _ H' g' => Q b H' := w
    rw [hf] at w
    exact w
  | bad =>
    have w : Wp G (Eσ W σ) (tst (f Γ st)) H g fun b _ H' g' => Q b H' := w
    rw [hf] at w
    exact w
theorem R.bind_ok {α β : Type} {r : R α} {f : α → Sto → R β} {b : β} {st' : Sto} (h : r.bind f = .ok b st') : ∃ a st, r = .ok a st ∧ f a st = .ok b st' := by
  cases r with
  | ok a st => exact ⟨a, st, rfl, h⟩
  | er c st => cases h
  | bad => cases h
theorem ofO_ok {α : Type} {o : Option α} {st : Sto} {a : α} {st' : Sto} (h : ofO o st = .ok a st') : o = some a ∧ st' = st := by
  cases o with
  | some b => cases h; exact ⟨rfl, rfl⟩
  | none => cases h
theorem cmp_T (h : Gd G P C cs X N sc W) {a b : Expr} {pos : Pos} {o : Cop} {ea eb : Env → Sto → R D} (hm : behindInMarks (copOf o) b = false) (ha : PE X a (TEv G W false ea)) (hb : PE X b (TEv G W false eb)) :
    PT X (.Compare a [copOf o] [b] pos) (TTv G W fun Γ st => tst ((ea Γ st).bind fun x st1 => (eb Γ st1).bind fun y st2 => ofO ((cmpV st2 o x y).map .bl) st2)) := by
  refine (pt_cmpR (cmp_R h.units h.hK o) ha hb hm).weak fun σ H Q q => ?_
  refine two_V (op := fun st d e => (cmpV st o d e).map .bl) (tst_of q fun Γ st d st' e => ?_)
  obtain ⟨x, st1, _, e⟩ := R.bind_ok e
  obtain ⟨y, st2, _, e⟩ := R.bind_ok e
  obtain ⟨e, _⟩ := ofO_ok e
  cases hc : cmpV st2 o x y with
  | none => rw [hc] at e; cases e
  | some b => rw [hc] at e; exact ⟨b, (Option.some.inj e).symm⟩
/-- any expression, as a test by its value's truth -/
theorem tru_T (h : Gd G P C cs X N sc W) {e : Expr} {f : Env → Sto → R D} (he : PE X e (TEv G W false f)) (hi : ∀ whole, isTrue e X.env whole = (do let v ← whole; standAt e.pos; holding [v] (truthy v))) : PT X e (TTv G W fun Γ st => tst (f Γ st)) := by
  refine (pt_truth he hi).weak fun σ H Q ⟨Γ, st, g, S, E, w⟩ => ⟨Γ, st, g, S, E, w.bind.imp fun d st1 H1 g1 S1 x1 w1 v r => ?_⟩
  obtain ⟨b, hb, w2⟩ := w1.ofO
  exact ⟨b, tru_V h.hK S1 r hb, w2.now S1⟩
end
end Eng
/-! Eng.F: patterns, walks, comprehensions. -/
namespace Eng
open PySem PySem.Spec PyProof.Rows L2

/-! ### lists of written expressions -/
def plainE : Expr → Bool
  | .Starred _ _ => false
  | _ => true
theorem star_1 {e : Expr} {es : List Expr} {env : PySem.Env} (h : plainE e = true) : starEach (e :: es) env = (false, eval e env) :: starEach es env := by
  cases e <;> first
    | rfl
    | (cases h; done)
theorem back_pl {pos : Pos} {env : PySem.Env} : ∀ {es : List Expr}, es.all plainE = true → (backTo pos (starEach es env)).any (·.1) = false
  | [], _ => rfl
  | e :: es, h => by
    rw [List.all_cons, Bool.and_eq_true] at h
    rw [star_1 h.1]
    show (false || (backTo pos (starEach es env)).any (·.1)) = false
    rw [back_pl h.2]
    rfl
theorem aset_1 {e : Expr} {es : List Expr} {env : PySem.Env} (h : plainE e = true) : assignEach (e :: es) env = (false, assign e env) :: assignEach es env := by
  cases e <;> first
    | rfl
    | (cases h; done)

/-! ### patterns -/
def gPt (K : PySem.W.Frag) : Pt → TG
  | .name i => gName i
  | .pair a b => gTup K 2 (gCons (gPt K a) (gCons (gPt K b) gNil))
  | .trip a b c => gTup K 3 (gCons (gPt K a) (gCons (gPt K b) (gCons (gPt K c) gNil)))
def mtP (N : List Str) (sc ow : Scope) : Pt → Expr → Bool
  | .name i, e => (match e with
    | .Name x _ => (N[i]? == some x) && ((sc.names.lookup x == some .local) || ((sc.names.lookup x == some .cell) && (ow.names.lookup x == some .cell)))
    | _ => false)
  | .pair a b, e => (match e with
    | .Tuple [x, y] _ _ => mtP N sc ow a x && mtP N sc ow b y
    | _ => false)
  | .trip a b c, e => (match e with
    | .Tuple [x, y, z] _ _ => mtP N sc ow a x && (mtP N sc ow b y && mtP N sc ow c z)
    | _ => false)
def ptVars : Pt → List Nat
  | .name i => [i]
  | .pair a b => ptVars a ++ ptVars b
  | .trip a b c => ptVars a ++ (ptVars b ++ ptVars c)
theorem mtP_plain {N : List Str} {sc ow : Scope} : ∀ {p : Pt} {e : Expr}, mtP N sc ow p e = true → plainE e = true := by
  intro p e h
  cases e <;> first
    | rfl
    | (cases p <;> cases h)
theorem pg_P {X : Cx} {N : List Str} {sc ow : Scope} (hN : X.N = N) (nd : N.Nodup) (hs : X.env.scope = sc) (hf : ∀ x, ow.names.lookup x = some .cell → X.fn x = true) (hc : X.calm = true) : ∀ {p : Pt} {e : Expr}, mtP N sc ow p e = true → PG X e (gPt X.K p)
  | .name i, e, h => by
    unfold mtP at h
    split at h
    · rename_i x pos
      simp only [Bool.and_eq_true, Bool.or_eq_true, beq_iff_eq] at h
      obtain ⟨h1, h2⟩ := h
      refine pg_name (by rw [hN]; exact nd) (by rw [hN]; exact h1) ?_ ?_
      · unfold L2.Loc
        rw [hs]
        rcases h2 with h2 | h2
        · exact .inl h2
        · exact .inr h2.1
      · rcases h2 with h2 | h2
        · exact .inr (by rw [hs]; exact h2)
        · exact .inl (hf x h2.2)
    · cases h
  | .pair a b, e, h => by
    unfold mtP at h
    split at h
    · rename_i x y k pos
      rw [Bool.and_eq_true] at h
      have p1 := mtP_plain h.1
      have p2 := mtP_plain h.2
      refine pg_tup hc (pgs_cons (pg_P hN nd hs hf hc h.1) (pgs_cons (pg_P hN nd hs hf hc h.2) pgs_nil (by rw [aset_1 p2] <;> rfl)) (by rw [aset_1 p1] <;> rfl)) ?_ ?_
      · rw [aset_1 p1, aset_1 p2] <;> rfl
      · rw [aset_1 p1, aset_1 p2] <;> rfl
    · cases h
  | .trip a b c, e, h => by
    unfold mtP at h
    split at h
    · rename_i x y z k pos
      rw [Bool.and_eq_true, Bool.and_eq_true] at h
      have p1 := mtP_plain h.1
      have p2 := mtP_plain h.2.1
      have p3 := mtP_plain h.2.2
      refine pg_tup hc (pgs_cons (pg_P hN nd hs hf hc h.1) (pgs_cons (pg_P hN nd hs hf hc h.2.1) (pgs_cons (pg_P hN nd hs hf hc h.2.2) pgs_nil (by rw [aset_1 p3] <;> rfl)) (by rw [aset_1 p2] <;> rfl)) (by rw [aset_1 p1] <;> rfl)) ?_ ?_
      · rw [aset_1 p1, aset_1 p2, aset_1 p3] <;> rfl
      · rw [aset_1 p1, aset_1 p2, aset_1 p3] <;> rfl
    · cases h

theorem wipe_off {σ : L2.St} {i : Nat} {x : Option V} : ∀ {vs : List Nat}, i ∉ vs → wipe (σ.set i x) vs = (wipe σ vs).set i x
  | [], _ => rfl
  | v :: vs, h => by
    rw [List.mem_cons, not_or] at h
    show (wipe (σ.set i x) vs).set v none = ((wipe σ vs).set v none).set i x
    rw [wipe_off h.2, List.set_comm _ _ h.1]
theorem wipe_in {σ : L2.St} {i : Nat} {x : Option V} : ∀ {vs : List Nat}, i ∈ vs → wipe (σ.set i x) vs = wipe σ vs
  | [], h => by cases h
  | v :: vs, h => by
    show (wipe (σ.set i x) vs).set v none = (wipe σ vs).set v none
    by_cases hm : i ∈ vs
    · rw [wipe_in hm]
    · rcases List.mem_cons.mp h with e | e
      · subst e
        rw [wipe_off hm, List.set_set]
      · exact absurd e hm
theorem wipeE_len (Γ : Env) : ∀ vs : List Nat, (wipeE Γ vs).length = Γ.length
  | [] => rfl
  | v :: vs => by
    show ((wipeE Γ vs).set v .no).length = _
    rw [List.length_set, wipeE_len Γ vs]
section
variable {G : GP} {H : Hp} {st : Sto} {g : Gh} {Γ : Env} {σ : L2.St}
theorem ER.set (E : ER G Γ σ H g) {i : Nat} {d : D} {v : V} (r : Rp G g.F g.ad d v) (hi : i < Γ.length) : ER G (Γ.set i (.val d)) (σ.set i (some v)) H g := by
  refine ⟨by rw [List.length_set, List.length_set]; exact E.1, fun j s hj => ?_⟩
  by_cases hij : i = j
  · subst hij
    rw [List.getElem?_set_self hi] at hj
    cases hj
    exact ⟨v, List.getElem?_set_self (by rw [E.1]; exact hi), r⟩
  · rw [List.getElem?_set_ne hij] at hj ⊢
    exact E.2 j s hj
theorem ER.no (E : ER G Γ σ H g) (v : Nat) : ER G (Γ.set v .no) (σ.set v none) H g := by
  refine ⟨by rw [List.length_set, List.length_set]; exact E.1, fun j s hj => ?_⟩
  by_cases hij : v = j
  · subst hij
    by_cases hv : v < Γ.length
    · rw [List.getElem?_set_self hv] at hj
      cases hj
      trivial
    · rw [List.getElem?_eq_none (by rw [List.length_set]; omega)] at hj
      cases hj
  · rw [List.getElem?_set_ne hij] at hj ⊢
    exact E.2 j s hj
theorem ER.wipe (E : ER G Γ σ H g) : ∀ vs : List Nat, ER G (wipeE Γ vs) (L2.wipe σ vs) H g
  | [] => E
  | v :: vs => (ER.wipe E vs).no v
theorem gPt_ok {K : PySem.W.Frag} (hK : K = G.K) (S : SR G H st g) : ∀ (p : Pt) {d : D} {v : V} {Γ Γ' : Env} {σ : L2.St} {Q : L2.St → Hp → Prop}, ER G Γ σ H g → Rp G g.F g.ad d v → bindP p d Γ = some Γ' →
    (∀ σ', ER G Γ' σ' H g → (∀ vs : List Nat, (∀ i ∈ ptVars p, i ∈ vs) → L2.wipe σ' vs = L2.wipe σ vs) → Q σ' H) → gPt K p v σ H Q
  | .name i, d, v, Γ, Γ', σ, Q, E, r, hb, q => by
    have hb : (if i < Γ.length then some (Γ.set i (.val d)) else none) = some Γ' := hb
    by_cases hi : i < Γ.length
    · rw [if_pos hi] at hb
      cases hb
      exact q _ (E.set r hi) fun vs hv => wipe_in (hv i (by simp [ptVars]))
    · rw [if_neg hi] at hb
      cases hb
  | .pair a b, d, v, Γ, Γ', σ, Q, E, r, hb, q => by
    unfold bindP at hb
    split at hb
    · rename_i x y
      obtain ⟨p, vs, rfl, hsq, v1, t1, rfl, r1, v2, t2, rfl, r2, e3⟩ := r
      have e3 : t2 = [] := e3
      subst e3
      cases h1 : bindP a x Γ with
      | none => rw [h1] at hb; cases hb
      | some Γ1 =>
        rw [h1] at hb
        have hb : bindP b y Γ1 = some Γ' := hb
        refine ⟨p, _, rfl, by rw [hK]; exact S.hle.sqT hsq, rfl, v1, [v2], rfl, gPt_ok hK S a E r1 h1 fun σ1 E1 w1 => ⟨v2, [], rfl, gPt_ok hK S b E1 r2 hb fun σ2 E2 w2 => ⟨rfl, q _ E2 fun us hu => ?_⟩⟩⟩
        rw [w2 us fun i hi => hu i (by simp [ptVars, hi]), w1 us fun i hi => hu i (by simp [ptVars, hi])]
    · cases hb
  | .trip a b c, d, v, Γ, Γ', σ, Q, E, r, hb, q => by
    unfold bindP at hb
    split at hb
    · rename_i x y z
      obtain ⟨p, vs, rfl, hsq, v1, t1, rfl, r1, v2, t2, rfl, r2, v3, t3, rfl, r3, e3⟩ := r
      have e3 : t3 = [] := e3
      subst e3
      cases h1 : bindP a x Γ with
      | none => rw [h1] at hb; cases hb
      | some Γ1 =>
        rw [h1] at hb
        have hb : (bindP b y Γ1).bind (fun Γ2 => bindP c z Γ2) = some Γ' := hb
        cases h2 : bindP b y Γ1 with
        | none => rw [h2] at hb; cases hb
        | some Γ2 =>
          rw [h2] at hb
          have hb : bindP c z Γ2 = some Γ' := hb
          refine ⟨p, _, rfl, by rw [hK]; exact S.hle.sqT hsq, rfl, v1, [v2, v3], rfl, gPt_ok hK S a E r1 h1 fun σ1 E1 w1 => ⟨v2, [v3], rfl, gPt_ok hK S b E1 r2 h2 fun σ2 E2 w2 => ⟨v3, [], rfl, gPt_ok hK S c E2 r3 hb fun σ3 E3 w3 => ⟨rfl, q _ E3 fun us hu => ?_⟩⟩⟩⟩
          rw [w3 us fun i hi => hu i (by simp [ptVars, hi]), w2 us fun i hi => hu i (by simp [ptVars, hi]), w1 us fun i hi => hu i (by simp [ptVars, hi])]
    · cases hb
end

/-! ### walks -/
def Stay (G : GP) (fr : Bool) (H' : Hp) (g' : Gh) (S : Hp → Prop) : Prop := ∀ H2 st2 g2, SR G H2 st2 g2 → (if fr = true then HLe g'.F g2.F else Ext H' g' H2 g2) → S H2
structure SrcD (G : GP) (fr : Bool) (J : L2.It) (xs : List D) (H' : Hp) (g' : Gh) : Prop where
  ex : ∃ (S : Hp → Prop) (Y : Nat → Hp → V → Hp → Prop), Walk J xs.length S Y ∧ Stay G fr H' g' S ∧
    ∀ i H2 x H3 st2 g2, i < xs.length → SR G H2 st2 g2 → HLe g'.F g2.F → ALe g'.ad g2.ad → Y i H2 x H3 → ∃ d g3, xs[i]? = some d ∧ SR G H3 st2 g3 ∧ Ext H2 g2 H3 g3 ∧ Rp G g3.F g3.ad d x
def TIv (G : GP) (W : WX) (fr : Bool) (f : Env → Sto → R (List D)) : TI := fun σ H Rr => ∃ Γ st g, SR G H st g ∧ ER G Γ σ H g ∧ Wp G (Eσ W σ) (f Γ st) H g fun xs _ H' g' => ∀ J, SrcD G fr J xs H' g' → Rr J H'
section
variable {G : GP} {P : Prg} {C : Nm} {cs : List CallT} {X : Cx} {N : List Str} {sc : Scope} {W : WX}
theorem src_fixed {J : L2.It} {xs : List D} {vs : List V} {H' : Hp} {g' : Gh} {fr : Bool} {S : Hp → Prop} (rr : Rps G g'.F g'.ad xs vs) (w : Walk J vs.length S (YAt vs)) (hs : Stay G fr H' g' S) : SrcD G fr J xs H' g' := by
  refine ⟨S, YAt vs, by rw [← rr.length]; exact w, hs, fun i H2 x H3 st2 g2 hi S2 hF hA y => ?_⟩
  obtain ⟨rfl, hx⟩ := y
  obtain ⟨v, hv, r⟩ := (rr.mono hF hA).get (List.getElem?_eq_getElem hi)
  rw [hx] at hv
  cases hv
  exact ⟨_, g2, List.getElem?_eq_getElem hi, S2, Ext.refl _ _, r⟩
theorem stay_frz {H' : Hp} {g' : Gh} {fr : Bool} {S : Hp → Prop} (h : ∀ H2 st2 g2, SR G H2 st2 g2 → HLe g'.F g2.F → S H2) : Stay G fr H' g' S := fun H2 st2 g2 S2 x => by
  cases fr with
  | true => exact h H2 st2 g2 S2 x
  | false => exact h H2 st2 g2 S2 (show Ext H' g' H2 g2 from x).f
/-- a list that may be read, walked -/
theorem src_lst {fr : Bool} {H1 : Hp} {g1 : Gh} {st1 : Sto} {l : List D} {x : V} (S1 : SR G H1 st1 g1) (r : Rx fr G g1 H1 (.lst l) x) : ∃ a vs, x = .ref a ∧ H1 a = some (.lst vs) ∧ Rps G g1.F g1.ad l vs ∧ Stay G fr H1 g1 (fun H => H a = some (.lst vs)) := by
  have frozen : Rp G g1.F g1.ad (.lst l) x → ∃ a vs, x = .ref a ∧ H1 a = some (.lst vs) ∧ Rps G g1.F g1.ad l vs ∧ Stay G fr H1 g1 (fun H => H a = some (.lst vs)) := fun ⟨a, vs, e, q, rr⟩ =>
    ⟨a, vs, e, S1.hle _ _ q, rr, stay_frz fun H2 st2 g2 S2 hF => S2.hle _ _ (hF _ _ q)⟩
  cases fr with
  | true => exact frozen r
  | false =>
    rcases (show Ru G g1 H1 (.lst l) x from r) with r | ⟨l', p, vs, i, z, e, h1, h2, h3⟩
    · exact frozen r
    · cases z
      exact ⟨p, vs, e, h1, h3, fun H2 st2 g2 S2 x => (show Ext H1 g1 H2 g2 from x).keep p _ h1 rfl fun k hk => by rw [h2] at hk; cases hk⟩
theorem src_tup {fr : Bool} {H1 : Hp} {g1 : Gh} {st1 : Sto} {l : List D} {x : V} (S1 : SR G H1 st1 g1) (r : Rx fr G g1 H1 (.tup l) x) : ∃ a vs, x = .ref a ∧ SqT G.K H1 a vs ∧ Rps G g1.F g1.ad l vs ∧ Stay G fr H1 g1 (fun H => SqT G.K H a vs) := by
  rcases r.u with ⟨a, vs, e, q, rr⟩ | ⟨_, _, _, _, z, _⟩
  · exact ⟨a, vs, e, S1.hle.sqT q, rr, stay_frz fun H2 st2 g2 S2 hF => S2.hle.sqT (hF.sqT q)⟩
  · cases z
theorem _root_.L2.Walk.on {J : L2.It} {n : Nat} {S S' : Hp → Prop} {Y : Nat → Hp → V → Hp → Prop} (w : Walk J n S Y) (h : ∀ H, S' H → S H) : Walk J n S' Y := w.mono h fun _ _ _ _ _ _ y => y
theorem seq_I (h : Gd G P C cs X N sc W) {fr : Bool} {tg e : Expr} {f : Env → Sto → R D} (he : PE X e (TEv G W fr f)) : PI X tg e (TIv G W fr fun Γ st => (f Γ st).bind fun x st1 => match x with
    | .tup l => .ok l st1
    | .lst l => .ok l st1
    | _ => .bad) := by
  refine ⟨fun pins s σ H Rr I ⟨Γ, st, g, S, E, w⟩ => ?_⟩
  refine thn (he.run pins s σ H (fun v H1 => ∃ d st1 g1, SR G H1 st1 g1 ∧ Rx fr G g1 H1 d v ∧ Wp G (Eσ W σ) (match d with
    | .tup l => .ok l st1
    | .lst l => .ok l st1
    | _ => R.bad) H1 g1 fun xs _ H' g' => ∀ J, SrcD G fr J xs H' g' → Rr J H') I ⟨Γ, st, g, S, E, w.bind.imp fun d st1 H1 g1 S1 x1 w1 v r => ⟨d, st1, g1, S1, r, w1⟩⟩) fun u s1 ⟨v, H1, I1, rv, d, st1, g1, S1, r, w1⟩ => ?_
  cases d with
  | tup l =>
    obtain ⟨a, vs, rfl, hq, rr, hs⟩ := src_tup S1 r
    cases rv
    obtain ⟨its, ri, p, hz⟩ := I1.tuple (by rw [h.hK]; exact hq)
    refine wpAny_pyIter_tuple (show s1.heap.IsTuple a its.toArray from p) (pi_one (tk := s1.toks) I1 _ (turn_tuple a _) ⟨_, Heap.get?_push_size _ rfl, rfl, rfl⟩ ?_)
    exact w1.now S1 _ (src_fixed rr (walk_tup.on fun H q => by rw [h.hK]; exact q) hs)
  | lst l =>
    obtain ⟨a, vs, rfl, hq, rr, hs⟩ := src_lst S1 r
    cases rv
    obtain ⟨its, ri, p, hz⟩ := I1.list (.inl (.inl hq))
    refine wpAny_pyIter_list p.isList (pi_one (tk := s1.toks) I1 _ (turn_list a _) ⟨_, Heap.get?_push_size _ rfl, rfl, rfl⟩ ?_)
    exact w1.now S1 _ (src_fixed rr (walk_list.on fun H q => .inl (.inl q)) hs)
  | _ => exact w1.elim
theorem rangeD_len (lo hi : Int) : (rangeD lo hi).length = (hi - lo).toNat := by
  unfold rangeD
  rw [List.length_map, List.length_range]
theorem src_range {lo hi : Int} {fr : Bool} {H' : Hp} {g' : Gh} : SrcD G fr (Itr lo (hi - lo).toNat) (rangeD lo hi) H' g' := by
  refine ⟨fun _ => True, _, by rw [rangeD_len]; exact walk_range, fun _ _ _ _ _ => trivial, fun i H2 x H3 st2 g2 hi S2 hF hA y => ?_⟩
  obtain ⟨rfl, rfl⟩ := y
  rw [rangeD_len] at hi
  refine ⟨.int (lo + (i : Int)), g2, ?_, S2, Ext.refl _ _, rfl⟩
  unfold rangeD
  rw [List.getElem?_map, List.getElem?_range hi] <;> rfl
theorem rng_bd {i : Int} (h : rngOk i = true) : -(2 ^ 62) ≤ i ∧ i < 2 ^ 62 := by
  unfold rngOk at h
  simp only [Bool.and_eq_true, decide_eq_true_eq] at h
  omega
theorem range1_I (h : Gd G P C cs X N sc W) {fr : Bool} {tg a : Expr} {p pos : Pos} {f : Env → Sto → R D} (hg : glB sc "range" = true) (pl : plainE a = true) (ha : PE X a (TEv G W true f)) :
    PI X tg (.Call (.Name "range" p) [a] [] pos) (TIv G W fr fun Γ st => (f Γ st).bind fun x st1 => match x with
    | .int i => if rngOk i then .ok (rangeD 0 i) st1 else .bad
    | _ => .bad) := by
  refine ⟨fun pins s σ H Rr I ⟨Γ, st, g, S, E, w⟩ => (pi_range1 (gl_of h hg).1 (h.mgn _ (by decide)) (pa_cons ha pa_nil (star_1 pl)) (by rw [star_1 pl] <;> rfl)).run pins s σ H Rr I ?_⟩
  refine ⟨Γ, st, g, S, E, w.bind.imp fun d st1 H1 g1 S1 x1 w1 v r => ?_⟩
  cases d with
  | int i =>
    by_cases hr : rngOk i = true
    · simp only [hr, if_true] at w1
      have b := rng_bd hr
      refine ⟨i, by rw [show v = .int i from r], b.1, b.2, w1.now S1 _ ?_⟩
      have q := src_range (G := G) (lo := 0) (hi := i) (fr := fr) (H' := H1) (g' := g1)
      rw [Int.sub_zero] at q
      exact q
    · simp only [hr] at w1
      exact w1.elim
  | _ => exact w1.elim
theorem range2_I (h : Gd G P C cs X N sc W) {fr : Bool} {tg a b : Expr} {p pos : Pos} {f f2 : Env → Sto → R D} (hg : glB sc "range" = true) (pl : plainE a = true) (pl2 : plainE b = true) (ha : PE X a (TEv G W true f)) (hb : PE X b (TEv G W true f2)) :
    PI X tg (.Call (.Name "range" p) [a, b] [] pos) (TIv G W fr fun Γ st => (f Γ st).bind fun x st1 => (f2 Γ st1).bind fun y st2 => match x, y with
    | .int i, .int j => if rngOk i && rngOk j then .ok (rangeD i j) st2 else .bad
    | _, _ => .bad) := by
  refine ⟨fun pins s σ H Rr I ⟨Γ, st, g, S, E, w⟩ => (pi_range2 (gl_of h hg).1 (h.mgn _ (by decide)) (pa_cons ha (pa_cons hb pa_nil (star_1 pl2)) (star_1 pl)) (by rw [star_1 pl, star_1 pl2] <;> rfl) (by rw [star_1 pl2] <;> rfl)).run pins s σ H Rr I ?_⟩
  refine ⟨Γ, st, g, S, E, w.bind.imp fun d st1 H1 g1 S1 x1 w1 v r => ⟨Γ, st1, g1, S1, E.ext x1, w1.bind.imp fun e st2 H2 g2 S2 x2 w2 u r2 => ?_⟩⟩
  cases d with
  | int i =>
    cases e with
    | int j =>
      by_cases hr : (rngOk i && rngOk j) = true
      · simp only [hr, if_true] at w2
        rw [Bool.and_eq_true] at hr
        have b1 := rng_bd hr.1
        have b2 := rng_bd hr.2
        refine ⟨i, j, by rw [show v = .int i from r, show u = .int j from r2], ⟨b1.1, b1.2, b2.1, b2.2⟩, w2.now S2 _ src_range⟩
      · simp only [hr] at w2
        exact w2.elim
    | _ => exact w2.elim
  | _ => exact w2.elim
theorem range3D_len (i j k : Int) : (range3D i j k).length = (Builtin.Range.rangeSize i j k).toNat := by
  unfold range3D
  rw [List.length_map, List.length_range]
theorem range3_I (h : Gd G P C cs X N sc W) {fr : Bool} {tg a b c : Expr} {p pos : Pos} {f f2 f3 : Env → Sto → R D} (hg : glB sc "range" = true) (pl : plainE a = true) (pl2 : plainE b = true) (pl3 : plainE c = true) (ha : PE X a (TEv G W true f)) (hb : PE X b (TEv G W true f2)) (hc : PE X c (TEv G W true f3)) :
    PI X tg (.Call (.Name "range" p) [a, b, c] [] pos) (TIv G W fr fun Γ st => (f Γ st).bind fun x st1 => (f2 Γ st1).bind fun y st2 => (f3 Γ st2).bind fun z st3 => match x, y, z with
    | .int i, .int j, .int k => if rng3Ok i j k then .ok (range3D i j k) st3 else .bad
    | _, _, _ => .bad) := by
  refine ⟨fun pins s σ H Rr I ⟨Γ, st, g, S, E, w⟩ => (pi_range3 (gl_of h hg).1 (h.mgn _ (by decide)) (pa_cons ha (pa_cons hb (pa_cons hc pa_nil (star_1 pl3)) (star_1 pl2)) (star_1 pl)) (star_1 pl) (back_pl (by simp [pl2, pl3]))).run pins s σ H Rr I ?_⟩
  refine ⟨Γ, st, g, S, E, w.bind.imp fun d st1 H1 g1 S1 x1 w1 v r => ⟨Γ, st1, g1, S1, E.ext x1, w1.bind.imp fun e st2 H2 g2 S2 x2 w2 u r2 => ⟨Γ, st2, g2, S2, (E.ext x1).ext x2, w2.bind.imp fun e3 st3 H3 g3 S3 x3 w3 u3 r3 => ?_⟩⟩⟩
  cases d with
  | int i =>
    cases e with
    | int j =>
      cases e3 with
      | int k =>
        by_cases hr : rng3Ok i j k = true
        · simp only [hr, if_true] at w3
          unfold rng3Ok at hr
          simp only [Bool.and_eq_true, decide_eq_true_eq] at hr
          refine ⟨i, j, k, (Builtin.Range.rangeSize i j k).toNat, by rw [show v = .int i from r, show u = .int j from r2, show u3 = .int k from r3], ⟨hr.1.1.1, hr.1.1.2, hr.1.2, (Int.toNat_of_nonneg hr.2).symm⟩, w3.now S3 _ ?_⟩
          refine ⟨fun _ => True, fun m H x H' => H' = H ∧ x = .int (i + (m : Int) * k), ⟨fun m H hi _ => by rw [range3D_len] at hi; exact hi, fun H _ => by rw [range3D_len]; exact Nat.le_refl _, fun m H x H' hi _ y => y⟩, fun _ _ _ _ _ => trivial, fun m H2 x H3 st2 g2 hi S2 hF hA y => ?_⟩
          obtain ⟨rfl, rfl⟩ := y
          rw [range3D_len] at hi
          refine ⟨.int (i + (m : Int) * k), g2, ?_, S2, Ext.refl _ _, rfl⟩
          unfold range3D
          rw [List.getElem?_map, List.getElem?_range hi] <;> rfl
        · simp only [hr] at w3
          exact w3.elim
      | _ => exact w3.elim
    | _ => exact w3.elim
  | _ => exact w3.elim
theorem enumD_get : ∀ {l : List D} {k : Int} {i : Nat}, (enumD k l)[i]? = l[i]?.map fun x => .tup [.int (k + (i : Int)), x]
  | [], _, _ => by simp [enumD]
  | x :: r, k, 0 => by simp [enumD]
  | x :: r, k, i + 1 => by
    rw [enumD, List.getElem?_cons_succ, List.getElem?_cons_succ, enumD_get, show k + 1 + (i : Int) = k + ((i + 1 : Nat) : Int) by omega]
theorem enumD_len : ∀ {l : List D} {k : Int}, (enumD k l).length = l.length
  | [], _ => rfl
  | x :: r, k => by rw [enumD, List.length_cons, List.length_cons, enumD_len]
/-- a pair is made -/
theorem pair_new {H2 : Hp} {st2 : Sto} {g2 : Gh} {T : Addr} {x y : V} {d e : D} (S2 : SR G H2 st2 g2) (hT : H2 T = none) (r1 : Rp G g2.F g2.ad d x) (r2 : Rp G g2.F g2.ad e y) : ∃ g3, SR G (upd H2 T (.tup [x, y])) st2 g3 ∧ Ext H2 g2 (upd H2 T (.tup [x, y])) g3 ∧ Rp G g3.F g3.ad (.tup [d, e]) (.ref T) := by
  have f := S2.freeze (o := .tup [x, y]) hT rfl
  exact ⟨_, f.1, f.2, rp_new_tup S2 hT (.cons r1 (.cons r2 .nil))⟩
theorem enum_I (h : Gd G P C cs X N sc W) {fr : Bool} {elts : List Expr} {kk : Nat} {a : Expr} {p pos tpos : Pos} {f : Env → Sto → R D} (hg : glB sc "enumerate" = true) (pl : plainE a = true) (ha : PE X a (TEv G W fr f)) :
    PI X (.Tuple elts kk tpos) (.Call (.Name "enumerate" p) [a] [] pos) (TIv G W fr fun Γ st => (f Γ st).bind fun x st1 => match x with
    | .lst l => .ok (enumD 0 l) st1
    | _ => .bad) := by
  refine ⟨fun pins s σ H Rr I ⟨Γ, st, g, S, E, w⟩ => (pi_enum (gl_of h hg).1 (h.mgn _ (by decide)) (pa_cons ha pa_nil (star_1 pl)) (by rw [star_1 pl] <;> rfl)).run pins s σ H Rr I ?_⟩
  refine ⟨Γ, st, g, S, E, w.bind.imp fun d st1 H1 g1 S1 x1 w1 v r => ?_⟩
  cases d with
  | lst l =>
    obtain ⟨a, vs, rfl, hq, rr, hs⟩ := src_lst S1 r
    refine ⟨a, vs, rfl, .inl (.inl hq), w1.now S1 _ ⟨_, _, by rw [enumD_len, ← rr.length]; exact walk_enum.on (fun H q => .inl (.inl q)), hs, fun i H2 x H3 st2 g2 hi S2 hF hA y => ?_⟩⟩
    obtain ⟨T, x', y', rfl, hT, rfl, e1, e2⟩ := y
    rw [enumD_len] at hi
    obtain ⟨u, hu, ru⟩ := (rr.mono hF hA).get (List.getElem?_eq_getElem hi)
    have e2 : vs[i]? = some y' := e2
    have e1 : V.int (i : Nat) = x' := Option.some.inj e1
    subst e1
    rw [e2] at hu
    cases hu
    obtain ⟨g3, S3, x3, r3⟩ := pair_new (d := .int (0 + (i : Int))) (x := .int ((i : Nat) : Int)) S2 hT (by show V.int (i : Int) = V.int (0 + (i : Int)); rw [Int.zero_add]) ru
    exact ⟨_, g3, by rw [enumD_get, List.getElem?_eq_getElem hi] <;> rfl, S3, x3, r3⟩
  | _ => exact w1.elim
theorem zipD_get : ∀ {l m : List D} {i : Nat} {x y : D}, l[i]? = some x → m[i]? = some y → (zipD l m)[i]? = some (.tup [x, y])
  | [], _, _, _, _, h, _ => by simp at h
  | _ :: _, [], _, _, _, _, h => by simp at h
  | a :: l, b :: m, 0, x, y, h1, h2 => by
    simp at h1 h2
    rw [h1, h2]
    rfl
  | a :: l, b :: m, i + 1, x, y, h1, h2 => by
    rw [List.getElem?_cons_succ] at h1 h2
    rw [zipD, List.getElem?_cons_succ]
    exact zipD_get h1 h2
theorem zipD_len : ∀ {l m : List D}, (zipD l m).length = min l.length m.length
  | [], m => by rw [zipD]; simp; simp
  | _ :: _, [] => by rw [zipD]; simp; simp
  | a :: l, b :: m => by
    rw [zipD, List.length_cons, List.length_cons, List.length_cons, zipD_len]
    omega
theorem stay_and {fr : Bool} {H' : Hp} {g' : Gh} {S S' : Hp → Prop} (a : Stay G fr H' g' S) (b : Stay G fr H' g' S') : Stay G fr H' g' fun H => S H ∧ S' H := fun H2 st2 g2 S2 x => ⟨a H2 st2 g2 S2 x, b H2 st2 g2 S2 x⟩
theorem walk_zipT {K : PySem.W.Frag} {a b : Addr} {xs ys : List V} {n : Nat} (hn : n = min xs.length ys.length) : Walk (RZ.ItzT K a b) n (fun H => SqT K H a xs ∧ SqT K H b ys) (YPair (fun i => xs[i]?) (fun i => ys[i]?)) := by
  refine ⟨fun i H hi q => ?_, fun H q => ?_, fun i H v H' hi q y => ?_⟩
  · exact ⟨xs, ys, xs[i]'(by omega), ys[i]'(by omega), q.1, q.2, List.getElem?_eq_getElem _, List.getElem?_eq_getElem _⟩
  · refine ⟨xs, ys, q.1, q.2, ?_⟩
    by_cases hh : xs.length ≤ n
    · exact Or.inl hh
    · exact Or.inr (by omega)
  · obtain ⟨T, x, z, e1, e2, e3, e4, e5⟩ := y
    exact ⟨T, x, z, e1, e2, e3, e4 xs q.1, e5 ys q.2⟩
theorem zip_Y {l m : List D} {xs ys : List V} {g' : Gh} (rx : Rps G g'.F g'.ad l xs) (ry : Rps G g'.F g'.ad m ys) : ∀ i H2 x H3 st2 g2, i < (zipD l m).length → SR G H2 st2 g2 → HLe g'.F g2.F → ALe g'.ad g2.ad → YPair (fun i => xs[i]?) (fun i => ys[i]?) i H2 x H3 →
    ∃ d g3, (zipD l m)[i]? = some d ∧ SR G H3 st2 g3 ∧ Ext H2 g2 H3 g3 ∧ Rp G g3.F g3.ad d x := by
  intro i H2 x H3 st2 g2 hi S2 hF hA y
  obtain ⟨T, x', y', rfl, hT, rfl, e1, e2⟩ := y
  rw [zipD_len] at hi
  obtain ⟨u, hu, ru⟩ := (rx.mono hF hA).get (i := i) (List.getElem?_eq_getElem (by omega))
  obtain ⟨t, ht, rt⟩ := (ry.mono hF hA).get (i := i) (List.getElem?_eq_getElem (by omega))
  have e1 : xs[i]? = some x' := e1
  have e2 : ys[i]? = some y' := e2
  rw [e1] at hu
  rw [e2] at ht
  cases hu
  cases ht
  obtain ⟨g3, S3, x3, r3⟩ := pair_new S2 hT ru rt
  exact ⟨_, g3, zipD_get (List.getElem?_eq_getElem (by omega)) (List.getElem?_eq_getElem (by omega)), S3, x3, r3⟩
theorem zip_I (h : Gd G P C cs X N sc W) {fr : Bool} {elts : List Expr} {kk : Nat} {a b : Expr} {p pos tpos : Pos} {f f2 : Env → Sto → R D} (hg : glB sc "zip" = true) (pl : plainE a = true) (pl2 : plainE b = true) (ha : PE X a (TEv G W fr f)) (hb : PE X b (TEv G W fr f2)) :
    PI X (.Tuple elts kk tpos) (.Call (.Name "zip" p) [a, b] [] pos) (TIv G W fr fun Γ st => (f Γ st).bind fun x st1 => (f2 Γ st1).bind fun y st2 => match x, y with
    | .lst l, .lst m => .ok (zipD l m) st2
    | .tup l, .tup m => .ok (zipD l m) st2
    | _, _ => .bad) := by
  refine ⟨fun pins s σ H Rr I ⟨Γ, st, g, S, E, w⟩ => (RZ.pi_zipA (gl_of h hg).1 (h.mgn _ (by decide)) (pa_cons ha (pa_cons hb pa_nil (star_1 pl2)) (star_1 pl)) (by rw [star_1 pl] <;> rfl) (back_pl (by simp [pl2]))).run pins s σ H Rr I ?_⟩
  refine ⟨Γ, st, g, S, E, w.bind.imp fun d st1 H1 g1 S1 x1 w1 v r => ⟨Γ, st1, g1, S1, E.ext x1, w1.bind.imp fun e st2 H2 g2 S2 x2 w2 u r2 => ?_⟩⟩
  have r := r.ext x2
  cases d with
  | lst l =>
    cases e with
    | lst m =>
      obtain ⟨p1, xs, rfl, h1, rx, s1⟩ := src_lst S2 r
      obtain ⟨p2, ys, rfl, h2, ry, s2⟩ := src_lst S2 r2
      refine ⟨p1, p2, xs, ys, rfl, .inl ⟨.inl (.inl h1), .inl (.inl h2), w2.now S2 _ ⟨_, _, ?_, stay_and s1 s2, zip_Y rx ry⟩⟩⟩
      exact (walk_zip (by rw [zipD_len, rx.length, ry.length])).on fun H q => ⟨.inl (.inl q.1), .inl (.inl q.2)⟩
    | _ => exact w2.elim
  | tup l =>
    cases e with
    | tup m =>
      obtain ⟨p1, xs, rfl, h1, rx, s1⟩ := src_tup S2 r
      obtain ⟨p2, ys, rfl, h2, ry, s2⟩ := src_tup S2 r2
      refine ⟨p1, p2, xs, ys, rfl, .inr ⟨by rw [h.hK]; exact h1, by rw [h.hK]; exact h2, w2.now S2 _ ⟨_, _, ?_, stay_and s1 s2, zip_Y rx ry⟩⟩⟩
      exact (walk_zipT (by rw [zipD_len, rx.length, ry.length])).on fun H q => by rw [h.hK]; exact q
    | _ => exact w2.elim
  | _ => exact w2.elim
end
end Eng
/-! Eng.G: comprehensions. -/
namespace Eng
open PySem PySem.Spec PyProof.Rows L2

theorem wipe_wipe {σ : L2.St} {vs : List Nat} : ∀ {us : List Nat}, (∀ i ∈ us, i ∈ vs) → L2.wipe (L2.wipe σ us) vs = L2.wipe σ vs
  | [], _ => rfl
  | u :: us, h => by
    show L2.wipe ((L2.wipe σ us).set u none) vs = _
    rw [wipe_in (h u (by simp)), wipe_wipe fun i hi => h i (by simp [hi])]
theorem _root_.L2.PTs.weak {X : Cx} {e : List Expr} {t t' : TT} (h : PTs X e t) (i : ∀ σ H Q, t' σ H Q → t σ H Q) : PTs X e t' := ⟨fun pins s σ H Q I q => h.run pins s σ H Q I (i σ H Q q)⟩
abbrev W0 : WX := fun _ _ _ _ => False
section
variable {G : GP} {H H1 : Hp} {st : Sto} {g g1 : Gh} {D : Addr}
/-- an object that is nobody's changes -/
theorem SR.loose (S : SR G H st g) (hF : g.F D = none) (hM : g.Mu D = none) (hT : H D = none ∨ ∃ xs, H D = some (.lst xs)) {o : HO} : SR G (upd H D o) st g := by
  have kp : ∀ b, b ≠ D → upd H D o b = H b := fun b h => upd_ne h
  refine ⟨fun a u e => ?_, fun a t e => ?_, S.alen, fun k ob e => ?_, S.tabs.to (fun b ps e => ?_) (HLe.refl _)⟩
  rotate_left 3
  · have : b ≠ D := fun z => by
      rw [z] at e
      rcases hT with t | ⟨xs, t⟩
      · rw [t] at e
        cases e
      · rw [t] at e
        cases e
    rw [kp b this]
    exact e
  · have : a ≠ D := fun z => by rw [z, hF] at e; cases e
    rw [kp a this]
    exact S.fh a u e
  · have : a ≠ D := fun z => by rw [z, hM] at e; cases e
    rw [kp a this]
    exact S.live a t e
  · obtain ⟨a, h1, h2, h3⟩ := S.objs k ob e
    have : a ≠ D := fun z => by rw [z, hM] at h2; cases h2
    refine ⟨a, h1, h2, ?_⟩
    cases ob with
    | lst l =>
      obtain ⟨vs, h4, h5⟩ := h3
      exact ⟨vs, by rw [kp a this]; exact h4, h5⟩
    | dic _ _ => exact h3
    | ins _ _ => exact h3
/-- an object that is nobody's is frozen -/
theorem SR.seal (S : SR G H st g) (hF : g.F D = none) (hM : g.Mu D = none) {o : HO} (hD : H D = some o) (ht : isTbl o = false) : SR G H st { g with F := upd g.F D o } ∧ HLe g.F (upd g.F D o) := by
  have fle : HLe g.F (upd g.F D o) := fun a u e => by rw [upd_ne (ne_of_none e hF)]; exact e
  refine ⟨⟨fun a u e => ?_, S.live, S.alen, fun k ob e => ?_, S.tabs.to (fun _ _ e => e) fle⟩, fle⟩
  · by_cases h : a = D
    · subst h
      have e' : upd g.F a o a = some u := e
      rw [upd_same] at e'
      cases e'
      exact ⟨hD, hM, ht⟩
    · have e' : upd g.F D o a = some u := e
      rw [upd_ne h] at e'
      exact S.fh a u e'
  · obtain ⟨a, h1, h2, h3⟩ := S.objs k ob e
    refine ⟨a, h1, h2, ?_⟩
    cases ob with
    | lst l =>
      obtain ⟨vs, h4, h5⟩ := h3
      exact ⟨vs, h4, h5.mono fle (ALe.refl _)⟩
    | dic _ _ => exact h3
    | ins _ _ => exact h3
theorem Ext.loose (x : Ext H1 g1 H g) (hD : H1 D = none) {o : HO} : Ext H1 g1 (upd H D o) g :=
  ⟨x.f, x.fn, x.ad, x.mu, x.mn, fun b u e t n => by rw [upd_ne (ne_of_none e hD)]; exact x.keep b u e t n, fun b e => by
    by_cases hb : b = D
    · rw [hb]
      exact hD
    · rw [upd_ne hb] at e
      exact x.there b e⟩
theorem Ext.seal (x : Ext H1 g1 H g) (hD : H1 D = none) (hF : g.F D = none) {o : HO} : Ext H1 g1 H { g with F := upd g.F D o } := by
  have fle : HLe g.F (upd g.F D o) := fun a u e => by rw [upd_ne (ne_of_none e hF)]; exact e
  refine ⟨x.f.trans fle, fun a u e => ?_, x.ad, x.mu, x.mn, x.keep, x.there⟩
  by_cases h : a = D
  · subst h
    exact .inr hD
  · have e' : upd g.F D o a = some u := e
    rw [upd_ne h] at e'
    exact x.fn a u e'
/-- what is nobody's stays so -/
theorem Ext.nobody (x : Ext H1 g1 H g) {o : HO} (hD : H1 D = some o) (ht : isTbl o = false) (hF : g1.F D = none) (hM : g1.Mu D = none) : H D = some o ∧ g.F D = none ∧ g.Mu D = none := by
  refine ⟨x.keep D o hD ht (fun k e => by rw [hM] at e; cases e), ?_, ?_⟩
  · cases e : g.F D with
    | none => rfl
    | some u =>
      rcases x.fn D u e with h | h
      · rw [hF] at h; cases h
      · rw [hD] at h; cases h
  · cases e : g.Mu D with
    | none => rfl
    | some u =>
      rcases x.mn D u e with h | h
      · rw [hM] at h; cases h
      · rw [hD] at h; cases h
end
section
variable {G : GP} {P : Prg} {C : Nm} {cs : List CallT} {X : Cx} {N : List Str} {sc : Scope} {W : WX}
/-- within a comprehension's block -/
theorem Gd.blk (h : Gd G P C cs X N sc W) (s : Shared) (H : Hp) (scope : Scope) (Ca : Addr) (cl : List (Str × Addr)) (fp : List Addr) : Gd G P C cs (X.blk s H scope (compEnvC scope cl Ca X.env) fp) N (relS scope sc) W0 :=
  ⟨h.hK, h.calm, takes0, h.room, h.hN, h.nd, by show relS scope X.env.scope = _; rw [h.hsc], h.mgn, h.mgc, h.mgt, h.tbl, h.c1, h.lmG, h.lmE, h.mgf⟩
theorem compL_cons {b : D → Env → Option Env} {c : Env → Sto → R Bool} {f : Env → Sto → R D} {x : D} {xs : List D} {Γ : Env} {st : Sto} {l : List D} {stF : Sto} (h : compL b c f (x :: xs) Γ st = .ok l stF) :
    ∃ Γ' k st1, b x Γ = some Γ' ∧ c Γ' st = .ok k st1 ∧ if k = true then ∃ d st2 l', f Γ' st1 = .ok d st2 ∧ compL b c f xs Γ st2 = .ok l' stF ∧ l = d :: l' else compL b c f xs Γ st1 = .ok l stF := by
  unfold compL at h
  cases hb : b x Γ with
  | none => rw [hb] at h; cases h
  | some Γ' =>
    rw [hb] at h
    obtain ⟨k, st1, h1, h⟩ := R.bind_ok h
    refine ⟨Γ', k, st1, rfl, h1, ?_⟩
    cases k with
    | false => exact h
    | true =>
      obtain ⟨d, st2, h2, h⟩ := R.bind_ok h
      obtain ⟨l', st3, h3, h⟩ := R.bind_ok h
      cases h
      exact ⟨d, st2, l', h2, h3, rfl⟩
theorem comp_walk {fr : Bool} {J : L2.It} {xs : List D} {H1 : Hp} {g1 : Gh} {p : Pt} {fc : Env → Sto → R Bool} {fe : Env → Sto → R D} {vs : List Nat} {Γ : Env} {σ : L2.St} {st1 stF : Sto} {lF : List D} {Q : VK} {K : PySem.W.Frag} (hK : K = G.K)
    (S1 : SR G H1 st1 g1) (E1 : ER G Γ σ H1 g1) (src : SrcD G fr J xs H1 g1) (hv : ∀ i ∈ ptVars p, i ∈ vs) (hl : compL (bindP p) fc fe xs (wipeE Γ vs) st1 = .ok lF stF) (big : bigOk xs = true)
    (D : Addr) (hD : H1 D = none) (q : ∀ H' g' acc, SR G H' stF g' → Ext H1 g1 H' g' → H' D = some (.lst acc) → g'.F D = none → g'.Mu D = none → Rps G g'.F g'.ad lF acc → Q (.ref D) H') :
    ∃ W : Nat → Nat → Hp → Prop, (∃ m, W 0 m (upd H1 D (.lst []))) ∧ ∀ i m H, W i m H →
      (J.stop i H ∧ Q (.ref D) H) ∨ (J.go i H ∧ ∃ Nx : Hp → Prop, (∀ H', Nx H' → ∃ m', m' < m ∧ W (i + 1) m' H') ∧ ∀ x H', J.yld i H x H' → gPt K p x (wipe σ vs) H' fun σ2 H2 => wipe σ2 vs = wipe σ vs ∧ TTv G W0 fc σ2 H2 fun b H3 =>
        if b = true then TEv G W0 true fe σ2 H3 fun y H4 => ∃ acc, H4 D = some (.lst acc) ∧ acc.length < sizeLine ∧ Nx (upd H4 D (.lst (acc ++ [y]))) else Nx H3) := by
  obtain ⟨S, Y, w, stay, yld⟩ := src.ex
  have hF1 : g1.F D = none := by
    cases e : g1.F D with
    | none => rfl
    | some u => rw [(S1.fh D u e).1] at hD; cases hD
  have hM1 : g1.Mu D = none := by
    cases e : g1.Mu D with
    | none => rfl
    | some t => obtain ⟨xs, e⟩ := S1.live D t e; rw [e] at hD; cases hD
  let Pv : Nat → Hp → Prop := fun i H2 => ∃ acc accD st2 g2 l', SR G H2 st2 g2 ∧ Ext H1 g1 H2 g2 ∧ H2 D = some (.lst acc) ∧ g2.F D = none ∧ g2.Mu D = none ∧ Rps G g2.F g2.ad accD acc ∧ acc.length ≤ i ∧
    compL (bindP p) fc fe (xs.drop i) (wipeE Γ vs) st2 = .ok l' stF ∧ accD ++ l' = lF
  refine lc_it w Pv ?_ ?_ ?_ ?_
  · exact ⟨[], [], st1, g1, lF, S1.loose hF1 hM1 (.inl hD), (Ext.refl _ _).loose hD, upd_same, hF1, hM1, Rps.nil, Nat.le_refl _, hl, rfl⟩
  · rintro i H2 hi ⟨acc, accD, st2, g2, l', S2, x2, _⟩
    refine stay H2 st2 g2 S2 ?_
    cases fr with
    | true => exact x2.f
    | false => exact x2
  · rintro i x H2 H3 hi ⟨acc, accD, st2, g2, l', S2, x2, hDa, hF2, hM2, ra, hla, hcl, hap⟩ hy
    obtain ⟨d, g3, hd, S3, x3, rd⟩ := yld i H2 x H3 st2 g2 hi S2 x2.f x2.ad hy
    have hxi : xs.drop i = d :: xs.drop (i + 1) := by
      obtain ⟨hlt, e⟩ := List.getElem?_eq_some_iff.mp hd
      rw [List.drop_eq_getElem_cons hlt, e]
    rw [hxi] at hcl
    obtain ⟨Γ', k, st3, hb, hc, hrest⟩ := compL_cons hcl
    have E3 : ER G (wipeE Γ vs) (wipe σ vs) H3 g3 := (E1.wipe vs).ext (x2.trans x3)
    refine gPt_ok hK S3 p E3 rd hb fun σ' E' hw => ⟨(hw vs hv).trans (wipe_wipe fun i hi => hi), Γ', st2, g3, S3, E', ?_⟩
    rw [hc]
    intro H4 g4 S4 x4
    have x24 := x3.trans x4
    obtain ⟨n1, n2, n3⟩ := x24.nobody hDa rfl hF2 hM2
    cases k with
    | false =>
      simp only [Bool.false_eq_true, if_false] at hrest ⊢
      exact ⟨acc, accD, st3, g4, l', S4, x2.trans x24, n1, n2, n3, ra.mono x24.f x24.ad, Nat.le_succ_of_le hla, hrest, hap⟩
    | true =>
      simp only [if_true] at hrest ⊢
      obtain ⟨y, st4, l2, hf, hcl2, el⟩ := hrest
      refine ⟨Γ', st3, g4, S4, E'.ext x4, ?_⟩
      rw [hf]
      intro H5 g5 S5 x5 v rv
      obtain ⟨m1, m2, m3⟩ := x5.nobody n1 rfl n2 n3
      have xlen : xs.length < 1000000 := by
        unfold bigOk lim at big
        exact of_decide_eq_true big
      refine ⟨acc, m1, by rw [sizeLine_eq]; omega, acc ++ [v], accD ++ [y], st4, g5, l2, S5.loose m2 m3 (.inr ⟨_, m1⟩), (x2.trans (x24.trans x5)).loose hD, upd_same, m2, m3, ?_, ?_, hcl2, ?_⟩
      · exact ((ra.mono x24.f x24.ad).mono x5.f x5.ad).append (Rps.cons rv Rps.nil)
      · rw [List.length_append]
        exact Nat.succ_le_succ hla
      · rw [List.append_assoc, ← hap, el]
        rfl
  · rintro H2 ⟨acc, accD, st2, g2, l', S2, x2, hDa, hF2, hM2, ra, hla, hcl, hap⟩
    rw [List.drop_length] at hcl
    cases hcl
    rw [List.append_nil] at hap
    subst hap
    exact q H2 g2 acc S2 x2 hDa hF2 hM2 ra
theorem fold_ok {e : Expr} {env : PySem.Env} {x : Value} (h : (match e with | .Set _ _ _ => false | _ => true) = true) : foldedSetIterable e env x = pure x := by
  cases e <;> first
    | rfl
    | (cases h; done)
def notSet : Expr → Bool
  | .Set _ _ _ => false
  | _ => true
/-- what a comprehension's reading is -/
def compR (g : List D → D) (p : Pt) (vs : List Nat) (fi : Env → Sto → R (List D)) (fc : Env → Sto → R Bool) (fe : Env → Sto → R D) : Env → Sto → R D := fun Γ st => (fi Γ st).bind fun xs st1 =>
  ((compL (bindP p) fc fe xs (wipeE Γ vs) st1).noEr).bind fun l st2 => if bigOk xs then .ok (g l) st2 else .bad
theorem compR_V {fr : Bool} {p : Pt} {vs : List Nat} {fi : Env → Sto → R (List D)} {fc : Env → Sto → R Bool} {fe : Env → Sto → R D} {K : PySem.W.Frag} (hK : K = G.K) (hv : ∀ i ∈ ptVars p, i ∈ vs) {σ : L2.St} {H : Hp} {Q : VK} {s : Bool} (h : TEv G W s (compR .lst p vs fi fc fe) σ H Q) :
    tLc (TIv G W fr fi) (gPt K p) (TTv G W0 fc) (TEv G W0 true fe) vs σ H Q := by
  obtain ⟨Γ, st, g, S, E, w⟩ := h
  refine ⟨Γ, st, g, S, E, w.bind.imp fun xs st1 H1 g1 S1 x1 w1 J src Da hD => ?_⟩
  cases hc : compL (bindP p) fc fe xs (wipeE Γ vs) st1 with
  | ok lF stF =>
    rw [hc] at w1
    by_cases hb : bigOk xs = true
    · refine comp_walk hK S1 (E.ext x1) src hv hc hb Da hD (fun H' g' acc S' x' hDa hF hM ra => ?_)
      have w1 : Wp G (Eσ W σ) (if bigOk xs = true then R.ok (D.lst lF) stF else R.bad) H1 g1 _ := w1
      rw [if_pos hb] at w1
      obtain ⟨S3, fle⟩ := S'.seal hF hM hDa rfl
      refine w1 H' _ S3 (x'.seal hD hF) _ (Rx.weak ?_)
      exact ⟨Da, acc, rfl, upd_same, ra.mono fle (ALe.refl _)⟩
    · have w1 : Wp G (Eσ W σ) (if bigOk xs = true then R.ok (D.lst lF) stF else R.bad) H1 g1 _ := w1
      rw [if_neg hb] at w1
      exact w1.elim
  | er c s => rw [hc] at w1; exact w1.elim
  | bad => rw [hc] at w1; exact w1.elim
theorem lc_E (h : Gd G P C cs X N sc W) {fr : Bool} {elt tg iter : Expr} {ifs : List Expr} {scope : Scope} {own : List (Str × Nat)} {pos : Pos} {p : Pt} {fi : Env → Sto → R (List D)} {fc : Env → Sto → R Bool} {fe : Env → Sto → R D}
    (hi : PI X tg iter (TIv G W fr fi)) (hb : blkC N sc scope own = true) (hp : mtP N (relS scope sc) scope p tg = true) (hv : ∀ i ∈ ptVars p, i ∈ own.map (·.2)) (hs : notSet iter = true)
    (ht : ∀ X', Gd G P C cs X' N (relS scope sc) W0 → PTs X' ifs (TTv G W0 fc)) (he : ∀ X', Gd G P C cs X' N (relS scope sc) W0 → PE X' elt (TEv G W0 true fe)) :
    PE X (.ListComp elt [⟨tg, iter, ifs, 0⟩] scope pos) (TEv G W true (compR .lst p (own.map (·.2)) fi fc fe)) := by
  have ok := blkOk_by hb
  have hN := h.hN
  refine (pe_lc (wi := TIv G W fr fi) (g := gPt X.K p) (tt := TTv G W0 fc) (te := TEv G W0 true fe) (own := own) h.calm (by rw [hN]; exact h.nd) hi (by rw [hN, h.hsc]; exact ok) (fun s H Ca cl fp => ?_) (fun s H Ca cl fp => ht _ (h.blk s H scope Ca cl fp)) (fun s H Ca cl fp => he _ (h.blk s H scope Ca cl fp)) fun x => fold_ok (by cases iter <;> first | rfl | exact hs)).weak fun σ H Q q => compR_V h.hK hv q
  have b := h.blk s H scope Ca cl fp
  exact pg_P (X := X.blk s H scope (compEnvC scope cl Ca X.env) fp) b.hN b.nd b.hsc (fun x e => by show (scope.names.lookup x == some .cell) = true; rw [e]; rfl) b.calm hp
end
end Eng
/-! Eng.H: rules by reading. -/
namespace Eng
open PySem PySem.Spec PyProof.Rows L2
section
variable {G : GP} {P : Prg} {C : Nm} {cs : List CallT} {X : Cx} {N : List Str} {sc : Scope} {W : WX}
/-! ### arguments -/
theorem args_nil : PA X [] (TAv G W true fun _ st => .ok [] st) := pa_nil.weak fun σ H Q ⟨Γ, st, g, S, E, w⟩ => w.now S [] rfl
theorem args_cons {e : Expr} {es : List Expr} {f : Env → Sto → R D} {fs : Env → Sto → R (List D)} (pl : plainE e = true) (he : PE X e (TEv G W true f)) (hs : PA X es (TAv G W true fs)) :
    PA X (e :: es) (TAv G W true fun Γ st => (f Γ st).bind fun x st1 => (fs Γ st1).bind fun l st2 => .ok (x :: l) st2) := by
  refine (pa_cons he hs (star_1 pl)).weak fun σ H Q ⟨Γ, st, g, S, E, w⟩ => ?_
  refine ⟨Γ, st, g, S, E, w.bind.imp fun d st1 H1 g1 S1 x1 w1 v r => ⟨Γ, st1, g1, S1, E.ext x1, w1.bind.imp fun l st2 H2 g2 S2 x2 w2 vs rs => ?_⟩⟩
  have r2 : Rp G g2.F g2.ad d v := Rp.mono x2.f x2.ad r
  exact w2.now S2 (v :: vs) (Rps.cons r2 rs)
theorem big_sl {l : List D} {vs : List V} {G : GP} {F : Hp} {ad : List Addr} (r : Rps G F ad l vs) (h : bigOk l = true) : vs.length ≤ sizeLine := by
  rw [r.length]
  exact lim_sl (by unfold bigOk at h; exact of_decide_eq_true h)
theorem tup_E {es : List Expr} {k : Nat} {pos : Pos} {fs : Env → Sto → R (List D)} (hs : PA X es (TAv G W true fs)) : PE X (.Tuple es k pos) (TEv G W true fun Γ st => (fs Γ st).bind fun l st1 => if bigOk l then .ok (.tup l) st1 else .bad) := by
  refine (pe_tup hs).weak fun σ H Q ⟨Γ, st, g, S, E, w⟩ => ⟨Γ, st, g, S, E, w.bind.imp fun l st1 H1 g1 S1 x1 w1 vs rs => ?_⟩
  by_cases hb : bigOk l = true
  · rw [if_pos hb] at w1
    refine ⟨big_sl rs hb, fun p hp => ?_⟩
    have f := S1.freeze (o := .tup vs) hp rfl
    exact w1 _ _ f.1 f.2 _ (rp_new_tup S1 hp rs)
  · rw [if_neg hb] at w1
    exact w1.elim
theorem lst_E {es : List Expr} {pos : Pos} {fs : Env → Sto → R (List D)} (hs : PA X es (TAv G W true fs)) : PE X (.List es pos) (TEv G W true fun Γ st => (fs Γ st).bind fun l st1 => if bigOk l then .ok (.lst l) st1 else .bad) := by
  refine (pe_lst hs).weak fun σ H Q ⟨Γ, st, g, S, E, w⟩ => ⟨Γ, st, g, S, E, w.bind.imp fun l st1 H1 g1 S1 x1 w1 vs rs => ?_⟩
  by_cases hb : bigOk l = true
  · rw [if_pos hb] at w1
    refine ⟨big_sl rs hb, fun p hp => ?_⟩
    have f := S1.freeze (o := .lst vs) hp rfl
    exact w1 _ _ f.1 f.2 _ (rp_new_lst S1 hp rs)
  · rw [if_neg hb] at w1
    exact w1.elim
/-- a new list of the store -/
theorem SR.newO {H1 : Hp} {st1 : Sto} {g1 : Gh} {l : List D} {vs : List V} {p : Addr} (S : SR G H1 st1 g1) (hp : H1 p = none) (r : Rps G g1.F g1.ad l vs) :
    let g2 : Gh := { F := g1.F, ad := g1.ad ++ [p], Mu := fun a => if a = p then some (.obj st1.length) else g1.Mu a }
    SR G (upd H1 p (.lst vs)) (st1 ++ [.lst l]) g2 ∧ Ext H1 g1 (upd H1 p (.lst vs)) g2 := by
  intro g2
  have nM : g1.Mu p = none := by
    cases q : g1.Mu p with
    | none => rfl
    | some t => obtain ⟨xs, e⟩ := S.live p t q; rw [e] at hp; cases hp
  have nF : g1.F p = none := by
    cases q : g1.F p with
    | none => rfl
    | some u => rw [(S.fh p u q).1] at hp; cases hp
  have kp : ∀ b u, H1 b = some u → upd H1 p (.lst vs) b = some u := fun b u e => by rw [upd_ne (ne_of_none e hp)]; exact e
  have al : ALe g1.ad g2.ad := ⟨[p], rfl⟩
  have mu : ∀ a, a ≠ p → g2.Mu a = g1.Mu a := fun a h => if_neg h
  have S' := S.loose nF nM (.inl hp) (o := .lst vs)
  refine ⟨⟨fun a u e => ?_, fun a t e => ?_, ?_, fun k ob e => ?_, S'.tabs⟩, ⟨HLe.refl _, fun _ _ h => .inl h, al, fun a t h => ?_, fun a t h => ?_, fun b u e _ _ => kp b u e, fun b e => ?_⟩⟩
  · obtain ⟨h1, h2, h3⟩ := S'.fh a u e
    refine ⟨h1, ?_, h3⟩
    rw [mu a fun z => by rw [z, nF] at e; cases e]
    exact h2
  · by_cases h : a = p
    · subst h
      exact ⟨vs, upd_same⟩
    · rw [mu a h] at e
      exact S'.live a t e
  · show (g1.ad ++ [p]).length = (st1 ++ [Ob.lst l]).length
    rw [List.length_append, List.length_append, S.alen] <;> rfl
  · by_cases hk : k < st1.length
    · rw [List.getElem?_append_left hk] at e
      obtain ⟨a, h1, h2, h3⟩ := S'.objs k ob e
      refine ⟨a, al.get h1, ?_, ?_⟩
      · rw [mu a fun z => by rw [z, nM] at h2; cases h2]
        exact h2
      · cases ob with
        | lst m =>
          obtain ⟨us, h4, h5⟩ := h3
          exact ⟨us, h4, h5.mono (HLe.refl _) al⟩
        | dic _ _ => exact h3
        | ins _ _ => exact h3
    · have hk2 : k = st1.length := by
        have := (List.getElem?_eq_some_iff.mp e).1
        rw [List.length_append, List.length_singleton] at this
        omega
      subst hk2
      rw [List.getElem?_append_right (Nat.le_refl _), Nat.sub_self] at e
      cases e
      refine ⟨p, ?_, if_pos rfl, vs, upd_same, r.mono (HLe.refl _) al⟩
      show (g1.ad ++ [p])[st1.length]? = some p
      rw [← S.alen, List.getElem?_append_right (Nat.le_refl _), Nat.sub_self] <;> rfl
  · rw [mu a fun z => by rw [z, nM] at h; cases h]
    exact h
  · by_cases hb : a = p
    · subst hb
      exact .inr hp
    · rw [mu a hb] at h
      exact .inl h
  · by_cases h : b = p
    · subst h
      exact hp
    · rw [upd_ne h] at e
      exact e
theorem newl_E {es : List Expr} {pos : Pos} {fs : Env → Sto → R (List D)} (hs : PA X es (TAv G W true fs)) : PE X (.List es pos) (TEv G W true fun Γ st => (fs Γ st).bind fun l st1 => if bigOk l then .ok (.ref st1.length) (st1 ++ [.lst l]) else .bad) := by
  refine (pe_lst hs).weak fun σ H Q ⟨Γ, st, g, S, E, w⟩ => ⟨Γ, st, g, S, E, w.bind.imp fun l st1 H1 g1 S1 x1 w1 vs rs => ?_⟩
  by_cases hb : bigOk l = true
  · rw [if_pos hb] at w1
    refine ⟨big_sl rs hb, fun p hp => ?_⟩
    have f := S1.newO hp rs
    refine w1 _ _ f.1 f.2 _ ⟨p, rfl, ?_⟩
    show (g1.ad ++ [p])[st1.length]? = some p
    rw [← S1.alen, List.getElem?_append_right (Nat.le_refl _), Nat.sub_self] <;> rfl
  · rw [if_neg hb] at w1
    exact w1.elim

/-! ### calls -/
theorem pe_callS_0 {CX : CXT} {k : Nat} {f : Addr} {fd : FuncData} {ps : List Str} {sp : Sp} {E : L2.St → XK} {x : Str} {p pos : Pos} (F : FnOk X.prog X.w X.K X.mg X.base CX k f fd ps sp) (hr : Room k X.A) (hg : Gl X x) (hm : X.mg x = some (.ref f)) (hk : PySem.W.keepIn X.K (.ref f) = true)
    (hb : Binds X.K fd ps []) (hx : ∀ σ, PassesAt CX X σ (E σ)) (hdb : (x == ("__debug__" : Str)) = false) : PE X (.Call (.Name x p) [] [] pos) (tCallS sp E tNil) := by
  refine ⟨fun pins s σ H Q I h => wpAny_Call_Name_kw (ld_glob I hg hm ?_ hdb)⟩
  exact PySem.W.callWith_K0 I.kIn hk (run_fnS (us := []) F hr hb (hx σ) I .nil h)
theorem TEv.bad {s : Bool} {σ : L2.St} {H : Hp} {Q : VK} {f : Env → Sto → R D} (h : TEv G W s f σ H Q) (e : ∀ Γ st, f Γ st = .bad) : False := by
  obtain ⟨Γ, st, g, S, E, w⟩ := h
  rw [e] at w
  exact w
theorem pe_bad {e : Expr} {s : Bool} {f : Env → Sto → R D} (h : ∀ Γ st, f Γ st = .bad) : PE X e (TEv G W s f) := ⟨fun _ _ _ _ _ _ q => (q.bad h).elim⟩
theorem call_V {k : Nat} {c : CallT} {fs : Env → Sto → R (List D)} {σ : L2.St} {H : Hp} {Q : VK} (h : TEv G W true (fun Γ st => (fs Γ st).bind fun l st1 => c k l st1) σ H Q) : tCallS (spEv G (c k)) (WE W) (TAv G W true fs) σ H Q := by
  obtain ⟨Γ, st, g, S, E, w⟩ := h
  exact ⟨Γ, st, g, S, E, w.bind.imp fun l st1 H1 g1 S1 x1 w1 vs rs => ⟨l, st1, g1.ns, S1.ns, g1.ns_no, rs, (w1.ns S1).imp fun d st2 H2 g2 S2 x2 q v r => q v r⟩⟩
theorem room_hd {c : CallT} {rest : List CallT} {A : Around} (h : Room (c :: rest).length A) : Room (rest.length + 1) A := h
theorem call_E (h : Gd G P C cs X N sc W) {c : CallT} {rest : List CallT} (hcs : cs = c :: rest) {k : Nat} {x : Str} {p pos : Pos} {e : Expr} {es : List Expr} {fs : Env → Sto → R (List D)} (hk : C.fn[k]? = some x) (hg : glB sc x = true) (pl : (e :: es).all plainE = true) (hs : PA X (e :: es) (TAv G W true fs)) :
    PE X (.Call (.Name x p) (e :: es) [] pos) (TEv G W true fun Γ st => (fs Γ st).bind fun l st1 => c k l st1) := by
  obtain ⟨g1, g2⟩ := gl_of h hg
  obtain ⟨f, fd, ps, h1, h2, h3, F⟩ := h.mgf 0 c rest (by rw [hcs]; rfl) k x hk
  rw [List.all_cons, Bool.and_eq_true] at pl
  exact (pe_callS F (room_hd (by rw [← hcs]; exact h.room)) g1 h1 h2 h3 (fun σ => passAt h.tk σ) hs g2 (star_1 pl.1) (back_pl pl.2)).weak fun σ H Q q => call_V q
theorem call0_E (h : Gd G P C cs X N sc W) {c : CallT} {rest : List CallT} (hcs : cs = c :: rest) {k : Nat} {x : Str} {p pos : Pos} (hk : C.fn[k]? = some x) (hg : glB sc x = true) :
    PE X (.Call (.Name x p) [] [] pos) (TEv G W true fun _ st => c k [] st) := by
  obtain ⟨g1, g2⟩ := gl_of h hg
  obtain ⟨f, fd, ps, h1, h2, h3, F⟩ := h.mgf 0 c rest (by rw [hcs]; rfl) k x hk
  refine (pe_callS_0 F (room_hd (by rw [← hcs]; exact h.room)) g1 h1 h2 h3 (fun σ => passAt h.tk σ) g2).weak fun σ H Q ⟨Γ, st, g, S, E, w⟩ => ?_
  exact ⟨[], st, g.ns, S.ns, g.ns_no, Rps.nil, (w.ns S).imp fun d st2 H2 g2 S2 x2 q v r => q v r⟩
/-- a built-in of one value -/
theorem b1_V {op : Sto → D → Option D} {f : Env → Sto → R D} {σ : L2.St} {H : Hp} {Q : VK} {s : Bool} (h : TEv G W s (fun Γ st => (f Γ st).bind fun x st1 => ofO (op st1 x) st1) σ H Q) : tCB (rV1 G op) (tCons (TEv G W false f) tNil) σ H Q := by
  obtain ⟨Γ, st, g, S, E, w⟩ := h
  refine ⟨Γ, st, g, S, E, w.bind.imp fun d st1 H1 g1 S1 x1 w1 v r => ?_⟩
  obtain ⟨z, hz, w2⟩ := w1.ofO
  exact ⟨st1, g1, d, z, v, rfl, S1, r, hz, fun u H' g' S' x' rr => w2 H' g' S' x' u (Rx.weak rr)⟩
theorem b2_V {op : D → D → Option D} {f f2 : Env → Sto → R D} {σ : L2.St} {H : Hp} {Q : VK} {s : Bool} (h : TEv G W s (fun Γ st => (f Γ st).bind fun x st1 => (f2 Γ st1).bind fun y st2 => ofO (op x y) st2) σ H Q) : tCB (rW2 G op) (tCons (TEv G W false f) (tCons (TEv G W false f2) tNil)) σ H Q := by
  obtain ⟨Γ, st, g, S, E, w⟩ := h
  refine ⟨Γ, st, g, S, E, w.bind.imp fun d st1 H1 g1 S1 x1 w1 v r => ⟨Γ, st1, g1, S1, E.ext x1, w1.bind.imp fun e st2 H2 g2 S2 x2 w2 u r2 => ?_⟩⟩
  obtain ⟨z, hz, w3⟩ := w2.ofO
  exact ⟨st2, g2, d, e, z, v, u, rfl, S2, Ru.ext x2 r, r2, hz, fun u H' g' S' x' rr => w3 H' g' S' x' u (Rx.weak rr)⟩
def b1name : B1 → Str
  | .abs => "abs"
  | .len => "len"
  | .int => "int"
  | .tuple => "tuple"
  | .list => "list"
  | .sum => "sum"
  | .min => "min"
  | .max => "max"
  | .str => "str"
def b1ok : B1 → Bool
  | .min => false
  | .max => false
  | _ => true
theorem nodbg {sc : Scope} {x : Str} (h : glB sc x = true) : (x == ("__debug__" : Str)) = false := by
  unfold glB at h
  simp only [Bool.and_eq_true, Bool.not_eq_true'] at h
  exact h.2
theorem b1_E (h : Gd G P C cs X N sc W) (b : B1) (hb : b1ok b = true) {a : Expr} {p pos : Pos} {f : Env → Sto → R D} (hg : glB sc (b1name b) = true) (pl : plainE a = true) (ha : PE X a (TEv G W false f)) :
    PE X (.Call (.Name (b1name b) p) [a] [] pos) (TEv G W true fun Γ st => (f Γ st).bind fun x st1 => ofO (b1V st1 b x) st1) := by
  obtain ⟨g1, g2⟩ := gl_of h hg
  have arg : PA X [a] (tCons (TEv G W false f) tNil) := pa_cons ha pa_nil (star_1 pl)
  cases b with
  | abs => exact (pe_callB abs_R g1 (h.mgn _ (by decide)) (by decide +kernel) arg (by decide) g2 (star_1 pl) rfl).weak fun σ H Q q => b1_V (op := fun st => b1V st .abs) q
  | len => exact (pe_callB (len_R h.hK) g1 (h.mgn _ (by decide)) (by decide +kernel) arg (by decide) g2 (star_1 pl) rfl).weak fun σ H Q q => b1_V (op := fun st => b1V st .len) q
  | int => exact (pe_callTy int_R g1 (h.mgn _ (by decide)) (by decide +kernel) arg (by decide) g2 (star_1 pl) rfl).weak fun σ H Q q => b1_V (op := fun st => b1V st .int) q
  | tuple => exact (pe_callTy (tuple_R h.hK) g1 (h.mgn _ (by decide)) (by decide +kernel) arg (by decide) g2 (star_1 pl) rfl).weak fun σ H Q q => b1_V (op := fun st => b1V st .tuple) q
  | list => exact (pe_callTy (list_R h.hK) g1 (h.mgn _ (by decide)) (by decide +kernel) arg (by decide) g2 (star_1 pl) rfl).weak fun σ H Q q => b1_V (op := fun st => b1V st .list) q
  | sum => exact (pe_callB (sum_R h.hK h.calm) g1 (h.mgn _ (by decide)) (by decide +kernel) arg (by decide) g2 (star_1 pl) rfl).weak fun σ H Q q => b1_V (op := fun st => b1V st .sum) q
  | str => exact (pe_callTy str_R g1 (h.mgn _ (by decide)) (by decide +kernel) arg (by decide) g2 (star_1 pl) rfl).weak fun σ H Q q => b1_V (op := fun st => b1V st .str) q
  | min => cases hb
  | max => cases hb
def b2name : B2 → Str
  | .min => "min"
  | .max => "max"
theorem b2_E (h : Gd G P C cs X N sc W) (b : B2) {a c : Expr} {p pos : Pos} {f f2 : Env → Sto → R D} (hg : glB sc (b2name b) = true) (pl : plainE a = true) (pl2 : plainE c = true) (ha : PE X a (TEv G W false f)) (hc : PE X c (TEv G W false f2)) :
    PE X (.Call (.Name (b2name b) p) [a, c] [] pos) (TEv G W true fun Γ st => (f Γ st).bind fun x st1 => (f2 Γ st1).bind fun y st2 => ofO (b2V b x y) st2) := by
  obtain ⟨g1, g2⟩ := gl_of h hg
  have arg : PA X [a, c] (tCons (TEv G W false f) (tCons (TEv G W false f2) tNil)) := pa_cons ha (pa_cons hc pa_nil (star_1 pl2)) (star_1 pl)
  have bk : (backTo pos (starEach [c] X.env)).any (·.1) = false := back_pl (by simp [pl2])
  cases b with
  | min => exact (pe_callB (min2_R h.calm) g1 (h.mgn _ (by decide)) (by decide +kernel) arg (by decide) g2 (star_1 pl) bk).weak fun σ H Q q => b2_V q
  | max => exact (pe_callB (max2_R h.calm) g1 (h.mgn _ (by decide)) (by decide +kernel) arg (by decide) g2 (star_1 pl) bk).weak fun σ H Q q => b2_V q

/-! ### and, or, not, if -/
theorem and_E (h : Gd G P C cs X N sc W) {a b : Expr} {rest : List Expr} {pos : Pos} {s : Bool} {f f2 : Env → Sto → R D} (ha : PE X a (TEv G W s f)) (hb : PE X (.BoolOp .And (b :: rest) pos) (TEv G W s f2)) :
    PE X (.BoolOp .And (a :: b :: rest) pos) (TEv G W s fun Γ st => (f Γ st).bind fun x st1 => (ofO (truth st1 x) st1).bind fun t st2 => if t then f2 Γ st2 else .ok x st2) := by
  refine (pe_andT ha hb).weak fun σ H Q ⟨Γ, st, g, S, E, w⟩ => ⟨Γ, st, g, S, E, w.bind.imp fun d st1 H1 g1 S1 x1 w1 v r => ?_⟩
  obtain ⟨k, hk, w2⟩ := w1.bind.ofO
  have w2 := w2.now S1
  refine ⟨k, tru_V h.hK S1 r.u hk, ?_⟩
  cases k with
  | true => exact ⟨Γ, st1, g1, S1, E.ext x1, w2⟩
  | false => exact w2.now S1 v r
theorem or_E (h : Gd G P C cs X N sc W) {a b : Expr} {rest : List Expr} {pos : Pos} {s : Bool} {f f2 : Env → Sto → R D} (ha : PE X a (TEv G W s f)) (hb : PE X (.BoolOp .Or (b :: rest) pos) (TEv G W s f2)) :
    PE X (.BoolOp .Or (a :: b :: rest) pos) (TEv G W s fun Γ st => (f Γ st).bind fun x st1 => (ofO (truth st1 x) st1).bind fun t st2 => if t then .ok x st2 else f2 Γ st2) := by
  refine (pe_orT ha hb).weak fun σ H Q ⟨Γ, st, g, S, E, w⟩ => ⟨Γ, st, g, S, E, w.bind.imp fun d st1 H1 g1 S1 x1 w1 v r => ?_⟩
  obtain ⟨k, hk, w2⟩ := w1.bind.ofO
  have w2 := w2.now S1
  refine ⟨k, tru_V h.hK S1 r.u hk, ?_⟩
  cases k with
  | false => exact ⟨Γ, st1, g1, S1, E.ext x1, w2⟩
  | true => exact w2.now S1 v r
theorem not_E (h : Gd G P C cs X N sc W) {a : Expr} {pos : Pos} {f : Env → Sto → R D} (ha : PE X a (TEv G W false f)) :
    PE X (.UnaryOp .Not a pos) (TEv G W true fun Γ st => (f Γ st).bind fun x st1 => ofO ((truth st1 x).map fun b => .bl (!b)) st1) := by
  refine (pe_notT ha).weak fun σ H Q ⟨Γ, st, g, S, E, w⟩ => ⟨Γ, st, g, S, E, w.bind.imp fun d st1 H1 g1 S1 x1 w1 v r => ?_⟩
  obtain ⟨z, hz, w2⟩ := w1.ofO
  cases hk : truth st1 d with
  | none => rw [hk] at hz; cases hz
  | some k =>
    rw [hk] at hz
    cases hz
    exact ⟨k, tru_V h.hK S1 r hk, w2.now S1 _ rfl⟩
theorem neg_E {a : Expr} {pos : Pos} {f : Env → Sto → R D} (ha : PE X a (TEv G W false f)) :
    PE X (.UnaryOp .USub a pos) (TEv G W true fun Γ st => (f Γ st).bind fun x st1 => match x with
      | .int i => .ok (.int (-i)) st1
      | _ => .bad) := by
  refine (pe_un un_neg ha).weak fun σ H Q ⟨Γ, st, g, S, E, w⟩ => ⟨Γ, st, g, S, E, w.bind.imp fun d st1 H1 g1 S1 x1 w1 v r => ?_⟩
  cases d with
  | int i => exact ⟨i, Ru.int r, w1.now S1 _ rfl⟩
  | _ => exact w1.elim
theorem ite_E (h : Gd G P C cs X N sc W) {c a b : Expr} {pos : Pos} {s : Bool} {fc f f2 : Env → Sto → R D} (hc : PT X c (TTv G W fun Γ st => tst (fc Γ st))) (ha : PE X a (TEv G W s f)) (hb : PE X b (TEv G W s f2)) :
    PE X (.IfExp c a b pos) (TEv G W s fun Γ st => (fc Γ st).bind fun x st1 => (ofO (truth st1 x) st1).bind fun t st2 => if t then f Γ st2 else f2 Γ st2) := by
  refine (pe_ifExp hc ha hb).weak fun σ H Q ⟨Γ, st, g, S, E, w⟩ => ?_
  have e : ∀ (k : Bool → Sto → R D), ((fc Γ st).bind fun x st1 => (ofO (truth st1 x) st1).bind k) = (tst (fc Γ st)).bind k := fun k => by
    unfold tst
    cases fc Γ st <;> rfl
  have w : Wp G (Eσ W σ) ((fc Γ st).bind fun x st1 => (ofO (truth st1 x) st1).bind fun t st2 => if t then f Γ st2 else f2 Γ st2) H g fun d _ H' g' => ∀ v, Rx s G g' H' d v → Q v H' := w
  rw [e] at w
  refine ⟨Γ, st, g, S, E, w.bind.imp fun k st1 H1 g1 S1 x1 w1 => ?_⟩
  cases k with
  | true => exact ⟨Γ, st1, g1, S1, E.ext x1, w1⟩
  | false => exact ⟨Γ, st1, g1, S1, E.ext x1, w1⟩
theorem not_T {a : Expr} {pos : Pos} {f : Env → Sto → R D} (ha : PT X a (TTv G W fun Γ st => tst (f Γ st))) :
    PT X (.UnaryOp .Not a pos) (TTv G W fun Γ st => tst ((f Γ st).bind fun x st1 => ofO ((truth st1 x).map fun b => .bl (!b)) st1)) := by
  refine (pt_not ha).weak fun σ H Q ⟨Γ, st, g, S, E, w⟩ => ⟨Γ, st, g, S, E, ?_⟩
  have e : tst ((f Γ st).bind fun x st1 => ofO ((truth st1 x).map fun b => .bl (!b)) st1) = (tst (f Γ st)).bind fun b st1 => .ok (!b) st1 := by
    unfold tst
    cases f Γ st with
    | ok d st1 =>
      show R.bind (ofO ((truth st1 d).map fun b => D.bl (!b)) st1) _ = R.bind (ofO (truth st1 d) st1) _
      cases truth st1 d <;> rfl
    | er c st1 => rfl
    | bad => rfl
  have w : Wp G (Eσ W σ) (tst ((f Γ st).bind fun x st1 => ofO ((truth st1 x).map fun b => .bl (!b)) st1)) H g fun b _ H' g' => Q b H' := w
  rw [e] at w
  exact w.bind.imp fun k st1 H1 g1 S1 x1 w1 => w1.now S1
theorem and_T {a b : Expr} {rest : List Expr} {pos : Pos} {f f2 : Env → Sto → R D} (ha : PT X a (TTv G W fun Γ st => tst (f Γ st))) (hb : PW X (.BoolOp .And (b :: rest) pos) (TTv G W fun Γ st => tst (f2 Γ st))) :
    PW X (.BoolOp .And (a :: b :: rest) pos) (TTv G W fun Γ st => tst ((f Γ st).bind fun x st1 => (ofO (truth st1 x) st1).bind fun t st2 => if t then f2 Γ st2 else .ok x st2)) := by
  refine ⟨fun wh pins s σ H Q I ⟨Γ, st, g, S, E, w⟩ => (pw_and ha hb).run wh pins s σ H Q I ⟨Γ, st, g, S, E, ?_⟩⟩
  have e : tst ((f Γ st).bind fun x st1 => (ofO (truth st1 x) st1).bind fun t st2 => if t then f2 Γ st2 else .ok x st2) = (tst (f Γ st)).bind fun t st2 => if t then tst (f2 Γ st2) else .ok false st2 := by
    unfold tst
    cases f Γ st with
    | ok d st1 =>
      show R.bind (R.bind (ofO (truth st1 d) st1) fun t st2 => if t = true then f2 Γ st2 else R.ok d st2) _ = R.bind (ofO (truth st1 d) st1) _
      cases ht : truth st1 d with
      | none => rfl
      | some k =>
        cases k with
        | true => rfl
        | false =>
          show ofO (truth st1 d) st1 = _
          rw [ht] <;> rfl
    | er c st1 => rfl
    | bad => rfl
  have w : Wp G (Eσ W σ) (tst ((f Γ st).bind fun x st1 => (ofO (truth st1 x) st1).bind fun t st2 => if t then f2 Γ st2 else .ok x st2)) H g fun b _ H' g' => Q b H' := w
  rw [e] at w
  refine w.bind.imp fun k st1 H1 g1 S1 x1 w1 => ?_
  cases k with
  | true => exact ⟨Γ, st1, g1, S1, E.ext x1, w1⟩
  | false => exact w1.now S1
theorem or_T {a b : Expr} {rest : List Expr} {pos : Pos} {f f2 : Env → Sto → R D} (ha : PT X a (TTv G W fun Γ st => tst (f Γ st))) (hb : PW X (.BoolOp .Or (b :: rest) pos) (TTv G W fun Γ st => tst (f2 Γ st))) :
    PW X (.BoolOp .Or (a :: b :: rest) pos) (TTv G W fun Γ st => tst ((f Γ st).bind fun x st1 => (ofO (truth st1 x) st1).bind fun t st2 => if t then .ok x st2 else f2 Γ st2)) := by
  refine ⟨fun wh pins s σ H Q I ⟨Γ, st, g, S, E, w⟩ => (pw_or ha hb).run wh pins s σ H Q I ⟨Γ, st, g, S, E, ?_⟩⟩
  have e : tst ((f Γ st).bind fun x st1 => (ofO (truth st1 x) st1).bind fun t st2 => if t then .ok x st2 else f2 Γ st2) = (tst (f Γ st)).bind fun t st2 => if t then .ok true st2 else tst (f2 Γ st2) := by
    unfold tst
    cases f Γ st with
    | ok d st1 =>
      show R.bind (R.bind (ofO (truth st1 d) st1) fun t st2 => if t = true then R.ok d st2 else f2 Γ st2) _ = R.bind (ofO (truth st1 d) st1) _
      cases ht : truth st1 d with
      | none => rfl
      | some k =>
        cases k with
        | false => rfl
        | true =>
          show ofO (truth st1 d) st1 = _
          rw [ht] <;> rfl
    | er c st1 => rfl
    | bad => rfl
  have w : Wp G (Eσ W σ) (tst ((f Γ st).bind fun x st1 => (ofO (truth st1 x) st1).bind fun t st2 => if t then .ok x st2 else f2 Γ st2)) H g fun b _ H' g' => Q b H' := w
  rw [e] at w
  refine w.bind.imp fun k st1 H1 g1 S1 x1 w1 => ?_
  cases k with
  | false => exact ⟨Γ, st1, g1, S1, E.ext x1, w1⟩
  | true => exact w1.now S1

/-! ### a < b < c, items, slices -/
abbrev cmp2R (o o' : Cop) (fa fb fc : Env → Sto → R D) : Env → Sto → R D := fun Γ st => (fa Γ st).bind fun x st1 => (fb Γ st1).bind fun y st2 => (ofO (cmpV st2 o x y) st2).bind fun t st3 =>
      if t then (fc Γ st3).bind fun z st4 => ofO ((cmpV st4 o' y z).map .bl) st4 else .ok (.bl false) st3
theorem cmp2_V {o o' : Cop} {fa fb fc : Env → Sto → R D} {σ : L2.St} {H : Hp} {Q : VK} (h : TEv G W true (cmp2R o o' fa fb fc) σ H Q) :
    tChain (rV2 G fun st d e => (cmpV st o d e).map .bl) (rV2 G fun st d e => (cmpV st o' d e).map .bl) (TEv G W false fa) (TEv G W false fb) (TEv G W false fc) σ H Q := by
  obtain ⟨Γ, st, g, S, E, w⟩ := h
  refine ⟨Γ, st, g, S, E, w.bind.imp fun d st1 H1 g1 S1 x1 w1 v r => ⟨Γ, st1, g1, S1, E.ext x1, w1.bind.imp fun e st2 H2 g2 S2 x2 w2 u r2 => ?_⟩⟩
  obtain ⟨t, ht, w3⟩ := w2.bind.ofO
  refine ⟨st2, g2, d, e, .bl t, S2, Ru.ext x2 r, r2, by show (cmpV st2 o d e).map D.bl = _; rw [ht]; rfl, fun z H3 g3 S3 x3 rz => ⟨t, rz, ?_⟩⟩
  have w4 := w3 H3 g3 S3 x3
  cases t with
  | true =>
    refine ⟨Γ, st2, g3, S3, (E.ext x1).ext (x2.trans x3), w4.bind.imp fun f st4 H4 g4 S4 x4 w5 q rq => ?_⟩
    obtain ⟨z2, hz, w6⟩ := w5.ofO
    exact ⟨st4, g4, e, f, z2, S4, Ru.ext (x3.trans x4) r2, rq, hz, fun v' H' g' S' x' rr => w6 H' g' S' x' v' rr⟩
  | false => exact w4.now S3 _ rfl
theorem cmp2_E (h : Gd G P C cs X N sc W) {a b c : Expr} {pos : Pos} {o o' : Cop} {fa fb fc : Env → Sto → R D} (hm : lastMarks [copOf o, copOf o'] [b, c] = false) (ha : PE X a (TEv G W false fa)) (hb : PE X b (TEv G W false fb)) (hc : PE X c (TEv G W false fc)) :
    PE X (.Compare a [copOf o, copOf o'] [b, c] pos) (TEv G W true (cmp2R o o' fa fb fc)) :=
  (pe_chain (cmp_R h.units h.hK o) (cmp_R h.units h.hK o') ha hb hc hm).weak fun σ H Q q => cmp2_V q
theorem map_bl {st : Sto} {o : Cop} {x y : D} {d : D} {st' : Sto} (h : ofO ((cmpV st o x y).map D.bl) st = .ok d st') : ∃ b, d = .bl b := by
  obtain ⟨e, _⟩ := ofO_ok h
  cases hc : cmpV st o x y with
  | none => rw [hc] at e; cases e
  | some b => rw [hc] at e; exact ⟨b, (Option.some.inj e).symm⟩
theorem cmp2_T (h : Gd G P C cs X N sc W) {a b c : Expr} {pos : Pos} {o o' : Cop} {fa fb fc : Env → Sto → R D} (hm : lastMarks [copOf o, copOf o'] [b, c] = false) (ha : PE X a (TEv G W false fa)) (hb : PE X b (TEv G W false fb)) (hc : PE X c (TEv G W false fc)) :
    PT X (.Compare a [copOf o, copOf o'] [b, c] pos) (TTv G W fun Γ st => tst (cmp2R o o' fa fb fc Γ st)) := by
  refine (pt_chain (cmp_R h.units h.hK o) (cmp_R h.units h.hK o') ha hb hc hm).weak fun σ H Q q => cmp2_V (tst_of q fun Γ st d st' e => ?_)
  obtain ⟨x, st1, _, e⟩ := R.bind_ok e
  obtain ⟨y, st2, _, e⟩ := R.bind_ok e
  obtain ⟨t, st3, _, e⟩ := R.bind_ok e
  cases t with
  | true =>
    obtain ⟨z, st4, _, e⟩ := R.bind_ok e
    exact map_bl e
  | false =>
    cases e
    exact ⟨_, rfl⟩
theorem ix_E (h : Gd G P C cs X N sc W) {a b : Expr} {pos : Pos} {fa fb : Env → Sto → R D} (hp : PlainIx b) (ha : PE X a (TEv G W false fa)) (hb : PE X b (TEv G W false fb)) :
    PE X (.Subscript a b pos) (TEv G W true fun Γ st => (fa Γ st).bind fun x st1 => (fb Γ st1).bind fun y st2 => ofO (ixV st2 x y) st2) :=
  (pe_ix (ix_R h.hK) ha hb hp).weak fun σ H Q q => two_V (op := ixV) q
theorem ix_pl {b : Expr} (h : (match b with | .Slice _ _ _ _ => false | _ => true) = true) : PlainIx b := by
  intro o i
  cases b <;> first
    | rfl
    | (cases h; done)
/-- a slice's end, by data -/
def TOv (G : GP) (W : WX) (f : Env → Sto → R (Option Int)) : TO := fun σ H Q => ∃ Γ st g, SR G H st g ∧ ER G Γ σ H g ∧ Wp G (Eσ W σ) (f Γ st) H g fun o _ H' g' => Q o H'
theorem part_none {f : Env → Sto → R D} : PO X none (TOv G W fun Γ st => partR true st (f Γ st)) := by
  have h : PO X none tNoPart := po_none
  exact ⟨fun pins s σ H Q I ⟨Γ, st, g, S, E, w⟩ => h.run pins s σ H Q I (Wp.now (a := none) (st := st) (E := Eσ W σ) (post := fun o _ H' g' => Q o H') S w)⟩
theorem part_some {e : Expr} {f : Env → Sto → R D} (he : PE X e (TEv G W false f)) : PO X (some e) (TOv G W fun Γ st => partR false st (f Γ st)) := by
  have h := po_some he
  refine ⟨fun pins s σ H Q I ⟨Γ, st, g, S, E, w⟩ => h.run pins s σ H Q I ⟨Γ, st, g, S, E, ?_⟩⟩
  have w : Wp G (Eσ W σ) ((f Γ st).bind fun x st1 => match x with
    | .int i => .ok (some i) st1
    | _ => .bad) H g fun o _ H' g' => Q o H' := w
  refine w.bind.imp fun d st1 H1 g1 S1 x1 w1 v r => ?_
  cases d with
  | int i => exact ⟨i, Ru.int r, w1.now S1⟩
  | _ => exact w1.elim
theorem sl_E (h : Gd G P C cs X N sc W) {a : Expr} {lo hi : Option Expr} {pos p2 : Pos} {fa : Env → Sto → R D} {fl fh : Env → Sto → R (Option Int)} (ha : PE X a (TEv G W false fa)) (hl : PO X lo (TOv G W fl)) (hh : PO X hi (TOv G W fh)) :
    PE X (.Subscript a (.Slice lo hi none p2) pos) (TEv G W true fun Γ st => (fa Γ st).bind fun x st1 => (fl Γ st1).bind fun l st2 => (fh Γ st2).bind fun u st3 => ofO (cutOf l u x) st3) := by
  refine (pe_slice (cut_R h.hK) ha hl hh).weak fun σ H Q ⟨Γ, st, g, S, E, w⟩ => ?_
  refine ⟨Γ, st, g, S, E, w.bind.imp fun d st1 H1 g1 S1 x1 w1 v r => ⟨Γ, st1, g1, S1, E.ext x1, w1.bind.imp fun l st2 H2 g2 S2 x2 w2 => ⟨Γ, st2, g2, S2, (E.ext x1).ext x2, w2.bind.imp fun u st3 H3 g3 S3 x3 w3 => ?_⟩⟩⟩
  obtain ⟨z, hz, w4⟩ := w3.ofO
  exact ⟨st3, g3, d, z, S3, Ru.ext (x2.trans x3) r, hz, fun v' H' g' S' x' rr => w4 H' g' S' x' v' rr⟩
end
end Eng
/-! Eng.H2: a lambda handed to a def that tells what it gives. -/
namespace Eng
open PySem PySem.Spec PyProof.Rows L2 LamX

/-- the code object at c' stands in the table at Pa; or the table has grown by it -/
def TbRel (Pa c' : Addr) (q : Str) (H H1 : Hp) : Prop :=
  (H1 = H ∧ ∃ ps pos, H Pa = some (.tbl ps) ∧ codeAmong pos ps.toList = some (.ref c')) ∨
  ∃ ps ps' : Array Value, H Pa = some (.tbl ps) ∧ H c' = none ∧ H1 = upd (upd H Pa (.tbl ps')) c' (CodeO c' q) ∧ TriplesOk ps'.toList ∧ ∀ (pos : Pos) (cv : Value), codeAmong pos ps'.toList = some cv → codeAmong pos ps.toList = some cv ∨ cv = .ref c'
section
variable {X : Cx} {pins : List (Addr × Obj)} {σ : L2.St} {H : Hp} {s : Shared}
/-- the lambda is made: its code object is new, or stands in the table -/
theorem lam_mk {c Pa : Addr} {params : Arguments} {body : Expr} {scope : Scope} {pos : Pos} {E : Value → Shared → Prop} {Q : Value → Shared → Prop} (I : L2.Inv X pins σ H s) (TB : LamX.TabB X.base X.mg c Pa) (hcode : X.env.code = .ref c)
    (hT : TabS H Pa (X.env.qual ++ "<lambda>")) (hdef : defaultsOf params X.env = ([], [])) (hfree : ∀ y ∈ scope.names, y.2 = .free → ∃ c, X.env.cells.lookup y.1 = some c)
    (h : ∀ (f c' : Addr) (pm ctv : Value) (H1 : Hp) (s' : Shared), L2.Inv X pins σ H1 s' → TbRel Pa c' (X.env.qual ++ "<lambda>") H H1 →
      s'.heap.get? f = some (PySem.W.kla_obj "<lambda>" (X.env.qual ++ "<lambda>") params body scope (cloFrom X.env.cells scope.names []) pm c' ctv) → H1 f = none → f ∉ frs X.stack → Q (.ref f) s') :
    wpAny (model X.prog X.w) X.A (eval (.Lambda params body scope pos) X.env) Q E s := by
  obtain ⟨ps, tH, tO, tA⟩ := id hT
  refine PySem.W.kla_eval hdef ?_
  have bk := TB.bm.keeps I.bk
  have heP : s.heap.get? Pa = some { cls := .none, data := .fields ps } := I.hok Pa _ tH
  have outside : ∀ f, s.heap.objs.size ≤ f → f ∉ frs X.stack := fun f hf z => by
    rcases List.mem_cons.mp (I.stkSub _ z) with e | e
    · have hlt := I.lt
      rw [← e] at hlt
      exact absurd (Nat.lt_of_lt_of_le hlt hf) (Nat.lt_irrefl _)
    · exact absurd e (I.nofs hf)
  cases hc : codeAmong pos ps.toList with
  | some cv =>
    obtain ⟨c', rfl, hco⟩ := tA pos cv hc
    refine PySem.W.kla_makeFunctionHit (mg := X.mg) (c := c) (P := Pa) (ps := ps) (closure_ok hfree) I.ok.glob (I.mod.glob.keeps I.bk) hcode (TB.code.keeps I.bk) heP tO hc bk fun ctv h' tk hx hsz => ?_
    exact h h'.objs.size c' _ ctv H _ (I.kept fun b o e => Heap.get?_push_of_some _ (hx b o e)) (.inl ⟨rfl, ps, pos, tH, hc⟩) (Heap.get?_push_size _ rfl) (I.hok.fresh hsz) (outside _ hsz)
  | none =>
    refine PySem.W.kla_makeFunction (mg := X.mg) (c := c) (P := Pa) (ps := ps) (closure_ok hfree) I.ok.glob (I.mod.glob.keeps I.bk) hcode (TB.code.keeps I.bk) heP tO hc TB.gP bk fun c' ctv h' tk hx hge hlt hrec htb => ?_
    obtain ⟨c2, oc, vs, t, e2, hoc, hd, hv⟩ := hrec
    cases e2
    have hsz : s.heap.objs.size ≤ h'.objs.size := Nat.le_trans hge (Nat.le_of_lt hlt)
    have fresh : H c' = none := I.hok.fresh hge
    have nPc : Pa ≠ c' := ne_of_none tH fresh
    have J := inv_table (t' := tk) (more := #[rawInt pos.line, rawInt pos.col, .ref c']) (h' := h'.push (PySem.W.kla_obj "<lambda>" (X.env.qual ++ "<lambda>") params body scope (cloFrom X.env.cells scope.names []) ((X.mg "__name__").getD .none) c' ctv)) I tH
      (fun b o hb e => Heap.get?_push_of_some _ (hx b o hb e)) (Heap.get?_push_of_some _ htb) hge ⟨oc, vs, t, Heap.get?_push_of_some _ hoc, hd, hv⟩
    have eL : (ps ++ #[rawInt pos.line, rawInt pos.col, .ref c']).toList = ps.toList ++ [rawInt pos.line, rawInt pos.col, .ref c'] := by simp
    have rest : ∀ b, b ≠ Pa → b ≠ c' → upd (upd H Pa (.tbl (ps ++ #[rawInt pos.line, rawInt pos.col, .ref c']))) c' (CodeO c' (X.env.qual ++ "<lambda>")) b = H b := fun b h1 h2 => by rw [upd_ne h2, upd_ne h1]
    refine h h'.objs.size c' _ ctv _ _ J (.inr ⟨ps, ps ++ #[rawInt pos.line, rawInt pos.col, .ref c'], tH, fresh, rfl, by rw [eL]; exact PySem.TriplesOk_snoc _ _ _ _ tO, fun p' cv hcv => ?_⟩) (Heap.get?_push_size _ rfl) ?_ (outside _ hsz)
    · rw [eL] at hcv
      exact among_app _ tO hcv
    · have n1 : h'.objs.size ≠ c' := Nat.ne_of_gt hlt
      have n2 : h'.objs.size ≠ Pa := Nat.ne_of_gt (Nat.lt_of_lt_of_le (Heap.lt_size heP) hsz)
      rw [rest _ n2 n1]
      exact I.hok.fresh hsz
end
section
variable {G : GP} {P : Prg} {C : Nm} {cs : List CallT} {X : Cx} {N : List Str} {sc : Scope} {W : WX}
theorem TabF.S {H F : Hp} {Pa : Addr} {q : Str} (t : TabF H F Pa q) (h : HLe F H) : TabS H Pa q := by
  obtain ⟨ps, h1, h2, h3⟩ := t
  refine ⟨ps, h1, h2, fun pos cv hc => ?_⟩
  obtain ⟨c, e1, e2⟩ := h3 pos cv hc
  exact ⟨c, e1, h _ _ e2⟩
theorem SR.tbl {H H1 : Hp} {st : Sto} {g : Gh} {Pa c' : Addr} {q : Str} (S : SR G H st g) (r : TbRel Pa c' q H H1) (hP : (Pa, some q) ∈ G.T) (hu : ∀ p ∈ G.T, p.1 = Pa → p.2 = some q) : ∃ g', SR G H1 st g' ∧ Ext H g H1 g' ∧ g'.F c' = some (CodeO c' q) := by
  have tF : TabF H g.F Pa q := S.tabs _ hP
  rcases r with ⟨rfl, ps, pos, hp, hc⟩ | ⟨ps, ps', hp, hc, rfl, t1, t2⟩
  · obtain ⟨qs, h1, _, h3⟩ := tF
    rw [hp] at h1
    cases h1
    obtain ⟨c, e1, e2⟩ := h3 pos _ hc
    cases e1
    exact ⟨g, S, Ext.refl _ _, e2⟩
  · have nPc : Pa ≠ c' := ne_of_none hp hc
    have kp : ∀ b o, H b = some o → b ≠ Pa → upd (upd H Pa (.tbl ps')) c' (CodeO c' q) b = some o := fun b o e h => by
      rw [upd_ne (ne_of_none e hc), upd_ne h]
      exact e
    have nt : ∀ b o, H b = some o → isTbl o = false → b ≠ Pa := fun b o e t z => by
      rw [z, hp] at e
      cases e
      cases t
    obtain ⟨gF, gM⟩ : g.F c' = none ∧ g.Mu c' = none := by
      constructor
      · cases e : g.F c' with
        | none => rfl
        | some u => rw [(S.fh c' u e).1] at hc; cases hc
      · cases e : g.Mu c' with
        | none => rfl
        | some t => obtain ⟨xs, e⟩ := S.live c' t e; rw [e] at hc; cases hc
    have fle : HLe g.F (upd g.F c' (CodeO c' q)) := fun a u e => by rw [upd_ne (ne_of_none e gF)]; exact e
    refine ⟨{ g with F := upd g.F c' (CodeO c' q) }, ⟨fun a u e => ?_, fun a t e => ?_, S.alen, fun k ob e => ?_, fun p hp' => ?_⟩, ⟨fle, fun a u e => ?_, ALe.refl _, fun _ _ h => h, fun _ _ h => .inl h, fun b o e t _ => kp b o e (nt b o e t), fun b e => ?_⟩, upd_same⟩
    · by_cases h : a = c'
      · subst h
        have e' : upd g.F a (CodeO a q) a = some u := e
        rw [upd_same] at e'
        cases e'
        exact ⟨upd_same, gM, rfl⟩
      · have e' : upd g.F c' (CodeO c' q) a = some u := e
        rw [upd_ne h] at e'
        obtain ⟨h1, h2, h3⟩ := S.fh a u e'
        exact ⟨kp a u h1 (nt a u h1 h3), h2, h3⟩
    · obtain ⟨xs, h1⟩ := S.live a t e
      exact ⟨xs, kp a _ h1 (nt a _ h1 rfl)⟩
    · obtain ⟨a, h1, h2, h3⟩ := S.objs k ob e
      refine ⟨a, h1, h2, ?_⟩
      cases ob with
      | lst l =>
        obtain ⟨vs, h4, h5⟩ := h3
        exact ⟨vs, kp a _ h4 (nt a _ h4 rfl), h5.mono fle (ALe.refl _)⟩
      | dic _ _ => exact h3
      | ins _ _ => exact h3
    · by_cases hb : p.1 = Pa
      · have e2 := hu p hp' hb
        show (match p.2 with | some q' => TabF (upd (upd H Pa (.tbl ps')) c' (CodeO c' q)) (upd g.F c' (CodeO c' q)) p.1 q' | none => GxR.TabG (upd (upd H Pa (.tbl ps')) c' (CodeO c' q)) p.1)
        rw [e2, hb]
        refine ⟨ps', by rw [upd_ne nPc, upd_same], t1, fun pos cv hcv => ?_⟩
        rcases t2 pos cv hcv with z | z
        · obtain ⟨qs, h1, _, h3⟩ := tF
          rw [hp] at h1
          cases h1
          obtain ⟨c, e1, e2⟩ := h3 pos cv z
          exact ⟨c, e1, fle _ _ e2⟩
        · exact ⟨c', z, upd_same⟩
      · have := S.tabs p hp'
        revert this
        cases p.2 with
        | some nm =>
          rintro ⟨qs, h1, h2, h3⟩
          refine ⟨qs, kp _ _ h1 hb, h2, fun pos cv hc => ?_⟩
          obtain ⟨c0, e1, e2⟩ := h3 pos cv hc
          exact ⟨c0, e1, fle _ _ e2⟩
        | none =>
          rintro ⟨qs, h1, h2⟩
          exact ⟨qs, kp _ _ h1 hb, h2⟩
    · by_cases h : a = c'
      · subst h
        exact .inr hc
      · have e' : upd g.F c' (CodeO c' q) a = some u := e
        rw [upd_ne h] at e'
        exact .inl e'
    · cases hb : H b with
      | none => rfl
      | some u =>
        by_cases z : b = Pa
        · rw [z, upd_ne nPc, upd_same] at e
          cases e
        · rw [kp b u hb z] at e
          cases e
/-- a lambda without parameters -/
def noArgs (a : Arguments) : Bool := match a with
  | ⟨[], [], none, [], [], none, []⟩ => true
  | _ => false
theorem noArgs_def {a : Arguments} (h : noArgs a = true) (env : PySem.Env) : defaultsOf a env = ([], []) := by
  unfold noArgs at h
  split at h
  · rfl
  · cases h
theorem noArgs_bind {a : Arguments} (h : noArgs a = true) {body : Expr} {scope : Scope} (q : Str) (cl : List (Str × Addr)) (pm cv ctv : Value) : bindArgs (PySem.W.kla_fn "<lambda>" q a body scope cl pm cv ctv) ⟨[], []⟩ = pure [] := by
  unfold noArgs at h
  split at h
  · rfl
  · cases h
theorem Gd.lam (h : Gd G P C cs X N sc W) {c1 c2 : CallT} {r : List CallT} (hcs : cs = c1 :: c2 :: r) {A : Around} {outer : List PySem.Env} {s : Shared} {H : Hp} {E : XK} {scope : Scope} {f c' : Addr} (hr : Room r.length (A.deeper (lamEnv X scope s.heap.objs.size f c'))) :
    Gd G P C.noTb r (lamCx X A outer s H E scope f c') N scope (fun cls d _ H' => E cls d H') := by
  refine ⟨h.hK, rfl, takes_of rfl rfl rfl rfl, hr, h.hN, h.nd, rfl, h.mgn, h.mgc, h.mgt, (fun b e => by cases e), h.c1, (fun _ _ _ _ e => by cases e), (fun j c rest e => h.lmE (j + 2) c rest (by rw [hcs]; exact e)), fun j c rest e => h.mgf (j + 2) c rest (by rw [hcs]; exact e)⟩
theorem told_V {k c : Nat} {ret : Str} {K : PySem.W.Frag} {CS : Addr} (ht : P.tolds k = some (c, ret)) (hsub : ∀ c', P.sub c' c = true → PySem.W.exmOne K (.ref (G.ca c')) (.ref CS) = some true) {σ : L2.St} {Γ : Env} {st : Sto} {g : Gh} {H : Hp} {Q : VK} {f : Env → Sto → R D} {E : Value → Hp → Prop}
    (w : Wp G E (toldR P k (f Γ st)) H g fun d _ H' g' => ∀ v, Rp G g'.F g'.ad d v → Q v H') :
    Wp G (fun c H' => ∃ b, PySem.W.exmOne K c (.ref CS) = some b ∧ (b = true → Q (.str ret) H') ∧ (b = false → False)) (f Γ st) H g fun d _ H' g' => ∀ v, Rp G g'.F g'.ad d v → Q v H' := by
  unfold toldR at w
  rw [ht] at w
  cases hf : f Γ st with
  | ok d st' => rw [hf] at w; exact w
  | er c' st' =>
    rw [hf] at w
    simp only [] at w
    by_cases hs : P.sub c' c = true
    · rw [if_pos hs] at w
      exact fun H' g' S' x' => ⟨true, hsub c' hs, fun _ => w H' g' S' x' _ rfl, fun z => by cases z⟩
    · rw [if_neg hs] at w
      exact w.elim
  | bad => rw [hf] at w; exact w
theorem told_E (h : Gd G P C cs X N sc W) {c1 c2 : CallT} {r : List CallT} (hcs : cs = c1 :: c2 :: r) (htb : C.tb = some true) {k : Nat} {x : Str} {p lpos pos : Pos} {params : Arguments} {body : Expr} {scope : Scope} {f : Env → Sto → R D} (hk : C.td[k]? = some x) (hgl : glB sc x = true)
    (hna : noArgs params = true) (hL : lamSB sc scope = true) (hbody : ∀ X' W', Gd G P C.noTb r X' N scope W' → PE X' body (TEv G W' true f)) :
    PE X (.Call (.Name x p) [.Lambda params body scope lpos] [] pos) (TEv G W true fun Γ st => toldR P k (f Γ st)) := by
  obtain ⟨g1, g2⟩ := gl_of h hgl
  obtain ⟨c, ret, a, e, g, CS, pg, bg, sg, dV, kV, doc, pm, cdv, ct, oc, an, od, osl, Ng, j, p1, p2, p3, p4, p5, p6, p7, p8, t1, t2, t3, t4, t5, t6, t7, t8, t9, t10, t11, t12, t13, t14, t15, t16⟩ := h.mgt k x hk
  obtain ⟨cc, Pa, TB, hcode, hmem, hun⟩ := h.tbl true htb
  simp only [if_true] at hmem hun
  have L : LamS X.env.scope scope := by
    rw [h.hsc]
    exact lamS_by hL
  have hr : Room (r.length + 2) X.A := by
    have := h.room
    rw [hcs] at this
    exact this
  refine ⟨fun pins s σ H Q I ⟨Γ, st, gg, S, Er, w⟩ => ?_⟩
  have tabF : TabF H gg.F Pa (X.env.qual ++ "<lambda>") := S.tabs _ hmem
  have tabS := tabF.S S.hle
  refine wpAny_Call_Name_kw (ld_glob I g1 t3 ?_ g2)
  refine PySem.W.callWith_K (h₀ := X.base) I.ok.mod.kin t4 ?_ (by rfl) (by rfl)
  show wpAny _ _ (spliced ((false, eval (.Lambda params body scope lpos) X.env) :: backTo pos (starEach [] X.env))) _ _ s
  refine Calls.spliced_cons (lam_mk I TB hcode tabS (noArgs_def hna _) (L.has I.ok) fun fL c' pm' ctv H1 s' I1 rel hf hfn hfr => ?_)
  refine Calls.spliced_nil ⟨I1.kIn, ?_⟩
  obtain ⟨g1', S1, x1, fc⟩ := S.tbl rel hmem hun
  have w1 := told_V t1 t2 (σ := σ) (Wp.ext x1 w)
  let tl : XK → Hp → VK → Prop := fun E H' Q' => TEv G (fun cls d _ H' => E cls d H') true f σ H' Q'
  have rc : codeAny (model X.prog X.w) X.A (.call (.ref g) ⟨[.ref fL], []⟩) (CR C8.CX0 X.stack X.prog X.w H1 s' Q C8.E0) s' := by
    refine run_ofS (N := Ng) (ps := [a]) (us := [.ref fL]) (vs := [.ref fL]) t5 t6 t8 hr I1.env0 (t7 s' [.ref fL] I1.kIn rfl) (.cons rfl .nil) rfl fun hr' => ?_
    subst t11
    obtain ⟨t', ht', hq'⟩ := told_gives (X := X) (q := X.env.qual ++ "<lambda>") (cdg := cdv) (g := g) t12 t13 t14 (fun f => by
      unfold L2.start
      rfl) fL c' s' H1 Q tl (fun W' pn xe E p1 p2 tk hW => pe_act (i := 0) I1 L hf hfn hfr (noArgs_bind hna _ _ _ _ _) tk hW hr' (fun A outer s H hr2 => hbody _ _ (h.lam hcs hr2)) t9 t10 t15 t16) (S1.hle _ _ fc) ⟨Γ, st, g1', S1, Er.ext x1, w1⟩
    exact ⟨t', ht'.nox, hq'⟩
  refine wpAny_call (codeAny_mono rc fun r s2 hq => ?_)
  cases r with
  | error e => exact (show False from hq).elim
  | ok fl =>
    cases fl with
    | ret u => exact I1.after hq
    | next => exact False.elim hq
    | brk => exact False.elim hq
    | cont => exact False.elim hq
end
end Eng
/-! Eng.H3: lambdas that captured nothing, as values. -/
namespace Eng
open PySem PySem.Spec PyProof.Rows L2 LamX

/-- no name but globals -/
def closedB (s : Scope) : Bool := lamSB s s && s.names.all fun y => !decide (y.2 = .free)
theorem clo_nil {cells : List (Str × Addr)} : ∀ {names : List (Str × NameKind)}, (∀ y ∈ names, y.2 ≠ .free) → cloFrom cells names [] = []
  | [], _ => rfl
  | (n, k) :: r, h => by
    unfold cloFrom
    have hk : ¬ (k == NameKind.free) = true := by
      have := h (n, k) List.mem_cons_self
      simpa using this
    rw [if_neg hk]
    exact clo_nil fun y hy => h y (List.mem_cons_of_mem _ hy)
theorem closed_no {s : Scope} (h : closedB s = true) : ∀ y ∈ s.names, y.2 ≠ .free := by
  unfold closedB at h
  rw [Bool.and_eq_true] at h
  intro y hy e
  have := List.all_eq_true.mp h.2 y hy
  rw [e] at this
  cases this
theorem closed_S {sc s : Scope} (h : closedB s = true) : LamS sc s := by
  have n := closed_no h
  unfold closedB at h
  rw [Bool.and_eq_true] at h
  have L := lamS_by h.1
  exact ⟨L.kind, L.co, L.gen, L.own, fun y hy e => absurd e (n y hy)⟩
section
variable {X : Cx} {pins : List (Addr × Obj)} {σ : L2.St} {H : Hp} {s : Shared}
theorem lamO_ok {Pr : Program} {w : World} {H' : Hp} {h : Heap} {q : Str} {a : Arguments} {b : Expr} {sc : Scope} {f c : Addr} {pm ctv : Value} (e : h.get? f = some (PySem.W.kla_obj "<lambda>" (q ++ "<lambda>") a b sc [] pm c ctv)) : ObjOk Pr w H' h f (LamO q a b sc f c) :=
  ⟨⟨pm, ctv, e⟩, ⟨_, e⟩, fun h1 h2 ⟨pm, ctv, z⟩ st => ⟨pm, ctv, st _ z⟩⟩
/-- a closed lambda is made, and known from now on -/
theorem lam_mkT {c Pa : Addr} {params : Arguments} {body : Expr} {scope : Scope} {pos : Pos} {E : Value → Shared → Prop} {Q : Value → Shared → Prop} (I : L2.Inv X pins σ H s) (TB : LamX.TabB X.base X.mg c Pa) (hcode : X.env.code = .ref c)
    (hT : TabS H Pa (X.env.qual ++ "<lambda>")) (hdef : defaultsOf params X.env = ([], [])) (hcl : closedB scope = true)
    (h : ∀ (f c' : Addr) (H1 : Hp) (s' : Shared), L2.Inv X pins σ (upd H1 f (LamO X.env.qual params body scope f c')) s' → TbRel Pa c' (X.env.qual ++ "<lambda>") H H1 → H1 f = none → Q (.ref f) s') :
    wpAny (model X.prog X.w) X.A (eval (.Lambda params body scope pos) X.env) Q E s := by
  have nofr := closed_no hcl
  obtain ⟨ps, tH, tO, tA⟩ := id hT
  refine PySem.W.kla_eval hdef ?_
  have bk := TB.bm.keeps I.bk
  have heP : s.heap.get? Pa = some { cls := .none, data := .fields ps } := I.hok Pa _ tH
  have hfree : ∀ y ∈ scope.names, y.2 = .free → ∃ c, X.env.cells.lookup y.1 = some c := fun y hy e => absurd e (nofr y hy)
  have ec : cloFrom X.env.cells scope.names [] = [] := clo_nil nofr
  cases hc : codeAmong pos ps.toList with
  | some cv =>
    obtain ⟨c', rfl, hco⟩ := tA pos cv hc
    refine PySem.W.kla_makeFunctionHit (mg := X.mg) (c := c) (P := Pa) (ps := ps) (closure_ok hfree) I.ok.glob (I.mod.glob.keeps I.bk) hcode (TB.code.keeps I.bk) heP tO hc bk fun ctv h' tk hx hsz => ?_
    rw [ec]
    refine h h'.objs.size c' H _ (I.laid (t' := tk) (fun b o e => Heap.get?_push_of_some _ (hx b o e)) hsz (lamO_ok (Heap.get?_push_size _ rfl))) (.inl ⟨rfl, ps, pos, tH, hc⟩) (I.hok.fresh hsz)
  | none =>
    refine PySem.W.kla_makeFunction (mg := X.mg) (c := c) (P := Pa) (ps := ps) (closure_ok hfree) I.ok.glob (I.mod.glob.keeps I.bk) hcode (TB.code.keeps I.bk) heP tO hc TB.gP bk fun c' ctv h' tk hx hge hlt hrec htb => ?_
    obtain ⟨c2, oc, vs, t, e2, hoc, hd, hv⟩ := hrec
    cases e2
    rw [ec]
    have hsz : s.heap.objs.size ≤ h'.objs.size := Nat.le_trans hge (Nat.le_of_lt hlt)
    have fresh : H c' = none := I.hok.fresh hge
    have nPc : Pa ≠ c' := ne_of_none tH fresh
    have J := inv_table (t' := tk) (more := #[rawInt pos.line, rawInt pos.col, .ref c']) (h' := h') I tH hx htb hge ⟨oc, vs, t, hoc, hd, hv⟩
    have eL : (ps ++ #[rawInt pos.line, rawInt pos.col, .ref c']).toList = ps.toList ++ [rawInt pos.line, rawInt pos.col, .ref c'] := by simp
    refine h h'.objs.size c' _ _ (J.laid (t' := tk) (fun b o e => Heap.get?_push_of_some _ e) (Nat.le_refl _) (lamO_ok (Heap.get?_push_size _ rfl))) (.inr ⟨ps, ps ++ #[rawInt pos.line, rawInt pos.col, .ref c'], tH, fresh, rfl, by rw [eL]; exact PySem.TriplesOk_snoc _ _ _ _ tO, fun p' cv hcv => by rw [eL] at hcv; exact among_app _ tO hcv⟩) (J.hok.fresh (Nat.le_refl _))
end
section
variable {G : GP} {P : Prg} {C : Nm} {cs : List CallT} {X : Cx} {N : List Str} {sc : Scope} {W : WX}
/-- known things need not be new: the relation that a lambda's making keeps -/
theorem lamv_E (h : Gd G P C cs X N sc W) (htb : C.tb = some true) {n : Nat} {pos : Pos} {params : Arguments} {body : Expr} {scope : Scope} (hm : C.lm n params body scope = true) (hna : noArgs params = true) (hcl : closedB scope = true) :
    PE X (.Lambda params body scope pos) (TEv G W true fun _ st => .ok (.lam n) st) := by
  obtain ⟨cc, Pa, TB, hcode, hmem, hun⟩ := h.tbl true htb
  simp only [if_true] at hmem hun
  refine ⟨fun pins s σ H Q I ⟨Γ, st, g, S, Er, w⟩ => ?_⟩
  have tabF : TabF H g.F Pa (X.env.qual ++ "<lambda>") := S.tabs _ hmem
  refine lam_mkT I TB hcode (tabF.S S.hle) (noArgs_def hna _) hcl fun f c' H1 s' I1 rel hf => ?_
  obtain ⟨g1, S1, x1, fc⟩ := S.tbl rel hmem hun
  have fz := S1.freeze (o := LamO X.env.qual params body scope f c') hf rfl
  refine ⟨.ref f, _, I1, rfl, w _ _ fz.1 (x1.trans fz.2) _ ?_⟩
  exact ⟨f, c', X.env.qual, params, body, scope, rfl, upd_same, fz.2.f _ _ fc, h.lmG _ _ _ _ hm⟩
end
/-- the context in which a closed lambda of the name q is made -/
abbrev cloX (X : Cx) (q : Str) : Cx := { X with N := [], env := { X.env with qual := q, cells := [] } }
section
variable {X : Cx} {q : Str} {scope : Scope} {f c' : Addr}
theorem cloEnv (hcl : closedB scope = true) (L : Addr) : lamEnv (cloX X q) scope L f c' = PySem.W.envX (q ++ "<lambda>") scope L f (.ref c') [] := by
  show PySem.W.envX (q ++ "<lambda>") scope L f (.ref c') (cloFrom [] scope.names []) = _
  rw [clo_nil (closed_no hcl)]
theorem lam_startT {A : Around} {outer : List PySem.Env} {E : XK} {s1 : Shared} {HZ : Hp} {h₁ : Heap} {tk : Nat} (hcl : closedB scope = true) (e0 : Env0 X.prog X.w X.K X.mg X.base A outer s1 HZ) (hd : A.handled = none)
    (hns : h₁.Ns s1.heap.objs.size fun y => ([] : List (Str × Value)).reverse.lookup y) (kp : ∀ b o, s1.heap.get? b = some o → h₁.get? b = some o) :
    L2.Inv (lamCx (cloX X q) A outer s1 HZ E scope f c') [] [] HZ { s1 with heap := h₁, toks := tk } := by
  have L : LamS scope scope := closed_S hcl
  have nocell : ∀ {y c}, (cloFrom [] scope.names []).lookup y = some c → False := fun {y c} e => by
    rw [clo_nil (closed_no hcl)] at e
    cases e
  have no : ∀ {y k}, scope.names.lookup y = some k → k = .local ∨ k = .cell ∨ k = .free → False := fun {y k} e z => by
    have hm := PySem.mem_of_lookup e
    rcases z with z | z | z
    · subst z
      exact (L.own _ hm).1 rfl
    · subst z
      exact (L.own _ hm).2 rfl
    · subst z
      exact closed_no hcl _ hm rfl
  have noA : ∀ b : Addr, b ∉ (lamCx (cloX X q) A outer s1 HZ E scope f c').ex := fun b z => absurd (show b ∈ ([] : List Addr) from z) (by simp)
  refine ⟨⟨e0.mod, L.kind, rfl, rfl, Nat.le_refl _, fun y z c e1 e2 => (nocell e1).elim, fun y hy => ?_, fun y c z _ => ?_, fun _ => hd, Around.frames_deeper e0.frames, .inr ⟨rfl, rfl⟩, fun b z => absurd z (noA b), e0.bs, e0.bsz, fun b _ _ => noA b,
      fun b z => absurd z (noA b), e0.funs, e0.frf⟩,
    rfl, e0.bare, Un.kept kp, ⟨_, hns, fun i y v e1 e2 e3 => ?_⟩, fun y c e => ?_, e0.hok.fresh (Nat.le_refl _), fun y c e => ?_, fun q hq => absurd (show q ∈ ([] : List (Addr × Obj)) ++ [] from hq) (by simp), e0.hok.kept kp, rfl⟩
  · have hy : scope.names.lookup y = some .cell ∨ scope.names.lookup y = some .free := hy
    rcases hy with hy | hy
    · exact (no hy (.inr (.inl rfl))).elim
    · exact (no hy (.inr (.inr rfl))).elim
  · have z : false = true := z
    cases z
  · have e1 : ([] : List Str)[i]? = some y := e1
    simp at e1
  · exact (nocell e).elim
  · exact (nocell e).elim
theorem pe_actT {CXg : CXT} {Eg : XK} {Ng : List Str} {qg : Str} {sg : Scope} {g : Addr} {cdg : Value} {params : Arguments} {body : Expr} {k i : Nat} {a : Str} {pn : List (Addr × Obj)} {xe : Value → Shared → Prop} {W : WX} {E : XK} {tb : TE} {p1 p2 : Pos} {s : Shared} {H : Hp}
    (hcl : closedB scope = true) (hbind : ∀ pm ctv, bindArgs (PySem.W.kla_fn "<lambda>" (q ++ "<lambda>") params body scope [] pm (.ref c') ctv) ⟨[], []⟩ = pure [])
    (tk : Takes ((cxOf CXg X.prog X.w X.K X.mg X.base Ng qg sg g cdg X.A X.stack s H Eg).tr pn xe) W) (hW : ∀ cls d σ' H', E cls d H' → W cls d σ' H') (hr : Room (k + 1) (X.A.deeper (envOfC qg sg s.heap.objs.size g cdg)))
    (hbody : ∀ (A : Around) (outer : List PySem.Env) (s : Shared) (H : Hp), Room k (A.deeper (lamEnv (cloX X q) scope s.heap.objs.size f c')) → PE (lamCx (cloX X q) A outer s H E scope f c') body tb)
    (hN : Ng[i]? = some a) (hv : Vis sg a) (hd : (a == ("__debug__" : Str)) = false) (hcd : (a == ("__classdict__" : Str)) = false) :
    PE ((cxOf CXg X.prog X.w X.K X.mg X.base Ng qg sg g cdg X.A X.stack s H Eg).tr pn xe) (.Call (.Name a p1) [] [] p2)
      (fun σZ HZ Q => σZ[i]? = some (some (.ref f)) ∧ HZ c' = some (CodeO c' (q ++ "<lambda>")) ∧ HZ f = some (LamO q params body scope f c') ∧ tb [] HZ Q) := by
  have L : LamS scope scope := closed_S hcl
  refine ⟨fun pinsZ sZ σZ HZ Q IZ ⟨hs, hc, hl, ht⟩ => ?_⟩
  refine wpAny_Call_Name_kw (thn ((pe_var (pos := p1) (i := i) hN hv hd hcd).run pinsZ sZ σZ HZ (fun v H1 => v = .ref f ∧ H1 = HZ) IZ ⟨.ref f, hs, rfl, rfl⟩) fun u s1 ⟨v, H1, I1, r1, q1⟩ => ?_)
  obtain ⟨ev, eH⟩ := q1
  subst ev
  rw [eH] at I1
  obtain rfl : u = Value.ref f := r1
  obtain ⟨⟨pm, ctv, of1⟩, _, _⟩ := I1.hok f _ hl
  refine PySem.W.callWith_F0 ⟨_, _, _, _, of1⟩ ?_
  obtain ⟨⟨oc, vs, t, hoc, hdc, hvc⟩, _, _⟩ := I1.hok c' _ hc
  have rc : codeAny (model X.prog X.w) (X.A.deeper (envOfC qg sg s.heap.objs.size g cdg)) (.call (.ref f) ⟨[], []⟩) (CR (L2.CX X.prog X.w) (envOfC qg sg s.heap.objs.size g cdg :: X.stack) X.prog X.w HZ s1 Q E) s1 := by
    refine PySem.W.kla_callFunE hr.depth of1 rfl L.co L.gen rfl ⟨c', oc, vs, t, rfl, hoc, hdc, hvc⟩ ?_
    rw [hbind]
    refine wpAny_pure (wpAny_newFunctionEnv (fun y hy => (L.own y hy).2) (fun y hy => absurd hy (by simp)) (fun h₁ hns hsb => ⟨I1.nolimit.fresh _ hsb, ?_⟩) L.kind)
    show codeAny _ _ (.expr body (PySem.W.envX (q ++ "<lambda>") scope s1.heap.objs.size f (.ref c') [])) _ _
    rw [← cloEnv (X := X) hcl]
    have kp : ∀ b o, s1.heap.get? b = some o → h₁.get? b = some o := fun b o e => hsb.extBut b o (Nat.ne_of_lt (Heap.lt_size e)) (Heap.get?_push_of_some _ e)
    have J : L2.Inv (lamCx (cloX X q) (X.A.deeper (envOfC qg sg s.heap.objs.size g cdg)) (envOfC qg sg s.heap.objs.size g cdg :: X.stack) s1 HZ E scope f c') [] [] HZ { s1 with heap := h₁, toks := s1.toks + ([] : List (Str × Value)).length } :=
      lam_startT hcl I1.env0 hr.hd hns kp
    refine PySem.W.kla_codeExpr (wpAny_mono ((hbody _ _ s1 HZ (hr.deeper _)).run [] _ _ HZ Q J ht) (fun v s' hq => ?_) fun e s' hq => hq)
    obtain ⟨w', H', J', rv, qq⟩ := hq
    exact ⟨w', H', J'.os, J'.bare, J'.base, J'.hok, rv, qq⟩
  have hx : Passes (L2.CX X.prog X.w) ((cxOf CXg X.prog X.w X.K X.mg X.base Ng qg sg g cdg X.A X.stack s H Eg).tr pn xe) E := passes_call tk hW
  refine wpAny_call (codeAny_mono rc fun r s' hq => ?_)
  cases r with
  | error e => exact hx pinsZ σZ HZ s1 e s' I1 hq
  | ok fl =>
    cases fl with
    | ret u => exact I1.after hq
    | next => exact False.elim hq
    | brk => exact False.elim hq
    | cont => exact False.elim hq
end
section
variable {G : GP} {P : Prg} {C : Nm} {cs : List CallT} {X : Cx} {N : List Str} {sc : Scope} {W : WX}
theorem Gd.lamT (h : Gd G P C cs X N sc W) {c1 c2 : CallT} {r : List CallT} (hcs : cs = c1 :: c2 :: r) {q : Str} {A : Around} {outer : List PySem.Env} {s : Shared} {H : Hp} {E : XK} {scope : Scope} {f c' : Addr} (hr : Room r.length (A.deeper (lamEnv (cloX X q) scope s.heap.objs.size f c'))) :
    Gd G P G.c1 r (lamCx (cloX X q) A outer s H E scope f c') [] scope (fun cls d _ H' => E cls d H') := by
  rw [← h.c1]
  refine ⟨h.hK, rfl, takes_of rfl rfl rfl rfl, hr, rfl, List.nodup_nil, rfl, h.mgn, h.mgc, h.mgt, (fun b e => by cases e), h.c1, (fun _ _ _ _ e => by cases e), (fun j c rest e => h.lmE (j + 2) c rest (by rw [hcs]; exact e)), fun j c rest e => h.mgf (j + 2) c rest (by rw [hcs]; exact e)⟩
/-- what is known of the stored lambdas' bodies, at a level -/
def LamLt (G : GP) (P : Prg) (r : List CallT) : Prop := ∀ n a b s, G.lm n a b s = true → noArgs a = true ∧ closedB s = true ∧ ∀ X' W', Gd G P G.c1 r X' [] s W' → PE X' b (TEv G W' true (ev P r (P.lams n)))
theorem toldv_E (h : Gd G P C cs X N sc W) {c1 c2 : CallT} {r : List CallT} (hcs : cs = c1 :: c2 :: r) (hl : LamLt G P r) {k : Nat} {x : Str} {p pos : Pos} {e : Expr} {f : Env → Sto → R D} (hk : C.td[k]? = some x) (hgl : glB sc x = true) (pl : plainE e = true) (he : PE X e (TEv G W true f)) :
    PE X (.Call (.Name x p) [e] [] pos) (TEv G W true fun Γ st => (f Γ st).bind fun d st1 => match d with
      | .lam n => toldR P k (c2 (P.lb + n) [] st1)
      | _ => .bad) := by
  obtain ⟨g1, g2⟩ := gl_of h hgl
  obtain ⟨c, ret, a, ee, g, CS, pg, bg, sg, dV, kV, doc, pm, cdv, ct, oc, an, od, osl, Ng, j, p1, p2, p3, p4, p5, p6, p7, p8, t1, t2, t3, t4, t5, t6, t7, t8, t9, t10, t11, t12, t13, t14, t15, t16⟩ := h.mgt k x hk
  have hr : Room (r.length + 2) X.A := by
    have := h.room
    rw [hcs] at this
    exact this
  refine ⟨fun pins s σ H Q I ⟨Γ, st, gg, S, Er, w⟩ => ?_⟩
  have ha : PA X [e] (tCons (TEv G W true f) tNil) := pa_cons he pa_nil (star_1 pl)
  refine wpAny_Call_Name_kw (ld_glob I g1 t3 ?_ g2)
  refine PySem.W.callWith_K (h₀ := X.base) I.ok.mod.kin t4 (thn (ha.run pos pins s σ H (fun vs H1 => ∃ d st1 gg1 v, vs = [v] ∧ SR G H1 st1 gg1 ∧ Rp G gg1.F gg1.ad d v ∧ Wp G (Eσ W σ) (match d with
      | .lam n => toldR P k (c2 (P.lb + n) [] st1)
      | _ => R.bad) H1 gg1 fun d _ H' g' => ∀ v, Rp G g'.F g'.ad d v → Q v H') I ⟨Γ, st, gg, S, Er, w.bind.imp fun d st1 H1 gg1 S1 x1 w1 v r => ⟨d, st1, gg1, v, rfl, S1, r, w1⟩⟩) fun us s1 ⟨vs, H1, I1, rv, d, st1, gg1, v, ev', S1, rd, w1⟩ => ⟨I1.kIn, ?_⟩) (star_1 pl) rfl
  subst ev'
  cases d with
  | lam n =>
    obtain ⟨fL, c', q, pa, body, scope, rfl, fL1, fc, hlm⟩ := rd
    obtain ⟨l1, l2, l3⟩ := hl n pa body scope hlm
    have e2 : c2 (P.lb + n) [] st1 = ev P r (P.lams n) [] st1 := h.lmE 1 c2 r (by rw [hcs]; rfl) n pa body scope hlm st1
    simp only [e2] at w1
    cases rv with
    | cons rv0 rv1 =>
      cases rv1
      cases rv0
      have w2 := told_V (f := fun Γ st => ev P r (P.lams n) Γ st) t1 t2 (σ := σ) w1
      let tl : XK → Hp → VK → Prop := fun E H' Q' => H' fL = some (LamO q pa body scope fL c') ∧ TEv G (fun cls d _ H' => E cls d H') true (ev P r (P.lams n)) [] H' Q'
      have rc : codeAny (model X.prog X.w) X.A (.call (.ref g) ⟨[.ref fL], []⟩) (CR C8.CX0 X.stack X.prog X.w H1 s1 Q C8.E0) s1 := by
        refine run_ofS (N := Ng) (ps := [a]) (us := [.ref fL]) (vs := [.ref fL]) t5 t6 t8 hr I1.env0 (t7 s1 [.ref fL] I1.kIn rfl) (.cons rfl .nil) rfl fun hr' => ?_
        subst t11
        obtain ⟨t', ht', hq'⟩ := told_gives (X := X) (q := q ++ "<lambda>") (cdg := cdv) (g := g) t12 t13 t14 (fun f => by
          unfold L2.start
          rfl) fL c' s1 H1 Q tl (fun W' pn xe E p1 p2 tk hW => pe_actT (i := 0) (s := s1) (H := H1) l2 (fun _ _ => noArgs_bind l1 _ _ _ _ _) tk hW hr' (fun A outer s H hr2 => l3 _ _ (h.lamT hcs hr2)) t9 t10 t15 t16) (S1.hle _ _ fc) ⟨S1.hle _ _ fL1, [], st1, gg1, S1, ⟨rfl, fun i s e => by simp at e⟩, w2⟩
        exact ⟨t', ht'.nox, hq'⟩
      refine wpAny_call (codeAny_mono rc fun r s2 hq => ?_)
      cases r with
      | error e => exact (show False from hq).elim
      | ok fl =>
        cases fl with
        | ret u => exact I1.after hq
        | next => exact False.elim hq
        | brk => exact False.elim hq
        | cont => exact False.elim hq
  | _ => exact w1.elim
end
end Eng
/-! Eng.S: generator expressions whose elements may do what they like; any, all, tuple of them. -/
namespace Eng
open PySem PySem.Spec PyProof.Rows L2 GenW

/-- the block of a generator expression: it runs in A1, its frame made at s -/
abbrev cxGen (X : Cx) (A1 : Around) (s : Shared) (H : Hp) (genv : PySem.Env) (fp : List Addr) : Cx :=
  { X with A := A1.deeper genv, s_0 := s, H_0 := H, env := genv, outer := X.stack, stack := genv :: X.stack, ex := fp, fn := fun _ => false, pn := [], xe := fun _ _ => False }
theorem over_gen {A : Around} {elt it acc : _} {cs : List Comprehension} {scope : Scope} {pos : Pos} {env : PySem.Env} : A.over (.compLoop (.GeneratorExp elt cs scope pos) 0 it acc env) [] = A.deeper env := by
  first
    | rfl
    | (obtain ⟨hd, d, fr, gs, u⟩ := A; simp [Around.over, Around.deeper, marksOver, frameCount, unitsOf, envsOf, guardsOf, pushEnvs, pushGuards, Code.envs, Code.env?, Code.isFrame, Code.guards, Code.isGuard, Code.weight, Code.frames, Code.isCreation, Code.isCaller, Code.cUnits])
theorem over_gen0 {A : Around} {elt it acc : _} {cs : List Comprehension} {scope : Scope} {pos : Pos} {env : PySem.Env} : A.over (.compStart (.GeneratorExp elt cs scope pos) 0 it acc env) [] = A.deeper env := by
  first
    | rfl
    | (obtain ⟨hd, d, fr, gs, u⟩ := A; simp [Around.over, Around.deeper, marksOver, frameCount, unitsOf, envsOf, guardsOf, pushEnvs, pushGuards, Code.envs, Code.env?, Code.isFrame, Code.guards, Code.isGuard, Code.weight, Code.frames, Code.isCreation, Code.isCaller, Code.cUnits])
theorem Inv.gens {X : Cx} {pins : List (Addr × Obj)} {σ : L2.St} {H : Hp} {s : Shared} {g' : Array GenState} (I : L2.Inv X pins σ H s) (h : AllBare g') : L2.Inv X pins σ H { s with gens := g' } :=
  ⟨I.ok, I.os, h, I.base, I.loc, I.cell, I.free, I.freeC, I.pin, I.hok, I.len⟩

/-- what the consumer wants of an item y: behind it Nx is to hold -/
abbrev GK := V → Hp → (Hp → Prop) → Prop
/-- the generator sleeps: an item is out -/
def YG (Xg : Cx) (pg : List (Addr × Obj)) (σw : L2.St) (fp : List Addr) (K : GK) : Protocol := fun _ _ v s kap =>
  ∃ y H Nx, L2.Inv Xg pg σw H s ∧ RelV y v ∧ K y H Nx ∧ (∀ b ∈ fp, H b = none) ∧
    ∀ s' H', L2.Inv Xg pg σw H' s' → (∀ b ∈ fp, H' b = none) → (∀ b ∈ fp, ∀ o, s.heap.get? b = some o → s'.heap.get? b = some o) → Nx H' → kap (.send .none) s'
def RG (Xg : Cx) (pg : List (Addr × Obj)) (σw : L2.St) (Qe : Hp → Prop) : Nat → Shared → Shared → Prop := fun _ _ s => ∃ H, L2.Inv Xg pg σw H s ∧ Qe H
section
variable {Xg : Cx} {pg : List (Addr × Obj)} {σw : L2.St} {elt tg iter : Expr} {ifs : List Expr} {scope : Scope} {pos : Pos} {it : Addr} {fp : List Addr} {tn : Nat → Heap → Prop} {J : L2.It} {vs : List Nat} {g : TG} {tt : TT} {te : TE} {K : GK} {Qe : Hp → Prop} {A1 : Around}
/-- a turn of the generator, by the readings -/
def GTurn (J : L2.It) (g : TG) (tt : TT) (te : TE) (vs : List Nat) (σw : L2.St) (K : GK) (Qe : Hp → Prop) (W : Nat → Nat → Hp → Prop) : Prop := ∀ i m H, W i m H →
  (J.stop i H ∧ Qe H) ∨ (J.go i H ∧ ∃ Nx : Hp → Prop, (∀ H', Nx H' → ∃ m', m' < m ∧ W (i + 1) m' H') ∧ ∀ x H', J.yld i H x H' → g x σw H' fun σ2 H2 => wipe σ2 vs = σw ∧ tt σ2 H2 fun b H3 =>
    if b = true then te σ2 H3 fun y H4 => K y H4 Nx else Nx H3)
theorem seg_gen (hA : Xg.A = A1.deeper Xg.env) (hc : Xg.calm = true) (hex : Xg.ex = fp) (hpn : Xg.pn = []) (hxe : Xg.xe = fun _ _ => False) (hco : Xg.env.scope.isCoroutine = false) (hw : wipe σw vs = σw) (hpf : ∀ p ∈ pg, p.1 ∉ fp)
    (T : Turn Xg.prog Xg.w Xg.K tg J fp it tn) (pgt : PG Xg tg g) (pt : PTs Xg ifs tt) (pe : PE Xg elt te) {W : Nat → Nat → Hp → Prop} (turn : GTurn J g tt te vs σw K Qe W) :
    ∀ (m n i : Nat) (s₀ s : Shared) (H : Hp), m < n → L2.Inv Xg pg σw H s → tn i s.heap → (∀ b ∈ fp, H b = none) → W i m H →
      Seg (model Xg.prog Xg.w) A1 (fun n s₀ r s₁ => r = .ok .next ∧ RG Xg pg σw Qe n s₀ s₁) (YG Xg pg σw fp K) n s₀
        (.compLoop (.GeneratorExp elt [⟨tg, iter, ifs, 0⟩] scope pos) 0 (.ref it) .none Xg.env)
        ((model Xg.prog Xg.w).den (.compLoop (.GeneratorExp elt [⟨tg, iter, ifs, 0⟩] scope pos) 0 (.ref it) .none Xg.env)) [] s := by
  have stat : ∀ {σ' : L2.St} {H' : Hp} {s' : Shared}, L2.Inv Xg pg σ' H' s' → (∀ b ∈ fp, H' b = none) → ∀ b ∈ fp, FpOk Xg pg H' b := fun {σ' H' s'} I' hn b hb =>
    ⟨hn b hb, (I'.ok.exf b (hex ▸ hb)).1, I'.ok.exfs b (hex ▸ hb), .inl (hex ▸ hb), fun x c e => (I'.ok.exf b (hex ▸ hb)).2 x c e, fun p hp => by
      rw [hpn] at hp
      exact fun z => hpf p hp (z ▸ hb)⟩
  intro m
  induction m using Nat.strongRecOn with
  | ind m ih =>
    intro n i s₀ s H hmn I st hn w
    show Seg _ A1 _ _ _ s₀ _ ((compTurn (.GeneratorExp elt [⟨tg, iter, ifs, 0⟩] scope pos) 0 (.ref it) .none Xg.env).onRaise (leaving Xg.env)) [] s
    rw [compTurn_gen, Sem.onRaise_eq_wrap]
    refine seg_bind_wrap (wpAny_standAt ?_)
    rcases turn i m H w with ⟨stop, qe⟩ | ⟨go, Nx, hNx, step⟩
    · refine seg_bind_wrap ?_
      rw [over_gen, ← hA]
      refine thnF (T.done Xg rfl rfl rfl hc i pg s σw H (fun _ _ => False) I (stat I hn) st stop) fun r s1 ⟨hr, I1⟩ => ?_
      subst hr
      exact seg_end (.ok .next) ⟨rfl, H, I1, qe⟩
    · refine seg_bind_wrap ?_
      rw [over_gen, ← hA]
      refine thnF (T.item Xg rfl rfl rfl hc i pg s σw H (fun _ _ => False) I (stat I hn) st go) fun r s1 ⟨u, hr, h1⟩ => ?_
      subst hr
      refine seg_bind_wrap ?_
      rw [over_gen, ← hA]
      refine thnF h1 fun _ s2 ⟨x, H2, I2, r2, y2, st2, n2⟩ => ?_
      have I2' := I2.pinned (stat I2 n2) (T.obj _ _ st2)
      have nE : ∀ {α : Type} {t : Sem α} {Q : α → Shared → Prop} {s' : Shared}, wpAny (model Xg.prog Xg.w) Xg.A t Q Xg.xe s' → wpAny (model Xg.prog Xg.w) Xg.A t Q (fun _ _ => False) s' := fun h => by rw [hxe] at h; exact h
      refine seg_bind_wrap ?_
      rw [over_gen, ← hA]
      refine thnF (nE (pgt.run _ s2 σw H2 x u _ I2' r2 (step x H2 y2))) fun _ s3 ⟨σ3, H3, I3, hw3, q3⟩ => ?_
      refine seg_bind_wrap ?_
      rw [over_gen, ← hA]
      refine thnF (nE (pt.run _ s3 σ3 H3 _ I3 q3)) fun b s4 ⟨H4, I4, q4⟩ => ?_
      have hl : σw.length = σ3.length := by rw [← hw3, wipe_length]
      have weak : ∀ {s' : Shared} {H' : Hp}, L2.Inv Xg (pg ++ pinsAt fp s2.heap) σ3 H' s' → L2.Inv Xg pg σw H' s' ∧ (∀ b ∈ fp, ∀ o, s2.heap.get? b = some o → s'.heap.get? b = some o) ∧ ∀ b ∈ fp, H' b = none := fun {s' H'} I' => by
        have pin' : ∀ b ∈ fp, ∀ o, s2.heap.get? b = some o → s'.heap.get? b = some o ∧ H' b = none := fun b hb o e =>
          let z := I'.pin (b, o) (List.mem_append_right _ (List.mem_append_right _ (mem_pinsAt hb e)))
          ⟨z.1, z.2.1⟩
        refine ⟨(I'.unpinned (pins := pg)).weak hl (fun j v e => ?_), fun b hb o e => (pin' b hb o e).1, fun b hb => ?_⟩
        · rw [← hw3] at e
          exact (wipe_some e).1
        · obtain ⟨o, e, _⟩ := T.obj _ _ st2 b hb
          exact (pin' b hb o e).2
      cases b with
      | false =>
        simp only [Bool.false_eq_true, if_false] at q4 ⊢
        obtain ⟨m', hm, w'⟩ := hNx H4 q4
        obtain ⟨J1, J2, J3⟩ := weak I4
        exact seg_again rfl (ih m' hm n (i + 1) s₀ s4 H4 (by omega) J1 (T.keep _ _ _ st2 J2) J3 w')
      | true =>
        simp only [if_true] at q4 ⊢
        have hy : ∀ v, yieldOut Xg.env v = yieldValue v := fun v => by simp only [yieldOut, hco, Bool.false_eq_true, if_false]
        simp only [hy]
        rw [Sem.bind_eq_wrap', Sem.bind_eq_wrap', Sem.wrap_wrap, Sem.wrap_wrap]
        refine seg_wrap ?_
        rw [over_gen, ← hA]
        refine thnF (nE (pe.run _ s4 σ3 H4 _ I4 q4)) fun v s5 ⟨y, H5, I5, r5, q5⟩ => ?_
        obtain ⟨n, rfl⟩ : ∃ k, n = k + 1 := ⟨n - 1, by omega⟩
        obtain ⟨J1, J2, J3⟩ := weak I5
        refine seg_at (seg_yield rfl rfl rfl ⟨y, H5, Nx, J1, r5, q5, J3, fun s6 H6 I6 n6 k6 nx => ?_⟩)
        obtain ⟨m', hm, w'⟩ := hNx H6 nx
        exact seg_again rfl (ih m' hm n (i + 1) s6 s6 H6 (by omega) I6 (T.keep _ _ _ st2 fun b hb o e => k6 b hb o (J2 b hb o e)) n6 w')
end

section
variable {X : Cx} {pins : List (Addr × Obj)} {σ : L2.St} {H : Hp} {s : Shared}
theorem gen_start {scope : Scope} {own : List (Str × Nat)} {fp : List Addr} {A1 : Around} {code : Value} {h5 : Heap} {g5 : Array GenState} {tk : Nat} {m0 : Str → Option Value} {a : Addr} {o : Obj} (I : L2.Inv X pins σ H s) (ok : BlkOk X.N X.env.scope scope own) (hcell : ∀ y ∈ scope.names, y.2 ≠ .cell) (hN : X.N.Nodup)
    (hfp : ∀ b ∈ fp, FpOk X pins H b ∧ b < s.heap.objs.size) (kp : ∀ b o, s.heap.get? b = some o → h5.get? b = some o) (hn : h5.Ns s.heap.objs.size m0) (hb : AllBare g5) (hd : X.calm = true → A1.handled = none) (hfr : A1.frames = X.A.frames)
    (hga : h5.get? a = some o) (ha : s.heap.objs.size < a) (hod : ∀ v, o.data ≠ .cell v) :
    L2.Inv (cxGen X A1 s H (genEnv scope (cloFrom X.env.cells scope.names []) s.heap.objs.size code builtinsNs X.env) fp) [(a, o)] (wipe σ (own.map (·.2))) H { s with heap := h5, gens := g5, toks := tk } := by
  have hfree : ∀ y ∈ scope.names, y.2 = .free → ∃ c, X.env.cells.lookup y.1 = some c := fun y hy e => by
    rcases ok.free y hy e with k | k
    · exact I.ok.has _ (.inl k)
    · exact I.ok.has _ (.inr k)
  generalize hcenv : genEnv scope (cloFrom X.env.cells scope.names []) s.heap.objs.size code builtinsNs X.env = cenv
  have hL : cenv.locals = s.heap.objs.size := by rw [← hcenv]; rfl
  have hcl : cenv.cells = cloFrom X.env.cells scope.names [] := by rw [← hcenv]; rfl
  have hsc : cenv.scope = scope := by rw [← hcenv]; rfl
  have cm : ∀ {y c}, (y, c) ∈ cloFrom X.env.cells scope.names [] → X.env.cells.lookup y = some c ∧ c < s.heap.objs.size := fun {y c} hm => by
    rcases cloFrom_mem hm with hm | ⟨h1, rfl⟩
    · cases hm
    · obtain ⟨c, hc⟩ := hfree _ h1 rfl
      rw [hc]
      obtain ⟨w, z⟩ := I.cell _ _ hc
      exact ⟨rfl, z.lt⟩
  have mem : ∀ {y c}, cenv.cells.lookup y = some c → X.env.cells.lookup y = some c ∧ c < s.heap.objs.size := fun {y c} e => by
    rw [hcl] at e
    exact cm (PySem.mem_of_lookup e)
  have look : ∀ {y}, scope.names.lookup y = some .free → ∃ c, cenv.cells.lookup y = some c ∧ X.env.cells.lookup y = some c := fun {y} hl => by
    have hy : (y, NameKind.free) ∈ scope.names := PySem.mem_of_lookup hl
    obtain ⟨c', e'⟩ := mem_lookup (cloFrom_has (cells := X.env.cells) (acc := []) hy)
    rw [← hcl] at e'
    exact ⟨c', e', (mem e').1⟩
  have okB : (cxGen X A1 s H cenv fp).Ok := by
    refine ⟨I.ok.mod, by show cenv.scope.kind = _; rw [hsc]; exact ok.kind, by show cenv.globals = _; rw [← hcenv]; exact I.ok.glob, by show cenv.builtins = _; rw [← hcenv]; rfl, by show s.heap.objs.size ≤ cenv.locals; rw [hL]; exact Nat.le_refl _,
      fun y z c e1 e2 => I.ok.inj y z c (mem e1).1 (mem e2).1, fun y hy => ?_, fun y c z e => (by cases z), hd, ?_, .inr ⟨rfl, ?_⟩, fun b hb => ⟨?_, fun y c e z => ?_⟩, I.bs, Nat.le_trans I.ok.bsz I.sz, fun b o e hb => ?_, fun b hb z => ?_, I.stack, I.stkFree⟩
    · show ∃ c, cenv.cells.lookup y = some c
      rcases hy with hy | hy
      · exfalso
        have hy : cenv.scope.names.lookup y = some .cell := hy
        rw [hsc] at hy
        exact hcell _ (PySem.mem_of_lookup hy) rfl
      · have hy : cenv.scope.names.lookup y = some .free := hy
        rw [hsc] at hy
        obtain ⟨c, h1, _⟩ := look hy
        exact ⟨c, h1⟩
    · show (A1.deeper cenv).frames = some (cenv :: X.stack)
      show A1.frames.map (cenv :: ·) = some (cenv :: X.stack)
      rw [hfr, I.ok.frames]
      rfl
    · show cenv.frame = some cenv.locals
      rw [← hcenv]
      rfl
    · show b ≠ cenv.locals
      rw [hL]; exact Nat.ne_of_lt (hfp b hb).2
    · exact (hfp b hb).1.2.2.2.2.1 y c (mem e).1 z
    · rcases (hfp b hb).1.2.2.2.1 with z | z
      · exact I.ok.noex b o e z
      · exact absurd (Nat.lt_of_lt_of_le (Heap.lt_size e) (Nat.le_trans I.ok.bsz z)) (Nat.lt_irrefl _)
    · rcases List.mem_cons.mp (I.stkSub b z) with z | z
      · exact (hfp b hb).1.2.1 z
      · exact (hfp b hb).1.2.2.1 z
  refine ⟨okB, rfl, hb, Un.kept kp, ⟨m0, by rw [show (cxGen X A1 s H cenv fp).env.locals = cenv.locals from rfl, hL]; exact hn, fun i y av e1 e2 e3 => ?_⟩, fun y c e => ?_, ?_, fun y c e => ?_, fun p hp => ?_, I.hok.kept kp, by rw [wipe_length]; exact I.len⟩
  · obtain ⟨e2, hne⟩ := wipe_some e2
    have hfr : scope.names.lookup y = some .free := by
      have no : ∀ k', scope.names.lookup y = some k' → ¬ (k' = .local ∨ k' = .cell) := fun k' e hh => by
        rcases ok.own _ (PySem.mem_of_lookup e) hh with e' | e'
        · obtain ⟨p, hp, hpy⟩ := List.mem_map.mp e'
          have e3 := ok.ix p hp
          have : p.1 = y := hpy
          rw [this] at e3
          exact hne (List.mem_map.mpr ⟨p, hp, nodup_ix hN e3 e1⟩)
        · exact e' (List.mem_of_getElem? e1)
      have e3 : Vis cenv.scope y := e3
      rw [hsc] at e3
      rcases e3 with e3 | e3 | e3
      · exact (no _ e3 (.inl rfl)).elim
      · exact (no _ e3 (.inr rfl)).elim
      · exact e3
    obtain ⟨m, hn, hl⟩ := I.loc
    have hvis : Vis X.env.scope y := (ok.free _ (PySem.mem_of_lookup hfr) rfl).elim (fun k => .inr (.inl k)) (fun k => .inr (.inr k))
    obtain ⟨w, r, q⟩ := hl i y av e1 e2 hvis
    refine ⟨w, r, .inr ⟨.inr (by show cenv.scope.names.lookup y = some .free; rw [hsc]; exact hfr), ?_⟩⟩
    obtain ⟨c, h1, h2⟩ := look hfr
    rcases q with ⟨k, _⟩ | ⟨_, c', e', z⟩
    · have k : X.env.scope.names.lookup y = some .local := k
      rcases ok.free _ (PySem.mem_of_lookup hfr) rfl with k' | k' <;> rw [show X.env.scope.names.lookup y = _ from k'] at k <;> cases k
    · rw [h2] at e'; cases e'
      exact ⟨c, h1, z.keeps kp⟩
  · obtain ⟨w, z⟩ := I.cell y c (mem e).1
    exact ⟨w, z.keeps kp⟩
  · show H cenv.locals = none
    rw [hL]; exact I.hok.fresh (Nat.le_refl _)
  · exact I.freeC y c (mem e).1
  · have hp : p ∈ ([] : List (Addr × Obj)) ++ [(a, o)] := hp
    rw [List.nil_append, List.mem_singleton] at hp
    subst hp
    refine ⟨hga, I.hok.fresh (Nat.le_of_lt ha), ?_, fun z => ?_, hod⟩
    · show a ≠ cenv.locals
      rw [hL]; exact Nat.ne_of_gt ha
    · have hlt : a < s.heap.objs.size := by
        rcases List.mem_cons.mp (I.stkSub a z) with z | z
        · rw [z]; exact I.lt
        · exact absurd z (I.nofs (Nat.le_of_lt ha))
      exact Nat.lt_irrefl _ (Nat.lt_trans ha hlt)
end

/-- a generator that has not begun -/
structure GRdy (X : Cx) (A1 : Around) (pins : List (Addr × Obj)) (σ : L2.St) (own : List (Str × Nat)) (elt tg iter : Expr) (ifs : List Expr) (scope : Scope) (pos : Pos) (J : L2.It) (a : Addr) (H : Hp) (s : Shared) : Prop where
  ex : ∃ (g : Nat) (code : Value) (s4 : Shared) (H4 : Hp) (fp : List Addr) (tn : Nat → Heap → Prop) (it : Addr) (o : Obj),
    (∀ h : Heap, h.get? a = some o → h.IsGen a g) ∧ a ∉ fp ∧
    s.gens[g]? = some (.fresh (.compStart (.GeneratorExp elt [⟨tg, iter, ifs, 0⟩] scope pos) 0 (.ref it) .none (genEnv scope (cloFrom X.env.cells scope.names []) s4.heap.objs.size code builtinsNs X.env))) ∧
    L2.Inv (cxGen X A1 s4 H4 (genEnv scope (cloFrom X.env.cells scope.names []) s4.heap.objs.size code builtinsNs X.env) fp) [(a, o)] (wipe σ (own.map (·.2))) H s ∧
    Turn X.prog X.w X.K tg J fp it tn ∧ tn 0 s.heap ∧ (∀ b ∈ fp, H b = none) ∧
    ∀ H' s', L2.Inv (cxGen X A1 s4 H4 (genEnv scope (cloFrom X.env.cells scope.names []) s4.heap.objs.size code builtinsNs X.env) fp) [(a, o)] (wipe σ (own.map (·.2))) H' s' → L2.Inv X pins σ H' s'
section
variable {X : Cx} {pins : List (Addr × Obj)} {σ : L2.St} {H : Hp} {s : Shared}
theorem gen_mk {scope : Scope} {own : List (Str × Nat)} {A1 : Around} {c P : Addr} {elt tg iter : Expr} {ifs : List Expr} {pos : Pos} {wi : TI} {RR : L2.It → Hp → Prop} {Q : Value → Shared → Prop} {k : Nat} (hr : Room k X.A) (TB : LamX.TabB X.base X.mg c P) (hcode : X.env.code = .ref c)
    (I : L2.Inv X pins σ H s) (ok : BlkOk X.N X.env.scope scope own) (hcell : ∀ y ∈ scope.names, y.2 ≠ .cell) (hdot : scope.names.lookup (".0" : Str) = some NameKind.local) (hco : scope.isCoroutine = false) (hN : X.N.Nodup) (hd : X.calm = true → A1.handled = none) (hfr : A1.frames = X.A.frames)
    (hs : ∀ v, genFold iter X.env v = pure v) (hi : PI X tg iter wi) (h : wi σ H fun J H1 => GxR.TabG H1 P ∧ ∀ H2, GxR.Tabbed P H1 H2 → RR J H2)
    (hQ : ∀ J H5 a s5, RR J H5 → GRdy X A1 pins σ own elt tg iter ifs scope pos J a H5 s5 → Q (.ref a) s5) :
    wpAny (model X.prog X.w) X.A (eval (.GeneratorExp elt [⟨tg, iter, ifs, 0⟩] scope pos) X.env) Q X.xe s := by
  have hfree : ∀ y ∈ scope.names, y.2 = .free → ∃ c, X.env.cells.lookup y.1 = some c := fun y hy e => by
    rcases ok.free y hy e with k | k
    · exact I.ok.has _ (.inl k)
    · exact I.ok.has _ (.inr k)
  refine wpAny_GeneratorExp_make hco (closure_ok hfree) hcell hdot ok.kind (by have := hr.dp; omega) ?_ hs
  refine thn (hi.run pins s σ H _ I h) fun xv s1 hx => thn hx fun itv s2 h2 => ?_
  obtain ⟨it, fp, tn, J, H2, rfl, I2, T, st2, f2, ⟨ps, hP, ht⟩, q⟩ := h2
  refine ⟨I2.nolimit, ?_⟩
  have hPs : s2.heap.get? P = some { cls := .none, data := .fields ps } := I2.hok P _ hP
  have hPlt : P < s2.heap.objs.size := Heap.lt_size hPs
  have cd : PySem.W.CodeHd s2.heap c P := TB.code.keeps fun b u e => I2.bk b u e
  have lim2 : s2.heap.NoLimit := I2.nolimit
  have fpP : ∀ b ∈ fp, b ≠ P := fun b hb z => by
    have := (f2 b hb).1
    rw [z, hP] at this
    cases this
  have sz : ∀ b ∈ fp, b < s2.heap.objs.size := fun b hb => by
    obtain ⟨o, e, _⟩ := T.obj _ _ st2 b hb
    exact Heap.lt_size e
  have cont : ∀ (code : Value) (h3 : Heap) (tk : Nat) (ps' : Array Value), Heap.ExtBut P s2.heap h3 → s2.heap.objs.size ≤ h3.objs.size → h3.get? P = some { cls := .none, data := .fields ps' } → (∃ more, ps' = ps ++ more) → TriplesOk ps'.toList →
      wpAny (model X.prog X.w) X.A (builtinsFor X.env.globals X.env.builtins) (fun bi s₄ => ∀ h', h'.Ns s₄.heap.objs.size (fun y => if y = ".0" then some (.ref it) else none) → Heap.SameBut s₄.heap.objs.size (s₄.heap.push { cls := .type "frame", data := .dict #[] }) h' →
          Q (.ref h'.objs.size) { s₄ with
            gens := s₄.gens.push (.fresh (.compStart (.GeneratorExp elt [⟨tg, iter, ifs, 0⟩] scope pos) 0 (.ref it) .none (genEnv scope (cloFrom X.env.cells scope.names []) s₄.heap.objs.size code bi X.env))),
            toks := s₄.toks + 1 + 1 + 1,
            heap := h'.push { cls := .type "generator", data := .fields #[.int s₄.gens.size 0, .str "<genexpr>" (s₄.toks + 1), .str (X.env.qual ++ "<genexpr>") (s₄.toks + 1 + 1)] } }) X.xe { s2 with heap := h3, toks := tk } := by
    intro code h3 tk ps' hx hsz hP3 hmore ht3
    obtain ⟨bm, ob, e1, e2, e3, e4, e5, e6, e7, e8⟩ := TB.bm
    have keep3 : ∀ b u, b ≠ P → s2.heap.get? b = some u → h3.get? b = some u := fun b u hb e => hx b u hb e
    refine wpAny_builtinsFor (m := X.mg) (by rw [I2.ok.glob]; exact (I2.mod.glob.keeps I2.bk).extBut hx TB.gP) e1 e2 (keep3 _ _ e4 (I2.bk _ _ e5)) e6 e7 e8 ?_
    intro h' hn' hs'
    obtain ⟨more, em⟩ := hmore
    -- the table has grown
    have I3 : L2.Inv X pins σ (upd H2 P (.tbl ps')) { s2 with heap := h3, toks := tk } := by
      rw [em]
      exact GxR.inv_tab (g' := s2.gens) (d' := s2.drawn) I2 hP (fun b o hb e => keep3 b o hb e) (by rw [← em]; exact hP3) I2.bare
    have hsz' : h'.objs.size = h3.objs.size + 1 := by rw [hs'.1, Heap.size_push]
    have keep' : ∀ b o, h3.get? b = some o → h'.get? b = some o := fun b o e => hs'.extBut b o (Nat.ne_of_lt (Heap.lt_size e)) (Heap.get?_push_of_some _ e)
    have f3 : ∀ b ∈ fp, FpOk X pins (upd H2 P (.tbl ps')) b ∧ b < h3.objs.size := fun b hb => by
      refine ⟨⟨?_, (f2 b hb).2⟩, Nat.lt_of_lt_of_le (sz b hb) hsz⟩
      rw [upd_ne (fpP b hb)]
      exact (f2 b hb).1
    have st3 : tn 0 h3 := T.keep _ _ _ st2 fun b hb o e => keep3 b o (fpP b hb) e
    generalize ho : ({ cls := .type "generator", data := .fields #[.int s2.gens.size 0, .str "<genexpr>" (tk + 1), .str (X.env.qual ++ "<genexpr>") (tk + 1 + 1)] } : Obj) = o
    have I5 := gen_start (A1 := A1) (code := code) (h5 := h'.push o) (g5 := s2.gens.push (.fresh (.compStart (.GeneratorExp elt [⟨tg, iter, ifs, 0⟩] scope pos) 0 (.ref it) .none (genEnv scope (cloFrom X.env.cells scope.names []) h3.objs.size code builtinsNs X.env)))) (tk := tk + 1 + 1 + 1)
      (a := h'.objs.size) (o := o) I3 ok hcell hN f3 (fun b u e => Heap.get?_push_of_some _ (keep' b u e)) (hn'.push _) (I2.bare.push rfl) hd hfr (Heap.get?_push_size _ (by rw [← ho]; rfl)) (by show h3.objs.size < h'.objs.size; omega) (by intro v z; rw [← ho] at z; cases z)
    refine hQ J (upd H2 P (.tbl ps')) _ _ (q _ ⟨⟨ps', upd_same, ht3⟩, fun b hb => upd_ne hb⟩) ⟨s2.gens.size, code, { s2 with heap := h3, toks := tk }, upd H2 P (.tbl ps'), fp, tn, it, o, fun h e => ?_, fun z => ?_, Array.getElem?_push_size .., I5, T, ?_, fun b hb => (f3 b hb).1.1, fun H' s' I' => ?_⟩
    · exact ⟨o, _, _, e, by rw [← ho], by rw [← ho], by rw [← ho]⟩
    · have h9 : h'.objs.size < h3.objs.size := (f3 _ z).2
      rw [hsz'] at h9
      exact absurd h9 (Nat.not_lt.mpr (Nat.le_succ _))
    · exact T.keep _ _ _ st3 fun b _ u e => Heap.get?_push_of_some _ (keep' b u e)
    · exact I3.call' (ch := fp) I'.os I'.base I'.hok I'.bare fun b hb => ⟨(f3 b hb).1.2.2.2.1, (f3 b hb).1.2.1, (f3 b hb).1.2.2.2.2.1, (f3 b hb).1.2.2.2.2.2⟩
  cases hf : codeAmong pos ps.toList with
  | none =>
    refine wpAny_genexprCodeX hcode (cd.code hPs ht) (cd.tab hPs) hf fun c' h' tk hx hge hlt hco' _ htab' _ => ?_
    obtain ⟨o1, vs, f1, tf, fl, tg, inF, tx, tt, op, _, _, _, _, _, _, _, _, _, htr, _⟩ := hco'
    exact cont _ h' tk _ hx (Nat.le_trans hge (Nat.le_of_lt hlt)) htab'.2 ⟨_, rfl⟩ htr
  | some cv =>
    refine wpAny_genexprCode_hit hcode (cd.code hPs ht) hf ?_
    exact cont cv s2.heap s2.toks ps (Heap.ExtBut.refl _ _) (Nat.le_refl _) hPs ⟨#[], by simp⟩ ht
end

section
variable {Xg : Cx} {pg : List (Addr × Obj)} {σw : L2.St} {elt tg iter : Expr} {ifs : List Expr} {scope : Scope} {pos : Pos} {it : Addr} {fp : List Addr} {tn : Nat → Heap → Prop} {J : L2.It} {vs : List Nat} {g : TG} {tt : TT} {te : TE} {K : GK} {Qe : Hp → Prop} {A1 : Around}
theorem seg_gen0 (hA : Xg.A = A1.deeper Xg.env) (hc : Xg.calm = true) (hex : Xg.ex = fp) (hpn : Xg.pn = []) (hxe : Xg.xe = fun _ _ => False) (hco : Xg.env.scope.isCoroutine = false) (hw : wipe σw vs = σw) (hpf : ∀ p ∈ pg, p.1 ∉ fp)
    (T : Turn Xg.prog Xg.w Xg.K tg J fp it tn) (pgt : PG Xg tg g) (pt : PTs Xg ifs tt) (pe : PE Xg elt te) {W : Nat → Nat → Hp → Prop} (turn : GTurn J g tt te vs σw K Qe W)
    (m : Nat) (s₀ s : Shared) (H : Hp) (I : L2.Inv Xg pg σw H s) (st : tn 0 s.heap) (hn : ∀ b ∈ fp, H b = none) (w0 : W 0 m H) :
      Seg (model Xg.prog Xg.w) A1 (fun n s₀ r s₁ => r = .ok .next ∧ RG Xg pg σw Qe n s₀ s₁) (YG Xg pg σw fp K) (m + 1) s₀
        (.compStart (.GeneratorExp elt [⟨tg, iter, ifs, 0⟩] scope pos) 0 (.ref it) .none Xg.env)
        ((model Xg.prog Xg.w).den (.compStart (.GeneratorExp elt [⟨tg, iter, ifs, 0⟩] scope pos) 0 (.ref it) .none Xg.env)) [] s := by
  have loop := seg_gen (elt := elt) (iter := iter) (scope := scope) (pos := pos) hA hc hex hpn hxe hco hw hpf T pgt pt pe turn m (m + 1) 0 s₀ s H (Nat.lt_succ_self _) I st hn w0
  show Seg _ A1 _ _ _ s₀ _ ((compStart (.GeneratorExp elt [⟨tg, iter, ifs, 0⟩] scope pos) 0 (.ref it) .none Xg.env).onRaise (leaving Xg.env)) [] s
  unfold compStart
  rw [Sem.onRaise_eq_wrap]
  show Seg _ A1 _ _ _ s₀ _ ((ask >>= _).wrap _ _ _ _) [] s
  refine seg_bind_wrap (wpAny_askSetting ?_)
  split
  · exact seg_again rfl loop
  · first
      | exact seg_bind_wrap (wpAny_rule (seg_bind_wrap (wpAny_standAt (seg_bind_wrap (T.self _ 0 s _ _ st (seg_again rfl loop))))))
      | (refine seg_bind_wrap (wpAny_rule ?_); show Seg _ A1 _ _ _ s₀ _ ((standAt iter.pos >>= _).wrap _ _ _ _) [] s; exact seg_bind_wrap (wpAny_standAt (seg_bind_wrap (T.self _ 0 s _ _ st (seg_again rfl loop)))))
/-- any, all: an item is a truth value; stop: the one that ends it -/
def kStop (stop : Bool) (Q : Hp → Prop) : GK := fun y H Nx => ∃ b, y = .bl b ∧ (b = stop → Q H) ∧ (b = !stop → Nx H)
end
section
variable {prog : Program} {w : World} {A : Around} {Xg : Cx} {pg : List (Addr × Obj)} {σw : L2.St} {fp : List Addr} {Qe : Hp → Prop} {Qs : Hp → Prop} {a : Addr} {o : Obj} {g : Nat}
theorem loop_gen (nm : String) (stop : Bool) (R : Result → Shared → Prop) (hP : Xg.prog = prog) (hw : Xg.w = w) (hh : A.handled = none) (hd : A.depth < recursionLimit) (hg : ∀ h : Heap, h.get? a = some o → h.IsGen a g) (hpg : (a, o) ∈ pg)
    (turnEnd : ∀ {s : Shared}, wpAny (model prog w) A.in1 (pyNext (.ref a)) (fun r s1 => match r with
        | none => R (.ok (.ret (.bool (!stop)))) s1
        | some v => ∃ b, v = .bool b ∧ (b = stop → R (.ok (.ret (.bool stop))) s1) ∧ (b = !stop → codeAny (model prog w) A (.builtin nm ⟨[.ref a], []⟩) R s1)) (fun e s' => R (.error e) s') s → codeAny (model prog w) A (.builtin nm ⟨[.ref a], []⟩) R s)
    (hRe : ∀ H s, L2.Inv Xg pg σw H s → Qe H → R (.ok (.ret (.bool (!stop)))) s) (hRs : ∀ H s, L2.Inv Xg pg σw H s → Qs H → R (.ok (.ret (.bool stop))) s) :
    ∀ (n : Nat) (s : Shared) (H : Hp), L2.Inv Xg pg σw H s →
      (∃ gs, s.gens[g]? = some gs ∧ gs.Goes (model prog w) A.in1.in1 (fun n s₀ r s₁ => r = .ok .next ∧ RG Xg pg σw Qe n s₀ s₁) (YG Xg pg σw fp (kStop stop Qs)) n (.send .none) (s.setGen g .running)) →
      codeAny (model prog w) A (.builtin nm ⟨[.ref a], []⟩) R s := by
  have nextOk : ∀ {n : Nat} {s : Shared} {H : Hp}, L2.Inv Xg pg σw H s → (∃ gs, s.gens[g]? = some gs ∧ gs.Goes (model prog w) A.in1.in1 (fun n s₀ r s₁ => r = .ok .next ∧ RG Xg pg σw Qe n s₀ s₁) (YG Xg pg σw fp (kStop stop Qs)) n (.send .none) (s.setGen g .running)) →
      (∀ n' s2 H2, n' + 1 = n → L2.Inv Xg pg σw H2 s2 → (∃ gs, s2.gens[g]? = some gs ∧ gs.Goes (model prog w) A.in1.in1 (fun n s₀ r s₁ => r = .ok .next ∧ RG Xg pg σw Qe n s₀ s₁) (YG Xg pg σw fp (kStop stop Qs)) n' (.send .none) (s2.setGen g .running)) → codeAny (model prog w) A (.builtin nm ⟨[.ref a], []⟩) R s2) →
      codeAny (model prog w) A (.builtin nm ⟨[.ref a], []⟩) R s := fun {n s H} I ⟨gs, hgs, hgo⟩ ih => by
    have hgl : g < s.gens.size := (Array.getElem?_eq_some_iff.mp hgs).1
    have pin := I.pin (a, o) (List.mem_append_right _ hpg)
    refine turnEnd (wpAny_gsz (n := g + 1) hgl (wpAny_pyNext_genexpQ (A := A.in1) (P := RG Xg pg σw Qe) hh I.nolimit hd (hg _ pin.1) hgs hgo (fun v s₁ gs' hb hv => ?_) (fun s₁ hp h' hk => ?_)))
    · intro hsz
      obtain ⟨y, H1, Nx, I1, rv, ⟨b, rfl, q1, q2⟩, hn, kap⟩ := hv
      have hsz1 : g < s₁.gens.size := by
        have q : (s₁.setGen g gs').gens.size = s₁.gens.size := setGen_size _ _ _
        have hsz' : g + 1 ≤ (s₁.setGen g gs').gens.size := hsz
        omega
      have I2 : L2.Inv Xg pg σw H1 (s₁.setGen g gs') := Inv.gens I1 (allBare_setGen I1.bare hb)
      refine ⟨b, rv, fun e => hRs H1 _ I2 (q1 e), fun e => ?_⟩
      cases n with
      | zero => exact (kap (s₁.setGen g gs') H1 I2 hn (fun _ _ _ e => e) (q2 e)).elim
      | succ n =>
        refine ih n _ H1 rfl I2 ⟨gs', setGen_at hsz1, kap _ H1 (Inv.gens I2 (allBare_setGen I2.bare rfl)) hn (fun _ _ _ e => e) (q2 e)⟩
    · intro hsz
      obtain ⟨H1, I1, q⟩ := hp
      exact hRe H1 _ ((Inv.gens (g' := (s₁.setGen g .finished).gens) I1 (allBare_setGen I1.bare rfl)).kept hk) q
  intro n
  induction n with
  | zero => exact fun s H I h => nextOk I h fun n' _ _ e => by omega
  | succ n ih => exact fun s H I h => nextOk I h fun n' s2 H2 e I2 h2 => ih s2 H2 I2 ((Nat.succ.inj e) ▸ h2)
end

/-- what a block of a generator's must have, wherever it runs -/
structure GBlk (X : Cx) (A1 : Around) (scope : Scope) (tg : Expr) (ifs : List Expr) (elt : Expr) (g : TG) (tt : TT) (te : TE) : Prop where
  pg : ∀ (s : Shared) (H : Hp) (genv : PySem.Env) (fp : List Addr), genv.scope = scope → PG (cxGen X A1 s H genv fp) tg g
  pt : ∀ (s : Shared) (H : Hp) (genv : PySem.Env) (fp : List Addr), genv.scope = scope → PTs (cxGen X A1 s H genv fp) ifs tt
  pe : ∀ (s : Shared) (H : Hp) (genv : PySem.Env) (fp : List Addr), genv.scope = scope → PE (cxGen X A1 s H genv fp) elt te
section
variable {X : Cx} {pins : List (Addr × Obj)} {σ : L2.St} {A1 : Around} {own : List (Str × Nat)} {elt tg iter : Expr} {ifs : List Expr} {scope : Scope} {pos : Pos} {J : L2.It} {a : Addr} {H5 : Hp} {s5 : Shared} {g : TG} {tt : TT} {te : TE} {K : GK} {Qe : Hp → Prop}
theorem wipe_self (σ : L2.St) (vs : List Nat) : wipe (wipe σ vs) vs = wipe σ vs := wipe_wipe fun _ h => h
/-- the generator, woken first -/
theorem GRdy.goes (r : GRdy X A1 pins σ own elt tg iter ifs scope pos J a H5 s5) (hc : X.calm = true) (hco : scope.isCoroutine = false) (B : GBlk X A1 scope tg ifs elt g tt te) :
    ∃ (gn : Nat) (Xg : Cx) (fp : List Addr) (o : Obj), (Xg.prog = X.prog ∧ Xg.w = X.w) ∧ (∀ h : Heap, h.get? a = some o → h.IsGen a gn) ∧ L2.Inv Xg [(a, o)] (wipe σ (own.map (·.2))) H5 s5 ∧ (∀ b ∈ fp, H5 b = none ∧ ∃ u, s5.heap.get? b = some u) ∧
      (∀ H' s', L2.Inv Xg [(a, o)] (wipe σ (own.map (·.2))) H' s' → L2.Inv X pins σ H' s') ∧
      ∀ {K : GK} {Qe : Hp → Prop} {W : Nat → Nat → Hp → Prop}, GTurn J g tt te (own.map (·.2)) (wipe σ (own.map (·.2))) K Qe W → ∀ (m : Nat) (H6 : Hp) (s6 : Shared), W 0 m H6 → s6.gens[gn]? = s5.gens[gn]? → L2.Inv Xg [(a, o)] (wipe σ (own.map (·.2))) H6 s6 → (∀ b ∈ fp, H6 b = none) → (∀ b ∈ fp, ∀ u, s5.heap.get? b = some u → s6.heap.get? b = some u) →
        ∃ gs, s6.gens[gn]? = some gs ∧ gs.Goes (model X.prog X.w) A1 (fun n s₀ r s₁ => r = .ok .next ∧ RG Xg [(a, o)] (wipe σ (own.map (·.2))) Qe n s₀ s₁) (YG Xg [(a, o)] (wipe σ (own.map (·.2))) fp K) (m + 1) (.send .none) (s6.setGen gn .running) := by
  obtain ⟨gn, code, s4, H4, fp, tn, it, o, h1, h2, h3, I, T, st, hn, back⟩ := r.ex
  refine ⟨gn, cxGen X A1 s4 H4 (genEnv scope (cloFrom X.env.cells scope.names []) s4.heap.objs.size code builtinsNs X.env) fp, fp, o, ⟨rfl, rfl⟩, h1, I, fun b hb => ⟨hn b hb, ?_⟩, back, fun {K Qe W} turn m H6 s6 w0 e6 I6 n6 k6 => ⟨_, e6.trans h3, ?_⟩⟩
  · obtain ⟨u, e, _⟩ := T.obj _ _ st b hb
    exact ⟨u, e⟩
  · refine ⟨rfl, ?_⟩
    refine seg_gen0 (Xg := cxGen X A1 s4 H4 (genEnv scope (cloFrom X.env.cells scope.names []) s4.heap.objs.size code builtinsNs X.env) fp) (fp := fp) (tn := tn) rfl hc rfl rfl rfl hco (wipe_self _ _) (fun p hp => ?_) T (B.pg _ _ _ _ rfl) (B.pt _ _ _ _ rfl) (B.pe _ _ _ _ rfl) turn m _ (s6.setGen gn .running) H6 (Inv.gens I6 (allBare_setGen I6.bare rfl)) (T.keep _ _ _ st k6) n6 w0
    rw [List.mem_singleton] at hp
    subst hp
    exact h2
theorem call_any_G {E : Value → Shared → Prop} {Q : VK} {W : Nat → Nat → Hp → Prop} {m : Nat} {k : Nat} (hr : Room k X.A) (r : GRdy X X.A.in1.in1 pins σ own elt tg iter ifs scope pos J a H5 s5) (hc : X.calm = true) (hco : scope.isCoroutine = false) (B : GBlk X X.A.in1.in1 scope tg ifs elt g tt te)
    (turn : GTurn J g tt te (own.map (·.2)) (wipe σ (own.map (·.2))) (kStop true fun H => Q (.bl true) H) (fun H => Q (.bl false) H) W) (w0 : W 0 m H5) : wpAny (model X.prog X.w) X.A (call (.builtin "any") [.ref a]) (EP X pins σ Q) E s5 := by
  obtain ⟨gn, Xg, fp, o, ⟨e1, e2⟩, hg, I, hf, back, go⟩ := r.goes hc hco B
  have pin := I.pin (a, o) (List.mem_append_right _ (by simp))
  refine call_function_tree F.kind_any F.plain_any F.entry_any (F.args_any1 _) ?_
  unfold Builtin.«any»
  refine wpAny_bind (m := oneArg "any" _) (wpAny_pure ?_)
  refine wpAny_bind (wpAny_pyIter_gen (hg _ pin.1) ?_)
  refine wpAny_pure ⟨plainId_quiet F.plain_any_loop _, ?_⟩
  refine loop_gen (Xg := Xg) (pg := [(a, o)]) (σw := wipe σ (own.map (·.2))) (fp := fp) (Qe := fun H => Q (.bl false) H) (Qs := fun H => Q (.bl true) H) "any.loop" true _ e1 e2 hr.hd (by have := hr.dp; omega) hg (by simp) (fun {s} h => ?_) (fun H s I q => ⟨.bl false, H, back H s I, rfl, q⟩) (fun H s I q => ⟨.bl true, H, back H s I, rfl, q⟩) (m + 1) s5 H5 I
    (go turn m H5 s5 w0 rfl I (fun b hb => (hf b hb).1) fun _ _ _ e => e)
  refine codeAny_builtin F.entry_any_loop ?_
  rw [Around.under_plainId F.plain_any_loop _]
  show wpAny _ X.A.in1 (pyNext (.ref a) >>= _) _ _ s
  refine wpAny_bind (wpAny_mono h (fun r s1 h1 => ?_) fun _ _ e => e)
  cases r with
  | none => exact wpAny_bind (wpAny_rule (wpAny_pure h1))
  | some v =>
    obtain ⟨b, rfl, q1, q2⟩ := h1
    refine wpAny_bind (wpAny_holding (wpAny_truthy_bool ?_))
    refine wpAny_bind (wpAny_letGo ?_)
    cases b with
    | false =>
      simp only [Bool.false_eq_true, if_false]
      exact wpAny_pure ⟨plainId_quiet F.plain_any_loop _, q2 rfl⟩
    | true =>
      simp only [if_true]
      exact wpAny_bind (wpAny_rule (wpAny_pure (q1 rfl)))
theorem call_all_G {E : Value → Shared → Prop} {Q : VK} {W : Nat → Nat → Hp → Prop} {m : Nat} {k : Nat} (hr : Room k X.A) (r : GRdy X X.A.in1.in1 pins σ own elt tg iter ifs scope pos J a H5 s5) (hc : X.calm = true) (hco : scope.isCoroutine = false) (B : GBlk X X.A.in1.in1 scope tg ifs elt g tt te)
    (turn : GTurn J g tt te (own.map (·.2)) (wipe σ (own.map (·.2))) (kStop false fun H => Q (.bl false) H) (fun H => Q (.bl true) H) W) (w0 : W 0 m H5) : wpAny (model X.prog X.w) X.A (call (.builtin "all") [.ref a]) (EP X pins σ Q) E s5 := by
  obtain ⟨gn, Xg, fp, o, ⟨e1, e2⟩, hg, I, hf, back, go⟩ := r.goes hc hco B
  have pin := I.pin (a, o) (List.mem_append_right _ (by simp))
  refine call_function_tree F.kind_all F.plain_all F.entry_all (F.args_all1 _) ?_
  unfold Builtin.«all»
  refine wpAny_bind (m := oneArg "all" _) (wpAny_pure ?_)
  refine wpAny_bind (wpAny_pyIter_gen (hg _ pin.1) ?_)
  refine wpAny_pure ⟨plainId_quiet F.plain_all_loop _, ?_⟩
  refine loop_gen (Xg := Xg) (pg := [(a, o)]) (σw := wipe σ (own.map (·.2))) (fp := fp) (Qe := fun H => Q (.bl true) H) (Qs := fun H => Q (.bl false) H) "all.loop" false _ e1 e2 hr.hd (by have := hr.dp; omega) hg (by simp) (fun {s} h => ?_) (fun H s I q => ⟨.bl true, H, back H s I, rfl, q⟩) (fun H s I q => ⟨.bl false, H, back H s I, rfl, q⟩) (m + 1) s5 H5 I
    (go turn m H5 s5 w0 rfl I (fun b hb => (hf b hb).1) fun _ _ _ e => e)
  refine codeAny_builtin F.entry_all_loop ?_
  rw [Around.under_plainId F.plain_all_loop _]
  show wpAny _ X.A.in1 (pyNext (.ref a) >>= _) _ _ s
  refine wpAny_bind (wpAny_mono h (fun r s1 h1 => ?_) fun _ _ e => e)
  cases r with
  | none => exact wpAny_bind (wpAny_rule (wpAny_pure h1))
  | some v =>
    obtain ⟨b, rfl, q1, q2⟩ := h1
    refine wpAny_bind (wpAny_holding (wpAny_truthy_bool ?_))
    refine wpAny_bind (wpAny_letGo ?_)
    cases b with
    | true =>
      simp only [if_true]
      exact wpAny_pure ⟨plainId_quiet F.plain_all_loop _, q2 rfl⟩
    | false =>
      simp only [Bool.false_eq_true, if_false]
      exact wpAny_bind (wpAny_rule (wpAny_pure (q1 rfl)))
end
end Eng
/-! Eng.T: tuple of a generator expression. -/
namespace Eng
open PySem PySem.Spec PyProof.Rows L2 GenW

def kApp (S : Addr) : GK := fun y H Nx => ∃ acc, H S = some (.lst acc) ∧ acc.length < sizeLine ∧ Nx (upd H S (.lst (acc ++ [y])))
section
variable {prog : Program} {w : World} {A : Around} {Xg : Cx} {pg : List (Addr × Obj)} {σw : L2.St} {fp : List Addr} {Qe : Hp → Prop} {a S : Addr} {o : Obj} {g : Nat} {res : Value}
/-- an item put behind the tracked list at S -/
theorem inv_push {s : Shared} {H : Hp} {acc : List V} {y : V} {v : Value} (I : L2.Inv Xg pg σw H s) (hS : H S = some (.lst acc)) (hz : acc.length < sizeLine) (rv : RelV y v) :
    L2.Inv Xg pg σw (upd H S (.lst (acc ++ [y]))) { s with heap := s.heap.update S (Obj.mapSeq (·.push v)) } ∧ ∃ (its : Array Value) (n : Nat), its.size = acc.length ∧ s.heap.get? S = some { cls := .type "list", data := .seq its n } := by
  obtain ⟨hz', its, n, ri, e⟩ := I.hok S _ hS
  have hl := ri.length
  have e2 : (s.heap.update S (Obj.mapSeq (·.push v))).get? S = some { cls := .type "list", data := .seq (its.toArray.push v) (n + 1) } := by
    rw [Heap.get?_update_self _ e (by rw [mapSeq_push]; rfl), mapSeq_push]
  refine ⟨I.write (t' := s.toks) (by rw [hS]; trivial) (.inl rfl) (fun b u hb q => (Heap.get?_update_other _ _ (Ne.symm hb)).trans q) ⟨_, e2⟩ ⟨by rw [List.length_append]; exact hz, its ++ [v], n + 1, ri.append (.cons rv .nil), ?_⟩, its.toArray, n, by simp [hl], e⟩
  rw [e2]
  simp
theorem extend_gen (R : Result → Shared → Prop) (hP : Xg.prog = prog) (hw : Xg.w = w) (hh : A.handled = none) (hd : A.depth < recursionLimit) (hg : ∀ h : Heap, h.get? a = some o → h.IsGen a g) (hpg : (a, o) ∈ pg) (hfS : S ∉ fp)
    (hR : ∀ H s, L2.Inv Xg pg σw H s → Qe H → R (.ok (.ret res)) s) :
    ∀ (n : Nat) (s : Shared) (H : Hp), L2.Inv Xg pg σw H s → (∃ acc, H S = some (.lst acc)) →
      (∃ gs, s.gens[g]? = some gs ∧ gs.Goes (model prog w) A.in1.in1 (fun n s₀ r s₁ => r = .ok .next ∧ RG Xg pg σw Qe n s₀ s₁) (YG Xg pg σw fp (kApp S)) n (.send .none) (s.setGen g .running)) →
      codeAny (model prog w) A (.builtin "list.extend.loop" ⟨[.ref S, .ref a, res], []⟩) R s := by
  have nextOk : ∀ {n : Nat} {s : Shared} {H : Hp}, L2.Inv Xg pg σw H s → (∃ gs, s.gens[g]? = some gs ∧ gs.Goes (model prog w) A.in1.in1 (fun n s₀ r s₁ => r = .ok .next ∧ RG Xg pg σw Qe n s₀ s₁) (YG Xg pg σw fp (kApp S)) n (.send .none) (s.setGen g .running)) →
      (∀ n' s2 H2, n' + 1 = n → L2.Inv Xg pg σw H2 s2 → (∃ acc, H2 S = some (.lst acc)) → (∃ gs, s2.gens[g]? = some gs ∧ gs.Goes (model prog w) A.in1.in1 (fun n s₀ r s₁ => r = .ok .next ∧ RG Xg pg σw Qe n s₀ s₁) (YG Xg pg σw fp (kApp S)) n' (.send .none) (s2.setGen g .running)) → codeAny (model prog w) A (.builtin "list.extend.loop" ⟨[.ref S, .ref a, res], []⟩) R s2) →
      codeAny (model prog w) A (.builtin "list.extend.loop" ⟨[.ref S, .ref a, res], []⟩) R s := fun {n s H} I ⟨gs, hgs, hgo⟩ ih => by
    have hgl : g < s.gens.size := (Array.getElem?_eq_some_iff.mp hgs).1
    have pin := I.pin (a, o) (List.mem_append_right _ hpg)
    refine codeAny_builtin F.entry_extend_loop ?_
    rw [Around.under_plainId F.plain_extend_loop _]
    show wpAny _ A.in1 (pyNext (.ref a) >>= _) _ _ s
    refine wpAny_bind (wpAny_gsz (n := g + 1) hgl (wpAny_pyNext_genexpQ (A := A.in1) (P := RG Xg pg σw Qe) hh I.nolimit hd (hg _ pin.1) hgs hgo (fun v s₁ gs' hb hv => ?_) (fun s₁ hp h' hk => ?_)))
    · intro hsz
      obtain ⟨y, H1, Nx, I1, rv, ⟨acc, hS, hz, nx⟩, hn, kap⟩ := hv
      have hsz1 : g < s₁.gens.size := by
        have q : (s₁.setGen g gs').gens.size = s₁.gens.size := setGen_size _ _ _
        have hsz' : g + 1 ≤ (s₁.setGen g gs').gens.size := hsz
        omega
      have I2 : L2.Inv Xg pg σw H1 (s₁.setGen g gs') := Inv.gens I1 (allBare_setGen I1.bare hb)
      obtain ⟨I3, its, nn, hl, e⟩ := inv_push I2 hS hz rv
      have e : (s₁.setGen g gs').heap.get? S = some { cls := .type "list", data := .seq its nn } := e
      show wpAny _ A.in1 (updateSeq S (·.push v) >>= _) _ _ _
      refine wpAny_bind (wpAny_updateSeq e rfl (wpAny_pure ⟨plainId_quiet F.plain_extend_loop _, ?_⟩) (by omega) (by show (its.push v).size ≤ sizeLine + 1; rw [Array.size_push]; omega))
      have n3 : ∀ b ∈ fp, upd H1 S (.lst (acc ++ [y])) b = none := fun b hb => by
        have nb : b ≠ S := fun z => hfS (z ▸ hb)
        rw [upd_ne nb]
        exact hn b hb
      have k3 : ∀ b ∈ fp, ∀ u, s₁.heap.get? b = some u → (s₁.heap.update S (Obj.mapSeq (·.push v))).get? b = some u := fun b hb u q => (Heap.get?_update_other _ _ (Ne.symm (show b ≠ S from fun z => hfS (z ▸ hb)))).trans q
      cases n with
      | zero => exact (kap { s₁.setGen g gs' with heap := s₁.heap.update S (Obj.mapSeq (·.push v)) } _ I3 n3 k3 nx).elim
      | succ n =>
        refine ih n _ _ rfl I3 ⟨_, upd_same⟩ ⟨gs', setGen_at (s := s₁) hsz1, kap _ _ (Inv.gens I3 (allBare_setGen I3.bare rfl)) n3 k3 nx⟩
    · intro hsz
      obtain ⟨H1, I1, q⟩ := hp
      exact wpAny_pure (hR H1 _ ((Inv.gens (g' := (s₁.setGen g .finished).gens) I1 (allBare_setGen I1.bare rfl)).kept hk) q)
  intro n
  induction n with
  | zero => exact fun s H I _ h => nextOk I h fun n' _ _ e => by omega
  | succ n ih => exact fun s H I _ h => nextOk I h fun n' s2 H2 e I2 h3 h2 => ih s2 H2 I2 h3 ((Nat.succ.inj e) ▸ h2)
end
section
variable {prog : Program} {w : World} {A : Around} {E : Value → Shared → Prop} {s : Shared} {a : Addr} {g : Nat}
/-- a new list filled from a generator: its loop -/
theorem collect_gen {Q : List Value → Shared → Prop} (hg : s.heap.IsGen a g)
    (h : ∀ (h' : Heap) (c : Nat), (∀ b o, s.heap.get? b = some o → h'.get? b = some o) → h'.get? s.heap.objs.size = some { cls := .type "list", data := .seq #[] c } →
      codeAny (model prog w) A (.builtin "list.extend.loop" ⟨[.ref s.heap.objs.size, .ref a, .ref s.heap.objs.size], []⟩)
        (fun r s' => r = .ok (.ret (.ref s.heap.objs.size)) ∧ ∃ (its : Array Value) (c : Nat), s'.heap.get? s.heap.objs.size = some { cls := .type "list", data := .seq its c } ∧ Q its.toList s') { s with heap := h' }) :
    wpAny (model prog w) A (collect (.ref a)) Q E s := by
  have hSa : s.heap.objs.size ≠ a := by
    obtain ⟨o, _, _, e, _⟩ := hg
    exact Nat.ne_of_gt (Heap.lt_size e)
  unfold collect
  refine wpAny_bind (wpAny_runValue (codeAny_builtin F.entry_proto_collect ?_))
  rw [Around.under_plainId F.plain_proto_collect _]
  show wpAny _ A.in1 (newList [] >>= fun l => again (.builtin "list.__iadd__" ⟨[l, .ref a], []⟩)) _ _ s
  refine wpAny_bind (wpAny_newObj_type ?_)
  refine wpAny_pure ⟨plainId_quiet F.plain_list_iadd _, codeAny_builtin F.entry_list_iadd ?_⟩
  rw [Around.under_plainId F.plain_list_iadd _]
  show wpAny _ A.in1 (Builtin.List.listExtendWith (.ref s.heap.objs.size) (.ref a) (.ref s.heap.objs.size)) _ _ _
  have hS2 : (s.heap.push { cls := .type "list", data := .seq ([] : List Value).toArray }).get? s.heap.objs.size = some { cls := .type "list", data := .seq #[] 0 } := Heap.get?_push_size _ rfl
  unfold Builtin.List.listExtendWith
  have up : ∀ (h : Heap) (f : Obj → Obj), (∀ b o, s.heap.get? b = some o → h.get? b = some o) → ∀ b o, s.heap.get? b = some o → (h.update s.heap.objs.size f).get? b = some o := fun h f q b o e =>
    (Heap.get?_update_other _ _ (Ne.symm (Nat.ne_of_lt (Heap.lt_size e)))).trans (q b o e)
  have k2 : ∀ b o, s.heap.get? b = some o → (s.heap.push { cls := .type "list", data := .seq ([] : List Value).toArray }).get? b = some o := fun b o e => Heap.get?_push_of_some _ e
  have gty : ∀ {h : Heap}, (∀ b o, s.heap.get? b = some o → h.get? b = some o) → h.IsGen a g := fun {h} q => hg.keeps q
  refine wpAny_bind (wpAny_typeOf (Heap.IsGen.typeIs (s := { s with heap := _ }) (gty k2)) ?_)
  have h1 : Builtin.List.listSameRef (.ref s.heap.objs.size) (.ref a) = false := by simp [Builtin.List.listSameRef, hSa]
  have h2 : (Value.type "generator" == Value.type "list") = false := by decide
  have h3 : (Value.type "generator" == Value.type "tuple") = false := by decide
  simp only [h1, h2, h3, Bool.or_false, Bool.false_eq_true, if_false]
  refine wpAny_bind (wpAny_pyIter_gen (s := { s with heap := _ }) (gty k2) ?_)
  refine wpAny_bind (wpAny_holding ?_)
  unfold Builtin.List.listLengthHint
  refine wpAny_bind (wpAny_specialOf (Heap.IsGen.typeIs (s := { s with heap := _ }) (gty k2)) F.gen_no_len ?_)
  show wpAny _ A.in1 (specialOf (Value.ref a) (Str.ofString "__length_hint__") >>= _) _ _ _
  refine wpAny_bind (wpAny_specialOf (Heap.IsGen.typeIs (s := { s with heap := _ }) (gty k2)) F.gen_no_hint ?_)
  refine wpAny_pure ?_
  show wpAny _ A.in1 (rule "list.extend.makes-room" >>= fun _ => Builtin.List.listTouch (.ref s.heap.objs.size) >>= fun _ =>
    again (.builtin "list.extend.loop" ⟨[.ref s.heap.objs.size, .ref a, .ref s.heap.objs.size], []⟩)) _ _ _
  refine wpAny_bind (wpAny_rule ?_)
  refine wpAny_bind ?_
  show wpAny _ A.in1 (updateSeq s.heap.objs.size (·.push .none) >>= fun _ => updateSeq s.heap.objs.size (·.pop)) _ _ _
  refine wpAny_bind (wpAny_updateSeq hS2 rfl ?_)
  have hS3 := Heap.get?_update_self (Obj.mapSeq (·.push Value.none)) hS2 rfl
  refine wpAny_updateSeq (hz := by seq_fits) hS3 rfl ?_
  have hS4 := Heap.get?_update_self (Obj.mapSeq (·.pop)) hS3 rfl
  have k4 := up _ (Obj.mapSeq (·.pop)) (up _ (Obj.mapSeq (·.push Value.none)) k2)
  refine wpAny_pure ⟨plainId_quiet F.plain_extend_loop _, codeAny_mono (h _ _ k4 hS4) fun rr s'' hr' => ?_⟩
  obtain ⟨rfl, its, c, hS', hq⟩ := hr'
  show wpAny _ A (load s.heap.objs.size >>= _) _ _ _
  exact wpAny_bind (wpAny_load hS' (wpAny_pure hq))
theorem code_tuple_new_gen {Q₁ : Value → Shared → Prop} (hg : s.heap.IsGen a g)
    (h : ∀ (h' : Heap) (c : Nat), (∀ b o, s.heap.get? b = some o → h'.get? b = some o) → h'.get? s.heap.objs.size = some { cls := .type "list", data := .seq #[] c } →
      codeAny (model prog w) A.in1 (.builtin "list.extend.loop" ⟨[.ref s.heap.objs.size, .ref a, .ref s.heap.objs.size], []⟩)
        (fun r s' => r = .ok (.ret (.ref s.heap.objs.size)) ∧ ∃ (its : Array Value) (c : Nat), s'.heap.get? s.heap.objs.size = some { cls := .type "list", data := .seq its c } ∧
          its.size ≤ sizeLine ∧ Q₁ (.ref s'.heap.objs.size) { s' with heap := s'.heap.push { cls := .type "tuple", data := .seq its } }) { s with heap := h' }) :
    codeAny (model prog w) A (.call (.builtin "tuple.__new__") ⟨[.type "tuple", .ref a], []⟩) (wants Q₁ E) s := by
  refine codeAny_of_tree ?_
  show wpAny _ A.in1 (do checkBuiltinCall "tuple.__new__" ⟨[.type "tuple", .ref a], []⟩; again (.builtin "tuple.__new__" ⟨[.type "tuple", .ref a], []⟩)) _ _ s
  refine wpAny_bind (wpAny_of_eq (F.newCall_tuple_1 _) (wpAny_pure ⟨plainId_quiet F.plain_tuple_new _, codeAny_builtin F.entry_tuple_new ?_⟩))
  rw [Around.under_plainId F.plain_tuple_new _]
  have hsub := sub_tuple_self
  have hinit := init_tuple_lookup
  have hmh := madeHere_tuple
  have hTI : s.TypeIs (.ref a) "generator" := hg.typeIs
  wp_walk using wpAny_typeOf hTI, collect_gen (A := A.in1) hg
  intro h' c hk hS
  refine codeAny_mono (h h' c hk hS) fun r s' hr => ?_
  obtain ⟨rfl, its, c', hS', hz, hq⟩ := hr
  refine ⟨rfl, its, c', hS', ?_⟩
  show wpAny _ _ (Builtin.Tuple.tupleExact its.toList.toArray >>= fun v => ret v) _ _ _
  unfold Builtin.Tuple.tupleExact
  refine wpAny_bind (wpAny_newObj_type ?_ (by show its.toList.toArray.size ≤ sizeLine; simp only [Array.toArray_toList]; exact hz))
  refine wpAny_pure ?_
  have e : its.toList.toArray = its := by simp
  rw [e]
  exact hq
theorem call_tuple_gen {Q : Value → Shared → Prop} (hg : s.heap.IsGen a g)
    (h : ∀ (h' : Heap) (c : Nat), (∀ b o, s.heap.get? b = some o → h'.get? b = some o) → h'.get? s.heap.objs.size = some { cls := .type "list", data := .seq #[] c } →
      codeAny (model prog w) A.in1.in1 (.builtin "list.extend.loop" ⟨[.ref s.heap.objs.size, .ref a, .ref s.heap.objs.size], []⟩)
        (fun r s' => r = .ok (.ret (.ref s.heap.objs.size)) ∧ ∃ (its : Array Value) (c : Nat), s'.heap.get? s.heap.objs.size = some { cls := .type "list", data := .seq its c } ∧
          its.size ≤ sizeLine ∧ Q (.ref s'.heap.objs.size) { s' with heap := s'.heap.push { cls := .type "tuple", data := .seq its } }) { s with heap := h' }) :
    wpAny (model prog w) A (call (.type "tuple") [.ref a]) Q E s := by
  refine callType_codes (Q₁ := fun obj s₁ => s₁.TypeIs obj "tuple" ∧ Q obj s₁) F.called_tuple (F.typeCall_tuple_1 _) F.entry_object_init
    (code_tuple_new_gen (A := A.in1) hg fun h' c hk hS => codeAny_mono (h h' c hk hS) fun r s' hr => ?_) fun obj s₁ h₁ => ?_
  · obtain ⟨rfl, its, c', hS', hz, hq⟩ := hr
    exact ⟨rfl, its, c', hS', hz, ⟨_, Heap.get?_push_size _ rfl, rfl⟩, hq⟩
  · exact ⟨h₁.1, F.args_object_init_2 obj _, object_init_meets F.called_tuple.init.lookup F.called_tuple.made (by decide) prog w A.in1 _ s₁ ⟨h₁.1, rfl, h₁.2⟩⟩
end

section
variable {X : Cx} {pins : List (Addr × Obj)} {σ : L2.St} {own : List (Str × Nat)} {elt tg iter : Expr} {ifs : List Expr} {scope : Scope} {pos : Pos} {J : L2.It} {a : Addr} {H5 : Hp} {s5 : Shared} {g : TG} {tt : TT} {te : TE}
theorem call_tuple_G {E : Value → Shared → Prop} {Q : VK} {k : Nat} (hr : Room k X.A) (r : GRdy X X.A.in1.in1.in1.in1 pins σ own elt tg iter ifs scope pos J a H5 s5) (hc : X.calm = true) (hco : scope.isCoroutine = false) (B : GBlk X X.A.in1.in1.in1.in1 scope tg ifs elt g tt te)
    (hq : ∀ S, H5 S = none → ∃ (W : Nat → Nat → Hp → Prop) (m : Nat), W 0 m (upd H5 S (.lst [])) ∧ GTurn J g tt te (own.map (·.2)) (wipe σ (own.map (·.2))) (kApp S) (fun H => ∃ acc, H S = some (.lst acc) ∧ ∀ p, H p = none → Q (.ref p) (upd H p (.tup acc))) W) :
    wpAny (model X.prog X.w) X.A (call (.type "tuple") [.ref a]) (EP X pins σ Q) E s5 := by
  obtain ⟨gn, Xg, fp, o, ⟨e1, e2⟩, hg, I, hf, back, go⟩ := r.goes hc hco B
  have pin := I.pin (a, o) (List.mem_append_right _ (by simp))
  have hS0 : H5 s5.heap.objs.size = none := I.hok.fresh (Nat.le_refl _)
  obtain ⟨W, m, w0, turn⟩ := hq _ hS0
  have hfS : s5.heap.objs.size ∉ fp := fun z => by
    obtain ⟨_, u, e⟩ := hf _ z
    exact Nat.lt_irrefl _ (Heap.lt_size e)
  refine call_tuple_gen (hg _ pin.1) fun h' c hk hS => ?_
  have I6 : L2.Inv Xg [(a, o)] (wipe σ (own.map (·.2))) (upd H5 s5.heap.objs.size (.lst [])) { s5 with heap := h' } :=
    I.laid (t' := s5.toks) hk (Nat.le_refl _) ⟨Nat.zero_le _, [], c, .nil, hS⟩
  refine extend_gen (A := X.A.in1.in1) (Xg := Xg) (pg := [(a, o)]) (σw := wipe σ (own.map (·.2))) (fp := fp) (S := s5.heap.objs.size) (Qe := fun H => ∃ acc, H s5.heap.objs.size = some (.lst acc) ∧ ∀ p, H p = none → Q (.ref p) (upd H p (.tup acc))) _ e1 e2 hr.hd (by have := hr.dp; show X.A.depth < _; omega) hg (by simp) hfS (fun H s I q => ?_) (m + 1) _ _ I6 ⟨_, upd_same⟩
    (go turn m _ _ w0 rfl I6 (fun b hb => ?_) fun b hb u e => hk b u e)
  · obtain ⟨acc, hl, q⟩ := q
    obtain ⟨hz', its, n, ri, e⟩ := I.hok _ _ hl
    have hlen := ri.length
    have I7 := back H s I
    refine ⟨rfl, its.toArray, n, by rw [e], by simp only [List.size_toArray]; omega, ?_⟩
    refine ⟨.ref s.heap.objs.size, _, ?_, rfl, q _ (I.hok.fresh (Nat.le_refl _))⟩
    exact I7.laid (t' := s.toks) (fun b u e => Heap.get?_push_of_some _ e) (Nat.le_refl _) ⟨hz', its, ri, { cls := .type "tuple", data := .seq its.toArray }, Heap.get?_push_size _ rfl, rfl, _, rfl⟩
  · have nb : b ≠ s5.heap.objs.size := fun z => hfS (z ▸ hb)
    rw [upd_ne nb]
    exact (hf b hb).1
end
end Eng
/-! Eng.H4: any, all, tuple of generator expressions, as readings; xs[::-1]. -/
namespace Eng
open PySem PySem.Spec PyProof.Rows L2 GenW

section
variable {G : GP} {H H1 H2 : Hp} {st : Sto} {g g1 g2 : Gh}
theorem SrcD.ext {fr : Bool} {J : L2.It} {xs : List D} (s : SrcD G fr J xs H1 g1) (x : Ext H1 g1 H2 g2) : SrcD G fr J xs H2 g2 := by
  obtain ⟨S, Y, w, stay, yld⟩ := s.ex
  refine ⟨S, Y, w, fun H3 st3 g3 S3 h => stay H3 st3 g3 S3 ?_, fun i H3 v H4 st3 g3 hi S3 hF hA y => yld i H3 v H4 st3 g3 hi S3 (x.f.trans hF) (x.ad.trans hA) y⟩
  cases fr with
  | true => exact x.f.trans h
  | false => exact x.trans h
/-- a def's table of generators' code has grown -/
theorem SR.tabG {Pa : Addr} (S : SR G H st g) (hP : (Pa, none) ∈ G.T) (hu : ∀ q ∈ G.T, q.1 = Pa → q.2 = none) (t : GxR.Tabbed Pa H H2) : SR G H2 st g ∧ Ext H g H2 g := by
  obtain ⟨ps, h0, _⟩ : GxR.TabG H Pa := S.tabs _ hP
  have nt : ∀ b o, H b = some o → isTbl o = false → b ≠ Pa := fun b o e h z => by
    rw [z, h0] at e
    cases e
    cases h
  have kp : ∀ b o, H b = some o → b ≠ Pa → H2 b = some o := fun b o e h => by rw [t.2 b h]; exact e
  refine ⟨⟨fun a o e => ?_, fun a q e => ?_, S.alen, fun k ob e => ?_, fun p hp => ?_⟩, ⟨HLe.refl _, fun _ _ h => .inl h, ALe.refl _, fun _ _ h => h, fun _ _ h => .inl h, fun b o e h _ => kp b o e (nt b o e h), fun b e => ?_⟩⟩
  · obtain ⟨e1, e2, e3⟩ := S.fh a o e
    exact ⟨kp a o e1 (nt a o e1 e3), e2, e3⟩
  · obtain ⟨xs, e1⟩ := S.live a q e
    exact ⟨xs, kp a _ e1 (nt a _ e1 rfl)⟩
  · obtain ⟨a, e1, e2, e3⟩ := S.objs k ob e
    refine ⟨a, e1, e2, ?_⟩
    cases ob with
    | lst l =>
      obtain ⟨vs, e4, e5⟩ := e3
      exact ⟨vs, kp a _ e4 (nt a _ e4 rfl), e5⟩
    | dic _ _ => exact e3
    | ins _ _ => exact e3
  · by_cases hb : p.1 = Pa
    · have e2 := hu p hp hb
      show (match p.2 with | some q' => TabF H2 g.F p.1 q' | none => GxR.TabG H2 p.1)
      rw [e2, hb]
      exact t.1
    · have := S.tabs p hp
      revert this
      cases p.2 with
      | some nm =>
        rintro ⟨qs, h1, h2, h3⟩
        exact ⟨qs, kp _ _ h1 hb, h2, h3⟩
      | none =>
        rintro ⟨qs, h1, h2⟩
        exact ⟨qs, kp _ _ h1 hb, h2⟩
  · by_cases hb : b = Pa
    · rw [hb] at e
      obtain ⟨qs, e1, _⟩ := t.1
      rw [e1] at e
      cases e
    · rw [t.2 b hb] at e
      exact e
end
theorem anyL_cons {stop : Bool} {b : D → Env → Option Env} {c : Env → Sto → R Bool} {f : Env → Sto → R D} {x : D} {xs : List D} {Γ : Env} {st : Sto} {k : Bool} {stF : Sto} (h : anyL stop b c f (x :: xs) Γ st = .ok k stF) :
    ∃ Γ' q st1, b x Γ = some Γ' ∧ c Γ' st = .ok q st1 ∧ if q = true then ∃ t st2, f Γ' st1 = .ok (.bl t) st2 ∧ (if t = stop then k = stop ∧ stF = st2 else anyL stop b c f xs Γ st2 = .ok k stF) else anyL stop b c f xs Γ st1 = .ok k stF := by
  unfold anyL at h
  cases hb : b x Γ with
  | none => rw [hb] at h; cases h
  | some Γ' =>
    rw [hb] at h
    obtain ⟨q, st1, h1, h⟩ := R.bind_ok h
    refine ⟨Γ', q, st1, rfl, h1, ?_⟩
    cases q with
    | false => exact h
    | true =>
      obtain ⟨d, st2, h2, h⟩ := R.bind_ok h
      cases d with
      | bl t =>
        refine ⟨t, st2, h2, ?_⟩
        simp only [] at h
        by_cases e : t = stop
        · rw [if_pos (by rw [e]; exact beq_self_eq_true _)] at h
          rw [if_pos e]
          cases h
          exact ⟨rfl, rfl⟩
        · rw [if_neg (fun z => e (beq_iff_eq.mp z))] at h
          rw [if_neg e]
          exact h
      | _ => cases h
section
variable {G : GP}
theorem any_walk {stop : Bool} {fr : Bool} {J : L2.It} {xs : List D} {H1 : Hp} {g1 : Gh} {p : Pt} {fc : Env → Sto → R Bool} {fe : Env → Sto → R D} {vs : List Nat} {Γ : Env} {σ : L2.St} {st1 stF : Sto} {kF : Bool} {Qs Qe : Hp → Prop} {K : PySem.W.Frag} (hK : K = G.K)
    (S1 : SR G H1 st1 g1) (E1 : ER G Γ σ H1 g1) (src : SrcD G fr J xs H1 g1) (hv : ∀ i ∈ ptVars p, i ∈ vs) (hl : anyL stop (bindP p) fc fe xs (wipeE Γ vs) st1 = .ok kF stF)
    (qs : ∀ H' g', SR G H' stF g' → Ext H1 g1 H' g' → kF = stop → Qs H') (qe : ∀ H' g', SR G H' stF g' → Ext H1 g1 H' g' → kF = !stop → Qe H') :
    ∃ (W : Nat → Nat → Hp → Prop) (m : Nat), W 0 m H1 ∧ GTurn J (gPt K p) (TTv G W0 fc) (TEv G W0 true fe) vs (wipe σ vs) (kStop stop Qs) Qe W := by
  obtain ⟨S, Y, w, stay, yld⟩ := src.ex
  refine ⟨fun i m H2 => m = xs.length - i ∧ i ≤ xs.length ∧ ∃ st2 g2, SR G H2 st2 g2 ∧ Ext H1 g1 H2 g2 ∧ anyL stop (bindP p) fc fe (xs.drop i) (wipeE Γ vs) st2 = .ok kF stF, xs.length, ⟨rfl, Nat.zero_le _, st1, g1, S1, Ext.refl _ _, hl⟩, ?_⟩
  rintro i m H2 ⟨rfl, hi, st2, g2, S2, x2, hcl⟩
  have hS : S H2 := stay H2 st2 g2 S2 (by
    cases fr with
    | true => exact x2.f
    | false => exact x2)
  by_cases hlt : i < xs.length
  · refine .inr ⟨w.goes i H2 hlt hS, fun H' => ∃ st' g', SR G H' st' g' ∧ Ext H1 g1 H' g' ∧ anyL stop (bindP p) fc fe (xs.drop (i + 1)) (wipeE Γ vs) st' = .ok kF stF, fun H' ⟨st', g', s', x', h'⟩ => ⟨xs.length - (i + 1), by omega, rfl, hlt, st', g', s', x', h'⟩, fun x H3 hy => ?_⟩
    obtain ⟨d, g3, hd, S3, x3, rd⟩ := yld i H2 x H3 st2 g2 hlt S2 x2.f x2.ad (w.yields i H2 x H3 hlt hS hy)
    have hxi : xs.drop i = d :: xs.drop (i + 1) := by
      obtain ⟨hlt, e⟩ := List.getElem?_eq_some_iff.mp hd
      rw [List.drop_eq_getElem_cons hlt, e]
    rw [hxi] at hcl
    obtain ⟨Γ', q, st3, hb, hc, hrest⟩ := anyL_cons hcl
    have E3 : ER G (wipeE Γ vs) (wipe σ vs) H3 g3 := (E1.wipe vs).ext (x2.trans x3)
    refine gPt_ok hK S3 p E3 rd hb fun σ' E' hw => ⟨(hw vs hv).trans (wipe_wipe fun i hi => hi), Γ', st2, g3, S3, E', ?_⟩
    rw [hc]
    intro H4 g4 S4 x4
    cases q with
    | false =>
      simp only [Bool.false_eq_true, if_false] at hrest ⊢
      exact ⟨st3, g4, S4, (x2.trans x3).trans x4, hrest⟩
    | true =>
      simp only [if_true] at hrest ⊢
      obtain ⟨t, st4, hf, hrest⟩ := hrest
      refine ⟨Γ', st3, g4, S4, E'.ext x4, ?_⟩
      rw [hf]
      intro H5 g5 S5 x5 v rv
      have xx := ((x2.trans x3).trans x4).trans x5
      refine ⟨t, rv, fun e => ?_, fun e => ?_⟩
      · rw [if_pos e] at hrest
        obtain ⟨e1, e2⟩ := hrest
        subst e2
        exact qs H5 g5 S5 xx e1
      · have ne : t ≠ stop := by rw [e]; cases stop <;> decide
        rw [if_neg ne] at hrest
        exact ⟨st4, g5, S5, xx, hrest⟩
  · have e : i = xs.length := by omega
    subst e
    rw [List.drop_length] at hcl
    cases hcl
    exact .inl ⟨w.stops H2 hS, qe H2 g2 S2 x2 rfl⟩
end
section
variable {G : GP} {P : Prg} {C : Nm} {cs : List CallT} {X : Cx} {N : List Str} {sc : Scope} {W : WX}
theorem room_gen {k : Nat} {A B : Around} {env : PySem.Env} (h : Room (k + 1) A) (hd : B.handled = A.handled) (dp : B.depth = A.depth) (un : B.units ≤ A.units + 8) : Room k (B.deeper env) :=
  ⟨by show B.handled = none; rw [hd]; exact h.hd, by have := h.dp; show B.depth + 1 + 3 * k + 5 < _; omega, by have := h.un; show B.units + 3 + 16 * k + 200 < _; omega⟩
theorem Gd.gen (h : Gd G P C cs X N sc W) {c1 : CallT} {r : List CallT} (hcs : cs = c1 :: r) {A1 : Around} (hd : A1.handled = X.A.handled) (dp : A1.depth = X.A.depth) (un : A1.units ≤ X.A.units + 8) (s : Shared) (H : Hp) (genv : PySem.Env) (fp : List Addr) {scope : Scope} (hsc : genv.scope = scope) :
    Gd G P C.noTb r (cxGen X A1 s H genv fp) N scope W0 := by
  have room := h.room
  rw [hcs] at room
  exact ⟨h.hK, h.calm, takes0, room_gen room hd dp un, h.hN, h.nd, hsc, h.mgn, h.mgc, h.mgt, (fun b e => by cases e), h.c1, (fun _ _ _ _ e => by cases e), (fun j c rest e => h.lmE (j + 1) c rest (by rw [hcs]; exact e)), fun j c rest e => h.mgf (j + 1) c rest (by rw [hcs]; exact e)⟩
/-- what is asked of a generator expression's scope -/
def genB (N : List Str) (sc scope : Scope) (own : List (Str × Nat)) : Bool :=
  blkC N sc scope own && ((scope.names.all fun y => match y.2 with | .cell => false | _ => true) && ((scope.names.lookup (".0" : Str) == some NameKind.local) && !scope.isCoroutine))
theorem genB_ok {N : List Str} {sc scope : Scope} {own : List (Str × Nat)} (h : genB N sc scope own = true) : BlkOk N sc scope own ∧ (∀ y ∈ scope.names, y.2 ≠ .cell) ∧ scope.names.lookup (".0" : Str) = some NameKind.local ∧ scope.isCoroutine = false := by
  unfold genB at h
  simp only [Bool.and_eq_true, List.all_eq_true, beq_iff_eq, Bool.not_eq_true'] at h
  obtain ⟨h1, h2, h3, h4⟩ := h
  refine ⟨blkOk_by h1, fun y hy e => ?_, h3, h4⟩
  have := h2 y hy
  rw [e] at this
  cases this
def plainIter : Expr → Bool
  | .Set _ _ _ => false
  | .List _ _ => false
  | _ => true
theorem genFold_ok {e : Expr} {env : PySem.Env} {x : Value} (h : plainIter e = true) : genFold e env x = pure x := by
  cases e <;> first
    | rfl
    | (cases h; done)
theorem starG {elt : Expr} {cs : List Comprehension} {scope : Scope} {pos : Pos} {env : PySem.Env} : starEach [.GeneratorExp elt cs scope pos] env = (false, eval (.GeneratorExp elt cs scope pos) env) :: starEach [] env := star_1 rfl
/-- what a generator's walk reads -/
abbrev genR (α : Type) (fi : Env → Sto → R (List D)) (k : List D → Env → Sto → R α) (z : α → D) : Env → Sto → R D := fun Γ st => (fi Γ st).bind fun xs st1 => ((k xs Γ st1).noEr).bind fun b st2 => if bigOk xs then .ok (z b) st2 else .bad
section
variable {fr : Bool} {elt tg iter : Expr} {ifs : List Expr} {scope : Scope} {own : List (Str × Nat)} {pos gpos p : Pos} {pt : Pt} {fi : Env → Sto → R (List D)} {fc : Env → Sto → R Bool} {fe : Env → Sto → R D}
theorem stop_E (h : Gd G P C cs X N sc W) {c1 : CallT} {r : List CallT} (hcs : cs = c1 :: r) (htb : C.tb = some false) (hb : genB N sc scope own = true) (hp : mtP N scope scope pt tg = true) (hv : ∀ i ∈ ptVars pt, i ∈ own.map (·.2)) (hs : plainIter iter = true) (hi : PI X tg iter (TIv G W fr fi))
    (ht : ∀ X', Gd G P C.noTb r X' N scope W0 → PTs X' ifs (TTv G W0 fc)) (he : ∀ X', Gd G P C.noTb r X' N scope W0 → PE X' elt (TEv G W0 true fe)) (stop : Bool) (nm : String) {pins : List (Addr × Obj)} {s : Shared} {σ : L2.St} {H : Hp} {Q : VK} {s' : Bool} (I : L2.Inv X pins σ H s)
    (hw : TEv G W s' (genR Bool fi (fun xs Γ st1 => anyL stop (bindP pt) fc fe xs (wipeE Γ (own.map (·.2))) st1) .bl) σ H Q)
    (call_ : ∀ (J : L2.It) (a : Addr) (H5 : Hp) (s5 : Shared) (W' : Nat → Nat → Hp → Prop) (m : Nat), GRdy X X.A.in1.in1 pins σ own elt tg iter ifs scope gpos J a H5 s5 → GBlk X X.A.in1.in1 scope tg ifs elt (gPt X.K pt) (TTv G W0 fc) (TEv G W0 true fe) →
      GTurn J (gPt X.K pt) (TTv G W0 fc) (TEv G W0 true fe) (own.map (·.2)) (wipe σ (own.map (·.2))) (kStop stop fun H => Q (.bl stop) H) (fun H => Q (.bl (!stop)) H) W' → W' 0 m H5 → wpAny (model X.prog X.w) X.A (call (.builtin nm) [.ref a]) (EP X pins σ Q) X.xe s5) :
    wpAny (model X.prog X.w) X.A (eval (.GeneratorExp elt [⟨tg, iter, ifs, 0⟩] scope gpos) X.env) (fun v s1 => wpAny (model X.prog X.w) X.A (call (.builtin nm) [v]) (EP X pins σ Q) X.xe s1) X.xe s := by
  obtain ⟨ok, hcell, hdot, hco⟩ := genB_ok hb
  obtain ⟨c, Pa, TB, hcode, hmem, hun⟩ := h.tbl false htb
  simp only [Bool.false_eq_true, if_false] at hmem hun
  have un2 : X.A.in1.in1.units ≤ X.A.units + 8 := by show X.A.units + 1 + 1 ≤ _; omega
  have B : GBlk X X.A.in1.in1 scope tg ifs elt (gPt X.K pt) (TTv G W0 fc) (TEv G W0 true fe) := by
    refine ⟨fun s H genv fp e => ?_, fun s H genv fp e => ht _ (h.gen hcs (A1 := X.A.in1.in1) rfl rfl un2 s H genv fp e), fun s H genv fp e => he _ (h.gen hcs (A1 := X.A.in1.in1) rfl rfl un2 s H genv fp e)⟩
    have b := h.gen hcs (A1 := X.A.in1.in1) rfl rfl un2 s H genv fp e
    exact pg_P (X := cxGen X X.A.in1.in1 s H genv fp) b.hN b.nd b.hsc (fun x e => (hcell _ (PySem.mem_of_lookup e) rfl).elim) b.calm hp
  obtain ⟨Γ, st, g, S, E, w⟩ := hw
  refine gen_mk (A1 := X.A.in1.in1) h.room TB hcode I (by rw [h.hN, h.hsc]; exact ok) hcell hdot hco (by rw [h.hN]; exact h.nd) (fun _ => h.room.hd) rfl (fun v => genFold_ok hs) hi (RR := fun J H5 => ∃ (W' : Nat → Nat → Hp → Prop) (m : Nat), W' 0 m H5 ∧ GTurn J (gPt X.K pt) (TTv G W0 fc) (TEv G W0 true fe) (own.map (·.2)) (wipe σ (own.map (·.2))) (kStop stop fun H => Q (.bl stop) H) (fun H => Q (.bl (!stop)) H) W') ?_ fun J H5 a s5 ⟨W', m, w0, turn⟩ rdy => call_ J a H5 s5 W' m rdy B turn w0
  refine ⟨Γ, st, g, S, E, w.bind.imp fun xs st1 H1 g1 S1 x1 w1 J src => ⟨S1.tabs _ hmem, fun H2 htab => ?_⟩⟩
  obtain ⟨S2, x2⟩ := S1.tabG hmem hun htab
  dsimp only at w1
  cases hc : anyL stop (bindP pt) fc fe xs (wipeE Γ (own.map (·.2))) st1 with
  | ok kF stF =>
    rw [hc] at w1
    have w1 : Wp G (Eσ W σ) (if bigOk xs = true then R.ok (D.bl kF) stF else R.bad) H1 g1 _ := w1
    by_cases hb : bigOk xs = true
    · rw [if_pos hb] at w1
      refine any_walk h.hK S2 ((E.ext x1).ext x2) (src.ext x2) hv hc (fun H' g' S' x' e => ?_) (fun H' g' S' x' e => ?_)
      · rw [← e]
        exact w1 H' g' S' (x2.trans x') _ (Rx.weak rfl)
      · rw [← e]
        exact w1 H' g' S' (x2.trans x') _ (Rx.weak rfl)
    · rw [if_neg hb] at w1
      exact w1.elim
  | er c s => rw [hc] at w1; exact w1.elim
  | bad => rw [hc] at w1; exact w1.elim
theorem boot_all' : bootBuiltins "all" = some (.builtin "all") := by decide +kernel
theorem any_E (h : Gd G P C cs X N sc W) {c1 : CallT} {r : List CallT} (hcs : cs = c1 :: r) (htb : C.tb = some false) (hgl : glB sc "any" = true) (hb : genB N sc scope own = true) (hp : mtP N scope scope pt tg = true) (hv : ∀ i ∈ ptVars pt, i ∈ own.map (·.2)) (hs : plainIter iter = true) (hi : PI X tg iter (TIv G W fr fi))
    (ht : ∀ X', Gd G P C.noTb r X' N scope W0 → PTs X' ifs (TTv G W0 fc)) (he : ∀ X', Gd G P C.noTb r X' N scope W0 → PE X' elt (TEv G W0 true fe)) :
    PE X (.Call (.Name "any" p) [.GeneratorExp elt [⟨tg, iter, ifs, 0⟩] scope gpos] [] pos) (TEv G W true (genR Bool fi (fun xs Γ st1 => anyL true (bindP pt) fc fe xs (wipeE Γ (own.map (·.2))) st1) .bl)) := by
  obtain ⟨g1, g2⟩ := gl_of h hgl
  refine ⟨fun pins s σ H Q I hw => ?_⟩
  refine wpAny_Call_Name_kw (ld_blt I g1 (h.mgn _ (by decide)) boot_any ?_)
  refine PyProof.Rows.callWith_builtin1 ?_ starG (by rfl)
  rw [starG]
  show wpAny _ _ (spliced ((false, eval (.GeneratorExp elt [⟨tg, iter, ifs, 0⟩] scope gpos) X.env) :: backTo pos (starEach [] X.env))) _ _ s
  refine Calls.spliced_cons (thn (stop_E h hcs htb hb hp hv hs hi ht he true "any" I hw fun J a H5 s5 W' m rdy B turn w0 => call_any_G h.room rdy h.calm (genB_ok hb).2.2.2 B turn w0) fun v s1 hq => Calls.spliced_nil hq)
theorem all_E (h : Gd G P C cs X N sc W) {c1 : CallT} {r : List CallT} (hcs : cs = c1 :: r) (htb : C.tb = some false) (hgl : glB sc "all" = true) (hb : genB N sc scope own = true) (hp : mtP N scope scope pt tg = true) (hv : ∀ i ∈ ptVars pt, i ∈ own.map (·.2)) (hs : plainIter iter = true) (hi : PI X tg iter (TIv G W fr fi))
    (ht : ∀ X', Gd G P C.noTb r X' N scope W0 → PTs X' ifs (TTv G W0 fc)) (he : ∀ X', Gd G P C.noTb r X' N scope W0 → PE X' elt (TEv G W0 true fe)) :
    PE X (.Call (.Name "all" p) [.GeneratorExp elt [⟨tg, iter, ifs, 0⟩] scope gpos] [] pos) (TEv G W true (genR Bool fi (fun xs Γ st1 => anyL false (bindP pt) fc fe xs (wipeE Γ (own.map (·.2))) st1) .bl)) := by
  obtain ⟨g1, g2⟩ := gl_of h hgl
  refine ⟨fun pins s σ H Q I hw => ?_⟩
  refine wpAny_Call_Name_kw (ld_blt I g1 (h.mgn _ (by decide)) boot_all' ?_)
  refine PyProof.Rows.callWith_builtin1 ?_ starG (by rfl)
  rw [starG]
  show wpAny _ _ (spliced ((false, eval (.GeneratorExp elt [⟨tg, iter, ifs, 0⟩] scope gpos) X.env) :: backTo pos (starEach [] X.env))) _ _ s
  refine Calls.spliced_cons (thn (stop_E h hcs htb hb hp hv hs hi ht he false "all" I hw fun J a H5 s5 W' m rdy B turn w0 => call_all_G h.room rdy h.calm (genB_ok hb).2.2.2 B turn w0) fun v s1 hq => Calls.spliced_nil hq)
theorem tupG_E (h : Gd G P C cs X N sc W) {c1 : CallT} {r : List CallT} (hcs : cs = c1 :: r) (htb : C.tb = some false) (hgl : glB sc "tuple" = true) (hb : genB N sc scope own = true) (hp : mtP N scope scope pt tg = true) (hv : ∀ i ∈ ptVars pt, i ∈ own.map (·.2)) (hs : plainIter iter = true) (hi : PI X tg iter (TIv G W fr fi))
    (ht : ∀ X', Gd G P C.noTb r X' N scope W0 → PTs X' ifs (TTv G W0 fc)) (he : ∀ X', Gd G P C.noTb r X' N scope W0 → PE X' elt (TEv G W0 true fe)) :
    PE X (.Call (.Name "tuple" p) [.GeneratorExp elt [⟨tg, iter, ifs, 0⟩] scope gpos] [] pos) (TEv G W true (genR (List D) fi (fun xs Γ st1 => compL (bindP pt) fc fe xs (wipeE Γ (own.map (·.2))) st1) .tup)) := by
  obtain ⟨g1, g2⟩ := gl_of h hgl
  obtain ⟨ok, hcell, hdot, hco⟩ := genB_ok hb
  obtain ⟨c, Pa, TB, hcode, hmem, hun⟩ := h.tbl false htb
  simp only [Bool.false_eq_true, if_false] at hmem hun
  have un4 : X.A.in1.in1.in1.in1.units ≤ X.A.units + 8 := by show X.A.units + 1 + 1 + 1 + 1 ≤ _; omega
  have B : GBlk X X.A.in1.in1.in1.in1 scope tg ifs elt (gPt X.K pt) (TTv G W0 fc) (TEv G W0 true fe) := by
    refine ⟨fun s H genv fp e => ?_, fun s H genv fp e => ht _ (h.gen hcs (A1 := X.A.in1.in1.in1.in1) rfl rfl un4 s H genv fp e), fun s H genv fp e => he _ (h.gen hcs (A1 := X.A.in1.in1.in1.in1) rfl rfl un4 s H genv fp e)⟩
    have b := h.gen hcs (A1 := X.A.in1.in1.in1.in1) rfl rfl un4 s H genv fp e
    exact pg_P (X := cxGen X X.A.in1.in1.in1.in1 s H genv fp) b.hN b.nd b.hsc (fun x e => (hcell _ (PySem.mem_of_lookup e) rfl).elim) b.calm hp
  refine ⟨fun pins s σ H Q I hw => ?_⟩
  refine wpAny_Call_Name_kw (ld_blt I g1 (h.mgn _ (by decide)) boot_tuple ?_)
  refine PyProof.Rows.callWith_type1 ?_ starG (by rfl)
  rw [starG]
  show wpAny _ _ (spliced ((false, eval (.GeneratorExp elt [⟨tg, iter, ifs, 0⟩] scope gpos) X.env) :: backTo pos (starEach [] X.env))) _ _ s
  obtain ⟨Γ, st, g, S, E, w⟩ := hw
  refine Calls.spliced_cons (gen_mk (A1 := X.A.in1.in1.in1.in1) h.room TB hcode I (by rw [h.hN, h.hsc]; exact ok) hcell hdot hco (by rw [h.hN]; exact h.nd) (fun _ => h.room.hd) rfl (fun v => genFold_ok hs) hi (RR := fun J H5 => ∀ S, H5 S = none → ∃ (W' : Nat → Nat → Hp → Prop) (m : Nat), W' 0 m (upd H5 S (.lst [])) ∧ GTurn J (gPt X.K pt) (TTv G W0 fc) (TEv G W0 true fe) (own.map (·.2)) (wipe σ (own.map (·.2))) (kApp S) (fun H => ∃ acc, H S = some (.lst acc) ∧ ∀ p, H p = none → Q (.ref p) (upd H p (.tup acc))) W') ?_ fun J H5 a s5 hq rdy => Calls.spliced_nil (call_tuple_G h.room rdy h.calm hco B hq))
  refine ⟨Γ, st, g, S, E, w.bind.imp fun xs st1 H1 g1 S1 x1 w1 J src => ⟨S1.tabs _ hmem, fun H2 htab Da hD => ?_⟩⟩
  obtain ⟨S2, x2⟩ := S1.tabG hmem hun htab
  dsimp only at w1
  cases hc : compL (bindP pt) fc fe xs (wipeE Γ (own.map (·.2))) st1 with
  | ok lF stF =>
    rw [hc] at w1
    have w1 : Wp G (Eσ W σ) (if bigOk xs = true then R.ok (D.tup lF) stF else R.bad) H1 g1 _ := w1
    by_cases hb : bigOk xs = true
    · rw [if_pos hb] at w1
      have fin : ∀ H' g' acc, SR G H' stF g' → Ext H2 g1 H' g' → Rps G g'.F g'.ad lF acc → ∀ p, H' p = none → Q (.ref p) (upd H' p (.tup acc)) := fun H' g' acc S' x' ra p hp => by
        have f := S'.freeze (o := .tup acc) hp rfl
        exact w1 _ _ f.1 ((x2.trans x').trans f.2) _ (rp_new_tup S' hp ra)
      obtain ⟨W', ⟨m, w0⟩, turn⟩ := comp_walk (Q := fun v H' => ∃ acc, v = .ref Da ∧ H' Da = some (.lst acc) ∧ ∀ p, H' p = none → Q (.ref p) (upd H' p (.tup acc))) h.hK S2 ((E.ext x1).ext x2) (src.ext x2) hv hc hb Da hD (fun H' g' acc S' x' hDa hF hM ra => ⟨acc, rfl, hDa, fin H' g' acc S' x' ra⟩)
      refine ⟨W', m, w0, fun i m H w => ?_⟩
      rcases turn i m H w with ⟨a1, acc, _, a2, a3⟩ | a
      · exact .inl ⟨a1, acc, a2, a3⟩
      · exact .inr a
    · rw [if_neg hb] at w1
      exact w1.elim
  | er c s => rw [hc] at w1; exact w1.elim
  | bad => rw [hc] at w1; exact w1.elim
end
end

/-! ### xs[::-1] -/
section
variable {prog : Program} {w : World} {A : Around} {E : Value → Shared → Prop} {s : Shared}
theorem rev_pick (its : List Value) : ((List.range its.length).filterMap fun (k : Nat) => its.toArray[(((its.length : Int) - 1) + (k : Int) * (-1)).toNat]?).toArray = its.reverse.toArray := by
  congr 1
  apply List.ext_getElem?
  intro i
  have e : (fun (k : Nat) => its.toArray[(((its.length : Int) - 1) + (k : Int) * (-1)).toNat]?) = fun k => its[its.length - 1 - k]? := by
    funext k
    rw [List.getElem?_toArray]
    congr 1
    omega
  rw [e]
  have e2 : (List.range its.length).filterMap (fun k => its[its.length - 1 - k]?) = (List.range its.length).map (fun k => its.getD (its.length - 1 - k) .none) := by
    have gen : ∀ (l : List Nat), (∀ k ∈ l, k < its.length) → l.filterMap (fun k => its[its.length - 1 - k]?) = l.map (fun k => its.getD (its.length - 1 - k) .none) := by
      intro l
      induction l with
      | nil => intro _; rfl
      | cons k l ih =>
        intro hl
        have hk : k < its.length := hl k (by simp)
        have h2 : its.length - 1 - k < its.length := by omega
        rw [List.filterMap_cons, List.map_cons, ih fun x hx => hl x (by simp [hx])]
        simp [h2]
    exact gen _ fun k hk => List.mem_range.mp hk
  rw [e2, List.getElem?_map]
  by_cases hi : i < its.length
  · have h2 : its.length - 1 - i < its.length := by omega
    rw [List.getElem?_range hi, List.getElem?_reverse hi]
    simp [h2]
  · rw [List.getElem?_eq_none (by simpa using hi), List.getElem?_eq_none (by simpa using hi)]
    rfl
theorem getItem_tuple_rev {t sl : Addr} {its : List Value} {vl vu vs : Value} {Q : Value → Shared → Prop} (ht : IsTup s.heap t its.toArray) (hs : s.heap.IsSliceOf sl vl vu vs) (pl : IsPart vl none) (pu : IsPart vu none) (ps : IsPart vs (some (-1)))
    (h : Q (.ref s.heap.objs.size) { s with heap := s.heap.push { cls := .type "tuple", data := .seq its.reverse.toArray } })
    (hsz : its.length ≤ sizeLine) : wpAny (model prog w) A (getItem (.ref t) (.ref sl)) Q E s := by
  obtain ⟨os, hos, hcs, hds⟩ := id hs
  have hTs : s.TypeIs (.ref sl) "slice" := ⟨os, hos, hcs⟩
  cases pl
  cases pu
  cases ps with
  | int _ tk =>
  have htake : sizeOk (.seq its.reverse.toArray) := by
    show its.reverse.toArray.size ≤ sizeLine
    rw [List.size_toArray, List.length_reverse]
    exact hsz
  unfold getItem
  try with_reducible refine wpAny_holding ?_
  first | refine wpAny_bind (wpAny_pure ?_) | skip
  refine wpAny_bind (wpAny_sequenceKey ht.typeIs (by decide) ?_)
  refine wpAny_bind (wpAny_callSpecial?_slot (name := Str.ofString "__getitem__") ht.typeIs PyProof.Rows.slot_tuple_getitem
    (wpAny_call_entry PyProof.Rows.slot_tuple_getitem ht.typeIs entry_tuple_getitem ?_ (args_tuple_getitem _ _)))
  show wpAny _ _ (Builtin.Tuple.tupleItemsOf (.ref t) >>= _) _ _ s
  refine wpAny_bind (tupleItemsOf_ ht ?_)
  refine wpAny_bind (wpAny_typeOf hTs ?_)
  rw [if_pos (by decide)]
  refine wpAny_bind ?_
  have ap : ∀ {Q' : Int × Int × Nat → Shared → Prop}, Q' ((its.length : Int) - 1, -1, its.length) s → wpAny (model prog w) A.in1 (Builtin.Slice.sliceApplied (.ref sl) (pure (its.toArray.size : Int))) Q' E s := fun {Q'} hq => by
    unfold Builtin.Slice.sliceApplied Builtin.Slice.sliceFields
    refine wpAny_bind (wpAny_bind (wpAny_field hos hds (x := .none) rfl (wpAny_bind (wpAny_field hos hds (x := .none) rfl (wpAny_bind (wpAny_field hos hds (x := .int (-1) tk) rfl (wpAny_pure ?_)))))))
    refine wpAny_bind (slicePart_int ?_)
    show wpAny _ _ (if ((-1 : Int) == 0) = true then _ else _) _ _ s
    rw [if_neg (by decide)]
    refine wpAny_bind (slicePart_none (wpAny_bind (slicePart_none (wpAny_bind (wpAny_pure ?_)))))
    have e1 : Builtin.Slice.sliceAdjust none none (-1) (its.toArray.size : Int) = ((its.length : Int) - 1, -1) := by
      unfold Builtin.Slice.sliceAdjust
      simp
    have e2 : Builtin.Slice.slicePlaces ((its.length : Int) - 1) (-1) (-1) = its.length := by
      unfold Builtin.Slice.slicePlaces
      rw [if_neg (by decide)]
      split
      · rw [show -(-1 : Int) = 1 from rfl, Int.ediv_one]
        omega
      · omega
    show wpAny _ _ (match Builtin.Slice.sliceAdjust none none (-1) (its.toArray.size : Int) with | (lo, hi) => pure (lo, (-1 : Int), Builtin.Slice.slicePlaces lo hi (-1))) _ _ s
    rw [e1]
    show wpAny _ _ (pure ((its.length : Int) - 1, (-1 : Int), Builtin.Slice.slicePlaces ((its.length : Int) - 1) (-1) (-1))) _ _ s
    rw [e2]
    exact wpAny_pure hq
  refine ap ?_
  have hno : ¬ ((((its.length : Int) - 1) == 0 && (-1 : Int) == 1 && its.length == its.toArray.size) = true) := by
    rw [show ((-1 : Int) == 1) = false from rfl, Bool.and_false, Bool.false_and]
    exact Bool.false_ne_true
  show wpAny _ _ (if ((((its.length : Int) - 1) == 0 && (-1 : Int) == 1 && its.length == its.toArray.size) = true) then _ else _) _ _ s
  rw [if_neg hno, rev_pick]
  first
    | exact wpAny_bind (m := Builtin.Tuple.tupleExact _) (wpAny_newObj_type (wpAny_pure ⟨_, rfl, wpAny_pure h⟩) htake)
    | exact wpAny_bind (m := Builtin.Tuple.tupleExact _) (wpAny_newObj_type (wpAny_bind (wpAny_pure (wpAny_pure ⟨_, rfl, wpAny_pure h⟩))) htake)
    | exact wpAny_bind (wpAny_bind (m := Builtin.Tuple.tupleExact _) (wpAny_newObj_type (wpAny_pure (wpAny_pure ⟨_, rfl, wpAny_pure h⟩)) htake))
    | exact wpAny_bind (wpAny_bind (m := Builtin.Tuple.tupleExact _) (wpAny_newObj_type (wpAny_pure ⟨_, rfl, wpAny_pure h⟩) htake))
end
def isM1 : Expr → Bool
  | .UnaryOp .USub (.Constant (.int i) _ _) _ => i == 1
  | _ => false
section
variable {G : GP} {P : Prg} {C : Nm} {cs : List CallT} {X : Cx} {N : List Str} {sc : Scope} {W : WX}
theorem rev_E (h : Gd G P C cs X N sc W) {e st : Expr} {p3 pos : Pos} {f : Env → Sto → R D} (hm : isM1 st = true) (he : PE X e (TEv G W false f)) :
    PE X (.Subscript e (.Slice none none (some st) p3) pos) (TEv G W true fun Γ st => (f Γ st).bind fun x st1 => ofO (revV x) st1) := by
  unfold isM1 at hm
  split at hm
  · rename_i i k p1 p2
    rw [beq_iff_eq] at hm
    subst hm
    refine ⟨fun pins s σ H Q I hw => ?_⟩
    obtain ⟨Γ, st, g, S, E, w⟩ := hw
    refine Subscript_ (thn (he.run pins s σ H (fun v H1 => ∃ d st1 g1 z, SR G H1 st1 g1 ∧ Ru G g1 H1 d v ∧ revV d = some z ∧ ∀ u H' g', SR G H' st1 g' → Ext H1 g1 H' g' → Rp G g'.F g'.ad z u → Q u H') I ⟨Γ, st, g, S, E, w.bind.imp fun d st1 H1 g1 S1 x1 w1 v r => ?_⟩) fun v s1 ⟨x, H1, I1, r1, d, st1, g1, z, S1, hd, hz, q⟩ => ?_)
    · obtain ⟨z, hz, w2⟩ := w1.ofO
      exact ⟨d, st1, g1, z, S1, r, hz, fun u H' g' S' x' rr => w2 H' g' S' x' u (Rx.weak rr)⟩
    have hst : PO X (some (.UnaryOp .USub (.Constant (.int 1) k p1) p2)) (tPart (tUn (rU fun i => .int (-i)) (tC (.int 1)))) := po_some (pe_un un_neg pe_int)
    refine wpAny_Slice (thn (po_none.run pins s1 σ H1 (fun o H2 => o = none ∧ H2 = H1) I1 ⟨rfl, rfl⟩) fun vl s2 ⟨l, H2, I2, pl, el, e2⟩ => ?_)
    subst el e2
    refine thn (po_none.run pins s2 σ H2 (fun o H3 => o = none ∧ H3 = H2) I2 ⟨rfl, rfl⟩) fun vu s3 ⟨u, H3, I3, pu, eu, e3⟩ => ?_
    subst eu e3
    refine thn (hst.run pins s3 σ H3 (fun o H4 => o = some (-1) ∧ H4 = H3) I3 ⟨1, rfl, -1, rfl, rfl, rfl⟩) fun vs s4 ⟨o, H4, I4, ps, eo, e4⟩ => ?_
    subst eo e4
    have I5 : L2.Inv X pins σ H4 { s4 with heap := s4.heap.push { cls := .type "slice", data := .fields #[vl, vu, vs] } } := I4.kept (t' := s4.toks) fun b ob q => Heap.get?_push_of_some _ q
    cases d with
    | lst l =>
      cases hz
      obtain ⟨a, xs, rfl, hx, rr⟩ := hd.lst S1
      cases r1
      obtain ⟨its, r, ht, hzz⟩ := I5.list (.inl (.inl hx))
      have hlen := r.length
      show wpAny (model X.prog X.w) X.A (subscriptTail e (.Slice none none (some (.UnaryOp .USub (.Constant (.int 1) k p1) p2)) p3) (.ref a) (.ref s4.heap.objs.size)) (EP X pins σ Q) X.xe { s4 with heap := s4.heap.push { cls := .type "slice", data := .fields #[vl, vu, vs] } }
      refine tail_any (ops := [.ref a, .ref s4.heap.objs.size]) ht.isList.typeIs (PySem.slot_list_getitem.lookup) ?_ (by with_unfolding_all rfl)
      refine wpAny_getItem_list_slice ht.isList (Heap.IsSliceOf.new _ vl vu vs) pl pu ps (by decide) ?_ (by rw [List.size_toArray]; omega)
      rw [PySem.W.krv_pick]
      have hn := I5.hok.fresh (Nat.le_refl _)
      have ff := S1.freeze (o := .lst xs.reverse) hn rfl
      refine ⟨.ref _, _, I5.laid (t' := s4.toks) (o := .lst xs.reverse) (fun b ob q => Heap.get?_push_of_some _ q) (Nat.le_refl _) ?_, rfl, q _ _ _ ff.1 ff.2 (rp_new_lst S1 hn rr.rev)⟩
      exact ⟨by rw [List.length_reverse]; exact hzz, _, 0, r.reverse, Heap.get?_push_size _ rfl⟩
    | tup l =>
      cases hz
      rcases hd with ⟨a, xs, rfl, hx, rr⟩ | ⟨_, _, _, _, zz, _⟩
      · cases r1
        obtain ⟨its, r, ht, hzz⟩ := I5.tuple (by rw [h.hK]; exact S1.hle.sqT hx)
        have hlen := r.length
        show wpAny (model X.prog X.w) X.A (subscriptTail e (.Slice none none (some (.UnaryOp .USub (.Constant (.int 1) k p1) p2)) p3) (.ref a) (.ref s4.heap.objs.size)) (EP X pins σ Q) X.xe { s4 with heap := s4.heap.push { cls := .type "slice", data := .fields #[vl, vu, vs] } }
        refine tail_any (ops := [.ref a, .ref s4.heap.objs.size]) ht.typeIs (PyProof.Rows.slot_tuple_getitem.lookup) ?_ (by with_unfolding_all rfl)
        refine getItem_tuple_rev ht (Heap.IsSliceOf.new _ vl vu vs) pl pu ps ?_ (by omega)
        have hn := I5.hok.fresh (Nat.le_refl _)
        have ff := S1.freeze (o := .tup xs.reverse) hn rfl
        refine ⟨.ref _, _, I5.laid (t' := s4.toks) (o := .tup xs.reverse) (fun b ob q => Heap.get?_push_of_some _ q) (Nat.le_refl _) ?_, rfl, q _ _ _ ff.1 ff.2 (rp_new_tup S1 hn rr.rev)⟩
        exact ⟨by rw [List.length_reverse]; exact hzz, _, r.reverse, _, Heap.get?_push_size _ rfl, rfl, _, rfl⟩
      · cases zz
    | _ => cases hz
  · cases hm
end
end Eng
/-! Eng.I: is a written expression the given one; the evaluator's word holds of it. -/
namespace Eng
open PySem PySem.Spec PyProof.Rows L2

mutual
/-- never a list that a slot owns -/
def sf : IE → Bool
  | .own _ => false
  | .and es => sfs es
  | .or es => sfs es
  | .ite _ a b => sf a && sf b
  | .told _ e => sf e
  | _ => true
def sfs : IEs → Bool
  | .nil => true
  | .cons e es => sf e && sfs es
end
mutual
/-- may stand as a test -/
def tsOk : IE → Bool
  | .ite _ _ _ => false
  | .not a => tsOk a
  | .and es => tsOks es
  | .or es => tsOks es
  | _ => true
def tsOks : IEs → Bool
  | .nil => true
  | .cons e es => tsOk e && tsOks es
end
def sfI : It → Bool
  | .seq e => sf e
  | .range1 _ => true
  | .range2 _ _ => true
  | .range3 _ _ _ => true
  | .enum a => sf a
  | .zip a b => sf a && sf b
def isTup : Expr → Bool
  | .Tuple _ _ _ => true
  | _ => false
def notSl : Expr → Bool
  | .Slice _ _ _ _ => false
  | _ => true
def kk (b : Bool) (k : Bool) : Bool := b && k
def g1name : G1 → Str
  | .any => "any"
  | .all => "all"
  | .tuple => "tuple"
mutual
def mtE (C : Nm) (N : List Str) (sc : Scope) : IE → Expr → Bool
  | .no, _ => false
  | .non, x => (match x with
    | .Constant .none _ _ => true
    | _ => false)
  | .bl b, x => (match x with
    | .Constant (.bool c) _ _ => b == c
    | _ => false)
  | .int i, x => (match x with
    | .Constant (.int j) _ _ => i == j
    | _ => false)
  | .str s, x => (match x with
    | .Constant (.str t) _ _ => s == t
    | _ => false)
  | .var i, x => (match x with
    | .Name y _ => visB N sc i y
    | _ => false)
  | .own i, x => (match x with
    | .Name y _ => visB N sc i y
    | _ => false)
  | .glob k, x => (match x with
    | .Name y _ => (C.gl[k]? == some y) && glB sc y
    | _ => false)
  | .bop o a b, x => (match x with
    | .BinOp y op z _ => (op == opOf o) && (mtE C N sc a y && mtE C N sc b z)
    | _ => false)
  | .neg a, x => (match x with
    | .UnaryOp .USub y _ => mtE C N sc a y
    | _ => false)
  | .not a, x => (match x with
    | .UnaryOp .Not y _ => mtE C N sc a y
    | _ => false)
  | .cmp o a b, x => (match x with
    | .Compare y [op] [z] _ => (op == copOf o) && (!behindInMarks op z && (mtE C N sc a y && mtE C N sc b z))
    | _ => false)
  | .cmp2 o p a b c, x => (match x with
    | .Compare y [op, op2] [z, t] _ => (op == copOf o) && ((op2 == copOf p) && (!lastMarks [op, op2] [z, t] && (mtE C N sc a y && (mtE C N sc b z && mtE C N sc c t))))
    | _ => false)
  | .and es, x => (match x with
    | .BoolOp .And ys _ => mtEs C N sc es ys
    | _ => false)
  | .or es, x => (match x with
    | .BoolOp .Or ys _ => mtEs C N sc es ys
    | _ => false)
  | .ite c a b, x => (match x with
    | .IfExp t y z _ => tsOk c && (mtE C N sc c t && (mtE C N sc a y && mtE C N sc b z))
    | _ => false)
  | .tup es, x => (match x with
    | .Tuple ys _ _ => sfs es && mtEs C N sc es ys
    | _ => false)
  | .lst es, x => (match x with
    | .List ys _ => sfs es && mtEs C N sc es ys
    | _ => false)
  | .newl es, x => (match x with
    | .List ys _ => sfs es && mtEs C N sc es ys
    | _ => false)
  | .ix a i, x => (match x with
    | .Subscript y z _ => notSl z && (mtE C N sc a y && mtE C N sc i z)
    | _ => false)
  | .sl a lo hi, x => (match x with
    | .Subscript y (.Slice l h none _) _ => mtE C N sc a y && ((match l with
      | none => isNo lo
      | some l => !isNo lo && mtE C N sc lo l) && (match h with
      | none => isNo hi
      | some h => !isNo hi && mtE C N sc hi h))
    | _ => false)
  | .call k es, x => (match x with
    | .Call (.Name y _) zs [] _ => (C.fn[k]? == some y) && (glB sc y && (sfs es && mtEs C N sc es zs))
    | _ => false)
  | .b1 b a, x => (match x with
    | .Call (.Name y _) [z] [] _ => (y == b1name b) && (b1ok b && (glB sc y && (plainE z && mtE C N sc a z)))
    | _ => false)
  | .b2 b a c, x => (match x with
    | .Call (.Name y _) [z, t] [] _ => (y == b2name b) && (glB sc y && (plainE z && (plainE t && (mtE C N sc a z && mtE C N sc c t))))
    | _ => false)
  | .lc vs p it ifs elt, x => (match x with
    | .ListComp y [⟨tg, iter, gs, 0⟩] scope _ => let own := vs.map fun i => (N.getD i "", i)
      blkC N sc scope own && (mtP N (relS scope sc) scope p tg && ((ptVars p).all (vs.contains ·) && (notSet iter && (mtI C N sc it tg iter && (mtIfs C N (relS scope sc) ifs gs && (sf elt && mtE C N (relS scope sc) elt y))))))
    | _ => false)
  | .gen g vs p it ifs elt, x => (match x with
    | .Call (.Name y _) [.GeneratorExp z [⟨tg, iter, gs, 0⟩] scope _] [] _ => let own := vs.map fun i => (N.getD i "", i)
      (y == g1name g) && (glB sc y && ((C.tb == some false) && (genB N sc scope own && (mtP N scope scope p tg && ((ptVars p).all (vs.contains ·) && (plainIter iter && (mtI C N sc it tg iter && (mtIfs C.noTb N scope ifs gs && (sf elt && mtE C.noTb N scope elt z)))))))))
    | _ => false)
  | .rev a, x => (match x with
    | .Subscript y (.Slice none none (some st) _) _ => isM1 st && mtE C N sc a y
    | _ => false)
  | .told k b, x => (match x with
    | .Call (.Name y _) [.Lambda params z scope _] [] _ => (C.td[k]? == some y) && (glB sc y && ((C.tb == some true) && (noArgs params && (LamX.lamSB sc scope && (sf b && mtE C.noTb N scope b z)))))
    | _ => false)
  | .toldv k a, x => (match x with
    | .Call (.Name y _) [z] [] _ => (C.td[k]? == some y) && (glB sc y && ((C.tb == some true) && (plainE z && (sf a && mtE C N sc a z))))
    | _ => false)
  | .lamv n, x => (match x with
    | .Lambda params z scope _ => (C.tb == some true) && (C.lm n params z scope && (noArgs params && closedB scope))
    | _ => false)
def mtEs (C : Nm) (N : List Str) (sc : Scope) : IEs → List Expr → Bool
  | .nil, xs => (match xs with
    | [] => true
    | _ => false)
  | .cons e es, xs => (match xs with
    | y :: ys => plainE y && (mtE C N sc e y && mtEs C N sc es ys)
    | _ => false)
def mtIfs (C : Nm) (N : List Str) (sc : Scope) : IEs → List Expr → Bool
  | .nil, xs => (match xs with
    | [] => true
    | _ => false)
  | .cons e es, xs => (match es, xs with
    | .nil, [y] => tsOk e && mtE C N sc e y
    | _, _ => false)
def mtI (C : Nm) (N : List Str) (sc : Scope) : It → Expr → Expr → Bool
  | .seq e, tg, x => mtE C N sc e x
  | .range1 a, tg, x => (match x with
    | .Call (.Name y _) [z] [] _ => (y == "range") && (glB sc y && (plainE z && (sf a && mtE C N sc a z)))
    | _ => false)
  | .range2 a b, tg, x => (match x with
    | .Call (.Name y _) [z, t] [] _ => (y == "range") && (glB sc y && (plainE z && (plainE t && (sf a && (sf b && (mtE C N sc a z && mtE C N sc b t))))))
    | _ => false)
  | .range3 a b c, tg, x => (match x with
    | .Call (.Name y _) [z, t, u] [] _ => (y == "range") && (glB sc y && (plainE z && (plainE t && (plainE u && (sf a && (sf b && (sf c && (mtE C N sc a z && (mtE C N sc b t && mtE C N sc c u)))))))))
    | _ => false)
  | .enum a, tg, x => isTup tg && (match x with
    | .Call (.Name y _) [z] [] _ => (y == "enumerate") && (glB sc y && (plainE z && mtE C N sc a z))
    | _ => false)
  | .zip a b, tg, x => isTup tg && (match x with
    | .Call (.Name y _) [z, t] [] _ => (y == "zip") && (glB sc y && (plainE z && (plainE t && (mtE C N sc a z && mtE C N sc b t))))
    | _ => false)
end
section
variable {G : GP} {P : Prg}
theorem TEv.to {W : WX} {s s' : Bool} {f : Env → Sto → R D} {σ : L2.St} {H : Hp} {Q : VK} (i : s' = true → s = true) (h : TEv G W s' f σ H Q) : TEv G W s f σ H Q := by
  obtain ⟨Γ, st, g, S, E, w⟩ := h
  refine ⟨Γ, st, g, S, E, w.imp fun d st' H' g' _ _ q v r => q v ?_⟩
  cases s' with
  | false => exact r.u
  | true => rw [i rfl] at r; exact r
/-- a reading that says less of its value -/
theorem pe_to {X : Cx} {e : Expr} {W : WX} {s s' : Bool} {f : Env → Sto → R D} (he : PE X e (TEv G W s f)) (i : s' = true → s = true) : PE X e (TEv G W s' f) := he.weak fun _ _ _ h => h.to i
theorem mtEs_plain {C : Nm} {N : List Str} {sc : Scope} : ∀ {es : IEs} {xs : List Expr}, mtEs C N sc es xs = true → xs.all plainE = true
  | .nil, xs, h => by
    cases xs with
    | nil => rfl
    | cons _ _ => simp [mtEs] at h
  | .cons e es, xs, h => by
    cases xs with
    | nil => simp [mtEs] at h
    | cons y ys =>
      simp only [mtEs, Bool.and_eq_true] at h
      rw [List.all_cons, h.1, mtEs_plain h.2.2]
      rfl
/-- a test's rule from its expression's -/
theorem tr_T {C : Nm} {cs : List CallT} {X : Cx} {N : List Str} {sc : Scope} {W : WX} (h : Gd G P C cs X N sc W) {e : Expr} {s : Bool} {f : Env → Sto → R D} (he : PE X e (TEv G W s f)) (hi : ∀ whole, isTrue e X.env whole = (do let v ← whole; standAt e.pos; holding [v] (truthy v))) : PE X e (TEv G W s f) ∧ (true = true → PT X e (TTv G W fun Γ st => tst (f Γ st))) :=
  ⟨he, fun _ => tru_T h (pe_false he) hi⟩
/-- .. below a level -/
def LamUp (G : GP) (P : Prg) (cs : List CallT) : Prop := ∀ i c1 c2 r, cs.drop i = c1 :: c2 :: r → LamLt G P r
theorem LamUp.one {c1 : CallT} {r : List CallT} (h : LamUp G P (c1 :: r)) : LamUp G P r := fun i a b r' e => h (i + 1) a b r' e
theorem LamUp.two {c1 c2 : CallT} {r : List CallT} (h : LamUp G P (c1 :: c2 :: r)) : LamUp G P r := fun i a b r' e => h (i + 2) a b r' e
def GoodE0 (G : GP) (P : Prg) (ir : IE) : Prop := ∀ (C : Nm) (cs : List CallT) (X : Cx) (N : List Str) (sc : Scope) (W : WX) (_ : LamUp G P cs) (e : Expr), Gd G P C cs X N sc W → mtE C N sc ir e = true → PE X e (TEv G W (sf ir) (ev P cs ir)) ∧ (tsOk ir = true → PT X e (TTv G W fun Γ st => tst (ev P cs ir Γ st)))
def GoodEs0 (G : GP) (P : Prg) (es : IEs) : Prop := ∀ (C : Nm) (cs : List CallT) (X : Cx) (N : List Str) (sc : Scope) (W : WX) (_ : LamUp G P cs) (xs : List Expr), Gd G P C cs X N sc W → mtEs C N sc es xs = true →
  (sfs es = true → PA X xs (TAv G W true (evs P cs es))) ∧
  ((∀ pos, PE X (.BoolOp .And xs pos) (TEv G W (sfs es) (evAnd P cs es))) ∧ (∀ pos, PE X (.BoolOp .Or xs pos) (TEv G W (sfs es) (evOr P cs es))) ∧
   (tsOks es = true → (∀ pos, PW X (.BoolOp .And xs pos) (TTv G W fun Γ st => tst (evAnd P cs es Γ st))) ∧ ∀ pos, PW X (.BoolOp .Or xs pos) (TTv G W fun Γ st => tst (evOr P cs es Γ st))))
def GoodIfs0 (G : GP) (P : Prg) (es : IEs) : Prop := ∀ (C : Nm) (cs : List CallT) (X : Cx) (N : List Str) (sc : Scope) (W : WX) (_ : LamUp G P cs) (xs : List Expr), Gd G P C cs X N sc W → mtIfs C N sc es xs = true → PTs X xs (TTv G W (evIfs P cs es))
def GoodI0 (G : GP) (P : Prg) (it : It) : Prop := ∀ (C : Nm) (cs : List CallT) (X : Cx) (N : List Str) (sc : Scope) (W : WX) (_ : LamUp G P cs) (tg e : Expr), Gd G P C cs X N sc W → mtI C N sc it tg e = true → PI X tg e (TIv G W (sfI it) (evIt P cs it))
theorem pt_bad {X : Cx} {e : Expr} {W : WX} {f : Env → Sto → R Bool} (h : ∀ Γ st, f Γ st = .bad) : PT X e (TTv G W f) := ⟨fun _ _ _ _ _ _ ⟨Γ, st, g, S, E, w⟩ => by rw [h] at w; exact w.elim⟩
theorem pw_bad {X : Cx} {e : Expr} {W : WX} {f : Env → Sto → R Bool} (h : ∀ Γ st, f Γ st = .bad) : PW X e (TTv G W f) := ⟨fun _ _ _ _ _ _ _ ⟨Γ, st, g, S, E, w⟩ => by rw [h] at w; exact w.elim⟩
theorem TIv.to {W : WX} {s s' : Bool} {f : Env → Sto → R (List D)} {σ : L2.St} {H : Hp} {Q : L2.It → Hp → Prop} (h : TIv G W false f σ H Q) : TIv G W false f σ H Q := h
theorem own_of {N : List Str} {vs : List Nat} : (vs.map fun i => (N.getD i "", i)).map (·.2) = vs := by
  rw [List.map_map]
  exact List.map_id vs
set_option maxHeartbeats 1000000
mutual
theorem evE0 : ∀ (ir : IE), GoodE0 G P ir
  | .no, _, _, _, _, _, _, _, _, _, m => by simp [mtE] at m
  | .non, C, cs, X, N, sc, W, hl, e, h, m => by
    unfold mtE at m
    split at m
    · exact tr_T h (const_E pe_non fun _ _ => rfl) fun _ => rfl
    · cases m
  | .bl b, C, cs, X, N, sc, W, hl, e, h, m => by
    unfold mtE at m
    split at m
    · rw [beq_iff_eq] at m
      subst m
      exact tr_T h (const_E pe_bl fun _ _ => rfl) fun _ => rfl
    · cases m
  | .int i, C, cs, X, N, sc, W, hl, e, h, m => by
    unfold mtE at m
    split at m
    · rw [beq_iff_eq] at m
      subst m
      exact tr_T h (const_E pe_int fun _ _ => rfl) fun _ => rfl
    · cases m
  | .str s, C, cs, X, N, sc, W, hl, e, h, m => by
    unfold mtE at m
    split at m
    · rw [beq_iff_eq] at m
      subst m
      exact tr_T h (const_E pe_str fun _ _ => rfl) fun _ => rfl
    · cases m
  | .var i, C, cs, X, N, sc, W, hl, e, h, m => by
    unfold mtE at m
    split at m
    · exact tr_T h (var_E h m) fun _ => rfl
    · cases m
  | .own i, C, cs, X, N, sc, W, hl, e, h, m => by
    unfold mtE at m
    split at m
    · exact tr_T h (own_E h m) fun _ => rfl
    · cases m
  | .glob k, C, cs, X, N, sc, W, hl, e, h, m => by
    unfold mtE at m
    split at m
    · rw [Bool.and_eq_true, beq_iff_eq] at m
      exact tr_T h (glob_E h m.1 m.2) fun _ => rfl
    · cases m
  | .bop o a b, C, cs, X, N, sc, W, hl, e, h, m => by
    unfold mtE at m
    split at m
    · rw [Bool.and_eq_true, Bool.and_eq_true, beq_iff_eq] at m
      obtain ⟨rfl, m1, m2⟩ := m
      exact tr_T h (bop_E h (pe_false (evE0 a C cs X N sc W hl _ h m1).1) (pe_false (evE0 b C cs X N sc W hl _ h m2).1)) fun _ => rfl
    · cases m
  | .neg a, C, cs, X, N, sc, W, hl, e, h, m => by
    unfold mtE at m
    split at m
    · exact tr_T h (neg_E (pe_false (evE0 a C cs X N sc W hl _ h m).1)) fun _ => rfl
    · cases m
  | .not a, C, cs, X, N, sc, W, hl, e, h, m => by
    unfold mtE at m
    split at m
    · have i := evE0 a C cs X N sc W hl _ h m
      exact ⟨not_E h (pe_false i.1), fun t => not_T (i.2 t)⟩
    · cases m
  | .cmp o a b, C, cs, X, N, sc, W, hl, e, h, m => by
    unfold mtE at m
    split at m
    · rw [Bool.and_eq_true, Bool.and_eq_true, Bool.and_eq_true, beq_iff_eq, Bool.not_eq_true'] at m
      obtain ⟨rfl, m0, m1, m2⟩ := m
      have i1 := pe_false (evE0 a C cs X N sc W hl _ h m1).1
      have i2 := pe_false (evE0 b C cs X N sc W hl _ h m2).1
      exact ⟨cmp_E h m0 i1 i2, fun _ => cmp_T h m0 i1 i2⟩
    · cases m
  | .cmp2 o p a b c, C, cs, X, N, sc, W, hl, e, h, m => by
    unfold mtE at m
    split at m
    · rw [Bool.and_eq_true, Bool.and_eq_true, Bool.and_eq_true, Bool.and_eq_true, Bool.and_eq_true, beq_iff_eq, beq_iff_eq, Bool.not_eq_true'] at m
      obtain ⟨rfl, rfl, m0, m1, m2, m3⟩ := m
      have i1 := pe_false (evE0 a C cs X N sc W hl _ h m1).1
      have i2 := pe_false (evE0 b C cs X N sc W hl _ h m2).1
      have i3 := pe_false (evE0 c C cs X N sc W hl _ h m3).1
      exact ⟨cmp2_E h m0 i1 i2 i3, fun _ => cmp2_T h m0 i1 i2 i3⟩
    · cases m
  | .and es, C, cs, X, N, sc, W, hl, e, h, m => by
    unfold mtE at m
    split at m
    · have i := evEs0 es C cs X N sc W hl _ h m
      exact ⟨i.2.1 _, fun t => ((i.2.2.2 t).1 _).pt⟩
    · cases m
  | .or es, C, cs, X, N, sc, W, hl, e, h, m => by
    unfold mtE at m
    split at m
    · have i := evEs0 es C cs X N sc W hl _ h m
      exact ⟨i.2.2.1 _, fun t => ((i.2.2.2 t).2 _).pt⟩
    · cases m
  | .ite c a b, C, cs, X, N, sc, W, hl, e, h, m => by
    unfold mtE at m
    split at m
    · rw [Bool.and_eq_true, Bool.and_eq_true, Bool.and_eq_true] at m
      obtain ⟨m0, m1, m2, m3⟩ := m
      refine ⟨ite_E h ((evE0 c C cs X N sc W hl _ h m1).2 m0) (pe_to (evE0 a C cs X N sc W hl _ h m2).1 fun z => ?_) (pe_to (evE0 b C cs X N sc W hl _ h m3).1 fun z => ?_), fun t => by cases t⟩
      · simp only [sf, Bool.and_eq_true] at z
        exact z.1
      · simp only [sf, Bool.and_eq_true] at z
        exact z.2
    · cases m
  | .tup es, C, cs, X, N, sc, W, hl, e, h, m => by
    unfold mtE at m
    split at m
    · rw [Bool.and_eq_true] at m
      exact tr_T h (tup_E ((evEs0 es C cs X N sc W hl _ h m.2).1 m.1)) fun _ => rfl
    · cases m
  | .lst es, C, cs, X, N, sc, W, hl, e, h, m => by
    unfold mtE at m
    split at m
    · rw [Bool.and_eq_true] at m
      exact tr_T h (lst_E ((evEs0 es C cs X N sc W hl _ h m.2).1 m.1)) fun _ => rfl
    · cases m
  | .newl es, C, cs, X, N, sc, W, hl, e, h, m => by
    unfold mtE at m
    split at m
    · rw [Bool.and_eq_true] at m
      exact tr_T h (newl_E ((evEs0 es C cs X N sc W hl _ h m.2).1 m.1)) fun _ => rfl
    · cases m
  | .ix a i, C, cs, X, N, sc, W, hl, e, h, m => by
    unfold mtE at m
    split at m
    · rw [Bool.and_eq_true, Bool.and_eq_true] at m
      obtain ⟨m0, m1, m2⟩ := m
      exact tr_T h (ix_E h (ix_pl m0) (pe_false (evE0 a C cs X N sc W hl _ h m1).1) (pe_false (evE0 i C cs X N sc W hl _ h m2).1)) fun _ => rfl
    · cases m
  | .sl a lo hi, C, cs, X, N, sc, W, hl, e, h, m => by
    unfold mtE at m
    split at m
    · rename_i y l hh p2 pos
      rw [Bool.and_eq_true, Bool.and_eq_true] at m
      obtain ⟨m1, m2, m3⟩ := m
      have pl : PO X l (TOv G W fun Γ st => partR (isNo lo) st (ev P cs lo Γ st)) := by
        cases l with
        | none =>
          have m2 : isNo lo = true := m2
          rw [m2]
          exact part_none
        | some l =>
          rw [Bool.and_eq_true, Bool.not_eq_true'] at m2
          rw [m2.1]
          exact part_some (pe_false (evE0 lo C cs X N sc W hl _ h m2.2).1)
      have ph : PO X hh (TOv G W fun Γ st => partR (isNo hi) st (ev P cs hi Γ st)) := by
        cases hh with
        | none =>
          have m3 : isNo hi = true := m3
          rw [m3]
          exact part_none
        | some l =>
          rw [Bool.and_eq_true, Bool.not_eq_true'] at m3
          rw [m3.1]
          exact part_some (pe_false (evE0 hi C cs X N sc W hl _ h m3.2).1)
      exact tr_T h (sl_E h (pe_false (evE0 a C cs X N sc W hl _ h m1).1) pl ph) fun _ => rfl
    · cases m
  | .call k es, C, cs, X, N, sc, W, hl, e, h, m => by
    unfold mtE at m
    split at m
    · rename_i y p zs pos
      rw [Bool.and_eq_true, Bool.and_eq_true, Bool.and_eq_true, beq_iff_eq] at m
      obtain ⟨m0, m1, m2, m3⟩ := m
      cases cs with
      | nil => exact tr_T h (pe_bad fun _ _ => by simp only [ev]) fun _ => rfl
      | cons c rest =>
        have pl := mtEs_plain m3
        have i := (evEs0 es C (c :: rest) X N sc W hl _ h m3).1 m2
        cases zs with
        | nil =>
          cases es with
          | nil => exact tr_T h (call0_E h rfl m0 m1) fun _ => rfl
          | cons _ _ => simp [mtEs] at m3
        | cons z zs => exact tr_T h (call_E h rfl m0 m1 pl i) fun _ => rfl
    · cases m
  | .b1 b a, C, cs, X, N, sc, W, hl, e, h, m => by
    unfold mtE at m
    split at m
    · simp only [Bool.and_eq_true, beq_iff_eq] at m
      obtain ⟨rfl, m0, m1, mp, m2⟩ := m
      exact tr_T h (b1_E h b m0 m1 mp (pe_false (evE0 a C cs X N sc W hl _ h m2).1)) fun _ => rfl
    · cases m
  | .b2 b a c, C, cs, X, N, sc, W, hl, e, h, m => by
    unfold mtE at m
    split at m
    · simp only [Bool.and_eq_true, beq_iff_eq] at m
      obtain ⟨rfl, m0, mp, mq, m1, m2⟩ := m
      exact tr_T h (b2_E h b m0 mp mq (pe_false (evE0 a C cs X N sc W hl _ h m1).1) (pe_false (evE0 c C cs X N sc W hl _ h m2).1)) fun _ => rfl
    · cases m
  | .lc vs p it ifs elt, C, cs, X, N, sc, W, hl, e, h, m => by
    unfold mtE at m
    split at m
    · rename_i y tg iter gs scope pos
      simp only [Bool.and_eq_true, List.all_eq_true] at m
      obtain ⟨m1, m2, m3, m4, m5, m6, m7, m8⟩ := m
      have q := lc_E h (fr := sfI it) (own := vs.map fun i => (N.getD i "", i)) (pos := pos) (evI0 it C cs X N sc W hl tg iter h m5) m1 m2 (fun i hi => by rw [own_of]; exact List.contains_iff_mem.mp (m3 i hi)) m4 (fun X' h' => evFs0 ifs C cs X' N _ W0 hl gs h' m6) (fun X' h' => pe_to (evE0 elt C cs X' N _ W0 hl y h' m8).1 fun _ => m7)
      rw [own_of] at q
      exact tr_T h q fun _ => rfl
    · cases m
  | .gen gk vs p it ifs elt, C, cs, X, N, sc, W, hl, e, h, m => by
    unfold mtE at m
    split at m
    · rename_i y yp z tg iter gs scope gpos pos
      simp only [Bool.and_eq_true, List.all_eq_true, beq_iff_eq] at m
      obtain ⟨rfl, m0, mtb, m1, m2, m3, m4, m5, m6, m7, m8⟩ := m
      cases cs with
      | nil => exact ⟨pe_bad fun _ _ => rfl, fun _ => pt_bad fun _ _ => rfl⟩
      | cons c1 r =>
        have hi := evI0 it C (c1 :: r) X N sc W hl tg iter h m5
        have ht : ∀ X', Gd G P C.noTb r X' N scope W0 → PTs X' gs (TTv G W0 (evIfs P r ifs)) := fun X' h' => evFs0 ifs C.noTb r X' N _ W0 hl.one gs h' m6
        have he : ∀ X', Gd G P C.noTb r X' N scope W0 → PE X' z (TEv G W0 true (ev P r elt)) := fun X' h' => pe_to (evE0 elt C.noTb r X' N _ W0 hl.one z h' m8).1 fun _ => m7
        have hv : ∀ i ∈ ptVars p, i ∈ (vs.map fun i => (N.getD i "", i)).map (·.2) := fun i hi => by rw [own_of]; exact List.contains_iff_mem.mp (m3 i hi)
        cases gk with
        | any =>
          have q := any_E h rfl mtb m0 m1 m2 hv m4 hi ht he (pos := pos) (p := yp) (gpos := gpos)
          rw [own_of] at q
          exact tr_T h q fun _ => rfl
        | all =>
          have q := all_E h rfl mtb m0 m1 m2 hv m4 hi ht he (pos := pos) (p := yp) (gpos := gpos)
          rw [own_of] at q
          exact tr_T h q fun _ => rfl
        | tuple =>
          have q := tupG_E h rfl mtb m0 m1 m2 hv m4 hi ht he (pos := pos) (p := yp) (gpos := gpos)
          rw [own_of] at q
          exact tr_T h q fun _ => rfl
    · cases m
  | .rev a, C, cs, X, N, sc, W, hl, e, h, m => by
    unfold mtE at m
    split at m
    · rw [Bool.and_eq_true] at m
      exact tr_T h (rev_E h m.1 (pe_false (evE0 a C cs X N sc W hl _ h m.2).1)) fun _ => rfl
    · cases m
  | .told k b, C, cs, X, N, sc, W, hl, e, h, m => by
    unfold mtE at m
    split at m
    · simp only [Bool.and_eq_true, beq_iff_eq] at m
      obtain ⟨m0, m1, m2, m3, m4, m5, m6⟩ := m
      match cs, hl, h with
      | [], hl, h => exact tr_T h (pe_bad fun _ _ => by simp only [ev]) fun _ => rfl
      | [_], hl, h => exact tr_T h (pe_bad fun _ _ => by simp only [ev]) fun _ => rfl
      | c1 :: c2 :: r, hl, h =>
        exact tr_T h (pe_to (told_E h rfl m2 m0 m1 m3 m4 (fun X' W' h' => pe_to (s' := true) (evE0 b C.noTb r X' N _ W' hl.two _ h' m6).1 fun _ => m5)) fun _ => rfl) fun _ => rfl
    · cases m
  | .toldv k a, C, cs, X, N, sc, W, hl, e, h, m => by
    unfold mtE at m
    split at m
    · simp only [Bool.and_eq_true, beq_iff_eq] at m
      obtain ⟨m0, m1, m2, m3, m4, m5⟩ := m
      match cs, hl, h with
      | [], hl, h => exact tr_T h (pe_bad fun _ _ => by simp only [ev]) fun _ => rfl
      | [_], hl, h => exact tr_T h (pe_bad fun _ _ => by simp only [ev]) fun _ => rfl
      | c1 :: c2 :: r, hl, h =>
        exact tr_T h (toldv_E h rfl (hl 0 c1 c2 r rfl) m0 m1 m3 (pe_to (s' := true) (evE0 a C (c1 :: c2 :: r) X N sc W hl _ h m5).1 fun _ => m4)) fun _ => rfl
    · cases m
  | .lamv n, C, cs, X, N, sc, W, hl, e, h, m => by
    unfold mtE at m
    split at m
    · simp only [Bool.and_eq_true, beq_iff_eq] at m
      obtain ⟨m0, m1, m2, m3⟩ := m
      exact tr_T h (lamv_E h m0 m1 m2 m3) fun _ => rfl
    · cases m
theorem evEs0 : ∀ (es : IEs), GoodEs0 G P es
  | .nil, C, cs, X, N, sc, W, hl, xs, h, m => by
    cases xs with
    | cons _ _ => simp [mtEs] at m
    | nil =>
      refine ⟨fun _ => args_nil, fun pos => pe_bad fun _ _ => by simp only [evAnd], fun pos => pe_bad fun _ _ => by simp only [evOr], fun _ => ⟨fun pos => pw_bad fun _ _ => by simp only [evAnd]; rfl, fun pos => pw_bad fun _ _ => by simp only [evOr]; rfl⟩⟩
  | .cons e es, C, cs, X, N, sc, W, hl, xs, h, m => by
    cases xs with
    | nil => simp [mtEs] at m
    | cons y ys =>
      simp only [mtEs, Bool.and_eq_true] at m
      obtain ⟨m0, m1, m2⟩ := m
      have i := evE0 e C cs X N sc W hl _ h m1
      have j := evEs0 es C cs X N sc W hl _ h m2
      refine ⟨fun t => ?_, ?_⟩
      · simp only [sfs, Bool.and_eq_true] at t
        exact args_cons m0 (pe_to i.1 fun _ => t.1) (j.1 t.2)
      · cases es with
        | nil =>
          cases ys with
          | cons _ _ => simp [mtEs] at m2
          | nil =>
            have e1 : PE X y (TEv G W (sfs (.cons e .nil)) (ev P cs e)) := pe_to i.1 fun z => by simp only [sfs, Bool.and_true] at z; exact z
            exact ⟨fun pos => pe_one e1, fun pos => pe_one e1, fun t => by
              simp only [tsOks, Bool.and_true] at t
              exact ⟨fun pos => pw_and1 (i.2 t), fun pos => pw_or1 (i.2 t)⟩⟩
        | cons e2 es2 =>
          cases ys with
          | nil => simp [mtEs] at m2
          | cons y2 ys2 =>
            have s1 : sfs (.cons e (.cons e2 es2)) = true → sf e = true := fun z => by
              rw [sfs, Bool.and_eq_true] at z
              exact z.1
            have s2 : sfs (.cons e (.cons e2 es2)) = true → sfs (.cons e2 es2) = true := fun z => by
              rw [sfs, Bool.and_eq_true] at z
              exact z.2
            refine ⟨fun pos => and_E h (pe_to i.1 s1) (pe_to (j.2.1 pos) s2), fun pos => or_E h (pe_to i.1 s1) (pe_to (j.2.2.1 pos) s2), fun t => ?_⟩
            rw [tsOks, Bool.and_eq_true] at t
            exact ⟨fun pos => and_T (i.2 t.1) ((j.2.2.2 t.2).1 pos), fun pos => or_T (i.2 t.1) ((j.2.2.2 t.2).2 pos)⟩
theorem evFs0 : ∀ (es : IEs), GoodIfs0 G P es
  | .nil, C, cs, X, N, sc, W, hl, xs, h, m => by
    cases xs with
    | cons _ _ => simp [mtIfs] at m
    | nil => exact pts_nil.weak fun σ H Q ⟨Γ, st, g, S, E, w⟩ => w.now S
  | .cons e es, C, cs, X, N, sc, W, hl, xs, h, m => by
    unfold mtIfs at m
    split at m
    · rw [Bool.and_eq_true] at m
      exact pts_one ((evE0 e C cs X N sc W hl _ h m.2).2 m.1)
    · cases m
theorem evI0 : ∀ (it : It), GoodI0 G P it
  | .seq e, C, cs, X, N, sc, W, hl, tg, x, h, m => by
    simp only [mtI] at m
    exact seq_I h (evE0 e C cs X N sc W hl _ h m).1
  | .range1 a, C, cs, X, N, sc, W, hl, tg, x, h, m => by
    unfold mtI at m
    split at m
    · rw [Bool.and_eq_true, Bool.and_eq_true, Bool.and_eq_true, Bool.and_eq_true, beq_iff_eq] at m
      obtain ⟨rfl, m0, m1, m2, m3⟩ := m
      exact range1_I h m0 m1 (pe_to (evE0 a C cs X N sc W hl _ h m3).1 fun _ => m2)
    · cases m
  | .range2 a b, C, cs, X, N, sc, W, hl, tg, x, h, m => by
    unfold mtI at m
    split at m
    · simp only [Bool.and_eq_true, beq_iff_eq] at m
      obtain ⟨rfl, m0, m1, m2, m3, m4, m5, m6⟩ := m
      exact range2_I h m0 m1 m2 (pe_to (evE0 a C cs X N sc W hl _ h m5).1 fun _ => m3) (pe_to (evE0 b C cs X N sc W hl _ h m6).1 fun _ => m4)
    · cases m
  | .range3 a b c, C, cs, X, N, sc, W, hl, tg, x, h, m => by
    unfold mtI at m
    split at m
    · simp only [Bool.and_eq_true, beq_iff_eq] at m
      obtain ⟨rfl, m0, m1, m2, m3, m4, m5, m6, m7, m8, m9⟩ := m
      exact range3_I h m0 m1 m2 m3 (pe_to (evE0 a C cs X N sc W hl _ h m7).1 fun _ => m4) (pe_to (evE0 b C cs X N sc W hl _ h m8).1 fun _ => m5) (pe_to (evE0 c C cs X N sc W hl _ h m9).1 fun _ => m6)
    · cases m
  | .enum a, C, cs, X, N, sc, W, hl, tg, x, h, m => by
    unfold mtI at m
    rw [Bool.and_eq_true] at m
    obtain ⟨mt, m⟩ := m
    split at m
    · simp only [Bool.and_eq_true, beq_iff_eq] at m
      obtain ⟨rfl, m0, m1, m2⟩ := m
      cases tg <;> first
        | (cases mt; done)
        | exact enum_I h m0 m1 (evE0 a C cs X N sc W hl _ h m2).1
    · cases m
  | .zip a b, C, cs, X, N, sc, W, hl, tg, x, h, m => by
    unfold mtI at m
    rw [Bool.and_eq_true] at m
    obtain ⟨mt, m⟩ := m
    split at m
    · simp only [Bool.and_eq_true, beq_iff_eq] at m
      obtain ⟨rfl, m0, m1, m2, m3, m4⟩ := m
      have i1 : PE X _ (TEv G W (sfI (.zip a b)) _) := pe_to (evE0 a C cs X N sc W hl _ h m3).1 fun z => by simp only [sfI, Bool.and_eq_true] at z; exact z.1
      have i2 : PE X _ (TEv G W (sfI (.zip a b)) _) := pe_to (evE0 b C cs X N sc W hl _ h m4).1 fun z => by simp only [sfI, Bool.and_eq_true] at z; exact z.2
      cases tg <;> first
        | (cases mt; done)
        | exact zip_I h m0 m1 m2 i1 i2
    · cases m
end
/-- all levels: the stored lambdas' bodies are told by the theorem itself -/
def LamHyp (G : GP) (P : Prg) : Prop := ∀ n a b s, G.lm n a b s = true → noArgs a = true ∧ closedB s = true ∧ sf (P.lams n) = true ∧ mtE G.c1 [] s (P.lams n) b = true
theorem lamLt_all (hP : LamHyp G P) : ∀ (k : Nat) (r : List CallT), r.length ≤ k → LamLt G P r := by
  intro k
  induction k with
  | zero =>
    intro r hk n a b s hlm
    obtain ⟨h1, h2, h3, h4⟩ := hP n a b s hlm
    have hr : r = [] := List.length_eq_zero_iff.mp (Nat.le_zero.mp hk)
    subst hr
    refine ⟨h1, h2, fun X' W' h' => pe_to (evE0 (P.lams n) G.c1 [] X' [] s W' (fun i c1 c2 r' e => ?_) b h' h4).1 fun _ => h3⟩
    rw [List.drop_nil] at e
    cases e
  | succ k ih =>
    intro r hk n a b s hlm
    obtain ⟨h1, h2, h3, h4⟩ := hP n a b s hlm
    refine ⟨h1, h2, fun X' W' h' => pe_to (evE0 (P.lams n) G.c1 r X' [] s W' (fun i c1 c2 r' e => ih r' ?_) b h' h4).1 fun _ => h3⟩
    have := congrArg List.length e
    rw [List.length_drop, List.length_cons, List.length_cons] at this
    omega
theorem lamUp (hP : LamHyp G P) (cs : List CallT) : LamUp G P cs := fun _ _ _ r _ => lamLt_all hP r.length r (Nat.le_refl _)
end
class HLam (G : GP) (P : Prg) : Prop where
  hP : LamHyp G P
section
variable {G : GP} {P : Prg} [hl : HLam G P]
theorem evE (ir : IE) (C : Nm) (cs : List CallT) (X : Cx) (N : List Str) (sc : Scope) (W : WX) (e : Expr) (h : Gd G P C cs X N sc W) (m : mtE C N sc ir e = true) : PE X e (TEv G W (sf ir) (ev P cs ir)) ∧ (tsOk ir = true → PT X e (TTv G W fun Γ st => tst (ev P cs ir Γ st))) := evE0 ir C cs X N sc W (lamUp hl.hP cs) e h m
theorem evEs (es : IEs) (C : Nm) (cs : List CallT) (X : Cx) (N : List Str) (sc : Scope) (W : WX) (xs : List Expr) (h : Gd G P C cs X N sc W) (m : mtEs C N sc es xs = true) : (sfs es = true → PA X xs (TAv G W true (evs P cs es))) ∧ True := ⟨(evEs0 es C cs X N sc W (lamUp hl.hP cs) xs h m).1, trivial⟩
theorem evFs (es : IEs) (C : Nm) (cs : List CallT) (X : Cx) (N : List Str) (sc : Scope) (W : WX) (xs : List Expr) (h : Gd G P C cs X N sc W) (m : mtIfs C N sc es xs = true) : PTs X xs (TTv G W (evIfs P cs es)) := evFs0 es C cs X N sc W (lamUp hl.hP cs) xs h m
theorem evI (it : It) (C : Nm) (cs : List CallT) (X : Cx) (N : List Str) (sc : Scope) (W : WX) (tg e : Expr) (h : Gd G P C cs X N sc W) (m : mtI C N sc it tg e = true) : PI X tg e (TIv G W (sfI it) (evIt P cs it)) := evI0 it C cs X N sc W (lamUp hl.hP cs) tg e h m
end
end Eng
/-! Eng.J: lists that a slot will own. -/
namespace Eng
open PySem PySem.Spec PyProof.Rows L2

def Gh.tag (g : Gh) (p : Addr) (i : Nat) : Gh := { g with Mu := fun a => if a = p then some (.slot i) else g.Mu a }
section
variable {G : GP} {H H1 : Hp} {st : Sto} {g g1 : Gh} {p : Addr}
theorem Gh.tag_ne {a : Addr} {i : Nat} (h : a ≠ p) : (g.tag p i).Mu a = g.Mu a := if_neg h
theorem Gh.tag_eq {i : Nat} : (g.tag p i).Mu p = some (.slot i) := if_pos rfl
/-- what is nobody's gets an owner -/
theorem SR.tagAt (S : SR G H st g) (hF : g.F p = none) (hM : g.Mu p = none) {vs : List V} (hp : H p = some (.lst vs)) (i : Nat) : SR G H st (g.tag p i) := by
  refine ⟨fun a u e => ?_, fun a t e => ?_, S.alen, fun k ob e => ?_, S.tabs⟩
  · obtain ⟨h1, h2, h3⟩ := S.fh a u e
    refine ⟨h1, ?_, h3⟩
    rw [Gh.tag_ne fun z => by have e' : g.F a = some u := e; rw [z, hF] at e'; cases e']
    exact h2
  · by_cases h : a = p
    · subst h
      exact ⟨vs, hp⟩
    · rw [Gh.tag_ne h] at e
      exact S.live a t e
  · obtain ⟨a, h1, h2, h3⟩ := S.objs k ob e
    refine ⟨a, h1, ?_, h3⟩
    rw [Gh.tag_ne fun z => by rw [z, hM] at h2; cases h2]
    exact h2
theorem Ext.tag (x : Ext H1 g1 H g) (hp : H1 p = none) (hM : g1.Mu p = none) (i : Nat) : Ext H1 g1 H (g.tag p i) := by
  refine ⟨x.f, x.fn, x.ad, fun a t h => ?_, fun a t h => ?_, x.keep, x.there⟩
  · rw [Gh.tag_ne fun z => by rw [z, hM] at h; cases h]
    exact x.mu a t h
  · by_cases ha : a = p
    · subst ha
      exact .inr hp
    · rw [Gh.tag_ne ha] at h
      exact x.mn a t h
theorem SR.gone (S : SR G H st g) (hp : H p = none) : g.F p = none ∧ g.Mu p = none := by
  constructor
  · cases e : g.F p with
    | none => rfl
    | some u => rw [(S.fh p u e).1] at hp; cases hp
  · cases e : g.Mu p with
    | none => rfl
    | some t => obtain ⟨xs, e⟩ := S.live p t e; rw [e] at hp; cases hp
/-- a new list of a slot's own -/
theorem SR.ownNew (S : SR G H st g) (hp : H p = none) {vs : List V} (i : Nat) : SR G (upd H p (.lst vs)) st (g.tag p i) ∧ Ext H g (upd H p (.lst vs)) (g.tag p i) := by
  obtain ⟨hF, hM⟩ := S.gone hp
  exact ⟨(S.loose hF hM (.inl hp)).tagAt hF hM upd_same i, ((Ext.refl H g).loose hp).tag hp hM i⟩
end
/-- a new list that slot i will own -/
def TNv (G : GP) (W : WX) (i : Nat) (f : Env → Sto → R (List D)) : TE := fun σ H Q => ∃ Γ st g, SR G H st g ∧ ER G Γ σ H g ∧ Wp G (Eσ W σ) (f Γ st) H g fun l _ H' g' => ∀ p us, H' p = some (.lst us) → g'.Mu p = some (.slot i) → Rps G g'.F g'.ad l us → Q (.ref p) H'
section
variable {G : GP} {P : Prg} [hl : HLam G P] {C : Nm} {cs : List CallT} {X : Cx} {N : List Str} {sc : Scope} {W : WX}
theorem asL_Wp {E : Value → Hp → Prop} {r : R D} {H : Hp} {g : Gh} {post : List D → Sto → Hp → Gh → Prop} (w : Wp G E (asL r) H g post) : Wp G E r H g fun d st H' g' => ∃ l, d = .lst l ∧ post l st H' g' := by
  cases r with
  | ok d st =>
    cases d with
    | lst l => exact fun H' g' S x => ⟨l, rfl, w H' g' S x⟩
    | _ => exact w.elim
  | er c st => exact w
  | bad => exact w
theorem own_Q (i : Nat) {H1 : Hp} {st1 : Sto} {g1 : Gh} {l : List D} {vs : List V} {Q : VK} (S1 : SR G H1 st1 g1) (rs : Rps G g1.F g1.ad l vs) (q : ∀ H' g', SR G H' st1 g' → Ext H1 g1 H' g' → ∀ p us, H' p = some (.lst us) → g'.Mu p = some (.slot i) → Rps G g'.F g'.ad l us → Q (.ref p) H') : ∀ p, H1 p = none → Q (.ref p) (upd H1 p (.lst vs)) := by
  intro p hp
  have f := S1.ownNew (vs := vs) hp i
  exact q _ _ f.1 f.2 p vs upd_same Gh.tag_eq rs
theorem lst_N {i : Nat} {es : List Expr} {pos : Pos} {fs : Env → Sto → R (List D)} (hs : PA X es (TAv G W true fs)) : PE X (.List es pos) (TNv G W i fun Γ st => asL ((fs Γ st).bind fun l st1 => if bigOk l then .ok (.lst l) st1 else .bad)) := by
  refine (pe_lst hs).weak fun σ H Q ⟨Γ, st, g, S, E, w⟩ => ⟨Γ, st, g, S, E, (asL_Wp w).bind.imp fun l st1 H1 g1 S1 x1 w1 vs rs => ?_⟩
  by_cases hb : bigOk l = true
  · rw [if_pos hb] at w1
    refine ⟨big_sl rs hb, own_Q i S1 rs fun H' g' S' x' p us => ?_⟩
    obtain ⟨l', el, q⟩ := w1 H' g' S' x'
    cases el
    exact q p us
  · rw [if_neg hb] at w1
    exact w1.elim
theorem cat_N (h : Gd G P C cs X N sc W) {i : Nat} {a b : Expr} {pos : Pos} {fa fb : Env → Sto → R D} (ha : PE X a (TEv G W false fa)) (hb : PE X b (TEv G W false fb)) :
    PE X (.BinOp a .Add b pos) (TNv G W i fun Γ st => asL ((fa Γ st).bind fun x st1 => (fb Γ st1).bind fun y st2 => ofO (bopV .add x y) st2)) := by
  refine (pe_op op_cat ha hb).weak fun σ H Q ⟨Γ, st, g, S, E, w⟩ => ?_
  refine ⟨Γ, st, g, S, E, (asL_Wp w).bind.imp fun d st1 H1 g1 S1 x1 w1 v r => ⟨Γ, st1, g1, S1, E.ext x1, w1.bind.imp fun e st2 H2 g2 S2 x2 w2 u r2 => ?_⟩⟩
  obtain ⟨z, hz, w3⟩ := w2.ofO
  obtain ⟨l, el, _⟩ := w3.now S2
  subst el
  have r := r.ext x2
  unfold bopV at hz
  split at hz <;> first
    | (cases hz; done)
    | (cases (‹Bop.add = Bop.mul›); done)
    | skip
  all_goals first
    | (split at hz
       · cases hz
       · cases hz)
    | skip
  rename_i la lb
  split at hz
  · rename_i hc
    cases hz
    simp only [bigOk, Bool.and_eq_true, decide_eq_true_eq] at hc
    obtain ⟨pa, va, rfl, h1, r1⟩ := Ru.lst S2 r.u
    obtain ⟨pb, vb, rfl, h2, r2⟩ := Ru.lst S2 r2.u
    refine ⟨pa, pb, va, vb, rfl, rfl, h1, h2, ?_, own_Q i S2 (r1.append r2) fun H' g' S' x' p us => ?_⟩
    · have e1 := r1.length
      have e2 := r2.length
      have := sl_len
      unfold lim at hc
      omega
    · obtain ⟨l', el, q⟩ := w3 H' g' S' x'
      cases el
      exact q p us
  · cases hz
theorem sl_N (h : Gd G P C cs X N sc W) {i : Nat} {a : Expr} {lo hi : Option Expr} {pos p2 : Pos} {fa : Env → Sto → R D} {fl fh : Env → Sto → R (Option Int)} (ha : PE X a (TEv G W false fa)) (hl : PO X lo (TOv G W fl)) (hh : PO X hi (TOv G W fh)) :
    PE X (.Subscript a (.Slice lo hi none p2) pos) (TNv G W i fun Γ st => asL ((fa Γ st).bind fun x st1 => (fl Γ st1).bind fun l st2 => (fh Γ st2).bind fun u st3 => ofO (cutOf l u x) st3)) := by
  refine (pe_slice sl_list ha hl hh).weak fun σ H Q ⟨Γ, st, g, S, E, w⟩ => ?_
  refine ⟨Γ, st, g, S, E, (asL_Wp w).bind.imp fun d st1 H1 g1 S1 x1 w1 v r => ⟨Γ, st1, g1, S1, E.ext x1, w1.bind.imp fun l st2 H2 g2 S2 x2 w2 => ⟨Γ, st2, g2, S2, (E.ext x1).ext x2, w2.bind.imp fun u st3 H3 g3 S3 x3 w3 => ?_⟩⟩⟩
  obtain ⟨z, hz, w4⟩ := w3.ofO
  obtain ⟨m, em, _⟩ := w4.now S3
  subst em
  have r := r.ext (x2.trans x3)
  have fin : ∀ {xs : List D} {vs : List V}, Rps G g3.F g3.ad xs vs → D.lst m = .lst (cutD xs l u) → ∀ p, H3 p = none → Q (.ref p) (upd H3 p (.lst (cutV vs l u))) := fun {xs vs} rr e => by
    cases e
    refine own_Q i S3 (cut_V rr l u) fun H' g' S' x' p us => ?_
    obtain ⟨l', el, q⟩ := w4 H' g' S' x'
    cases el
    exact q p us
  cases d with
  | lst xs =>
    obtain ⟨pa, va, rfl, h1, r1⟩ := Ru.lst S3 r.u
    exact ⟨pa, va, rfl, .inl (.inl h1), fin r1 (Option.some.inj hz).symm⟩
  | scr xs =>
    rcases r.u with ⟨pa, va, rfl, hl, r1⟩ | ⟨_, _, _, _, e, _⟩
    · exact ⟨pa, va, rfl, by rw [h.hK]; exact S3.hle.sqL hl, fin r1 (Option.some.inj hz).symm⟩
    · cases e
  | str t =>
    have hz : (if t.length < lim then some (D.str (cutS t l u)) else none) = some (.lst m) := hz
    split at hz <;> cases hz
  | _ => cases hz
theorem list_N (h : Gd G P C cs X N sc W) {i : Nat} {a : Expr} {p pos : Pos} {f : Env → Sto → R D} (hg : glB sc "list" = true) (pl : plainE a = true) (ha : PE X a (TEv G W false f)) :
    PE X (.Call (.Name "list" p) [a] [] pos) (TNv G W i fun Γ st => asL ((f Γ st).bind fun x st1 => ofO (b1V st1 .list x) st1)) := by
  obtain ⟨g1, g2⟩ := gl_of h hg
  refine (pe_callTy call_list_of g1 (h.mgn _ (by decide)) (by decide +kernel) (pa_cons ha pa_nil (star_1 pl)) (by decide) g2 (star_1 pl) rfl).weak fun σ H Q ⟨Γ, st, g, S, E, w⟩ => ?_
  refine ⟨Γ, st, g, S, E, (asL_Wp w).bind.imp fun d st1 H1 g1 S1 x1 w1 v r => ?_⟩
  obtain ⟨z, hz, w2⟩ := w1.ofO
  have hz : (sq st1 d).map D.lst = some z := by cases d <;> exact hz
  cases hl : sq st1 d with
  | none => rw [hl] at hz; cases hz
  | some l =>
    rw [hl] at hz
    cases hz
    obtain ⟨a, vs, rfl, hs, rr⟩ := Ru.seq S1 r.u hl
    refine ⟨a, vs, rfl, by rw [h.hK]; exact hs, own_Q i S1 rr fun H' g' S' x' p us => ?_⟩
    obtain ⟨l', el, q⟩ := w2 H' g' S' x'
    cases el
    exact q p us
theorem lc_V {fr : Bool} {i : Nat} {p : Pt} {vs : List Nat} {fi : Env → Sto → R (List D)} {fc : Env → Sto → R Bool} {fe : Env → Sto → R D} {K : PySem.W.Frag} (hK : K = G.K) (hv : ∀ i ∈ ptVars p, i ∈ vs) {σ : L2.St} {H : Hp} {Q : VK} (h : TNv G W i (fun Γ st => asL (compR .lst p vs fi fc fe Γ st)) σ H Q) :
    tLc (TIv G W fr fi) (gPt K p) (TTv G W0 fc) (TEv G W0 true fe) vs σ H Q := by
  obtain ⟨Γ, st, g, S, E, w⟩ := h
  refine ⟨Γ, st, g, S, E, (asL_Wp w).bind.imp fun xs st1 H1 g1 S1 x1 w1 J src Da hD => ?_⟩
  cases hc : compL (bindP p) fc fe xs (wipeE Γ vs) st1 with
  | ok lF stF =>
    rw [hc] at w1
    by_cases hb : bigOk xs = true
    · refine comp_walk hK S1 (E.ext x1) src hv hc hb Da hD (fun H' g' acc S' x' hDa hF hM ra => ?_)
      have w1 : Wp G (Eσ W σ) (if bigOk xs = true then R.ok (D.lst lF) stF else R.bad) H1 g1 _ := w1
      rw [if_pos hb] at w1
      obtain ⟨l', el, q⟩ := w1 H' _ (S'.tagAt hF hM hDa i) (x'.tag hD (S1.gone hD).2 i)
      cases el
      exact q Da acc hDa Gh.tag_eq ra
    · have w1 : Wp G (Eσ W σ) (if bigOk xs = true then R.ok (D.lst lF) stF else R.bad) H1 g1 _ := w1
      rw [if_neg hb] at w1
      exact w1.elim
  | er c s => rw [hc] at w1; exact w1.elim
  | bad => rw [hc] at w1; exact w1.elim
/-- what a written comprehension must have, for the rules -/
structure LcOk (G : GP) (P : Prg) (C : Nm) (cs : List CallT) (X : Cx) (N : List Str) (sc : Scope) (W : WX) (fr : Bool) (p : Pt) (fi : Env → Sto → R (List D)) (fc : Env → Sto → R Bool) (fe : Env → Sto → R D) (elt tg iter : Expr) (ifs : List Expr) (scope : Scope) (own : List (Str × Nat)) : Prop where
  hi : PI X tg iter (TIv G W fr fi)
  hb : blkC N sc scope own = true
  hp : mtP N (relS scope sc) scope p tg = true
  hv : ∀ i ∈ ptVars p, i ∈ own.map (·.2)
  hs : notSet iter = true
  ht : ∀ X', Gd G P C cs X' N (relS scope sc) W0 → PTs X' ifs (TTv G W0 fc)
  he : ∀ X', Gd G P C cs X' N (relS scope sc) W0 → PE X' elt (TEv G W0 true fe)
variable {fr : Bool} {p : Pt} {fi : Env → Sto → R (List D)} {fc : Env → Sto → R Bool} {fe : Env → Sto → R D} {elt tg iter : Expr} {ifs : List Expr} {scope : Scope} {own : List (Str × Nat)}
theorem LcOk.pg (L : LcOk G P C cs X N sc W fr p fi fc fe elt tg iter ifs scope own) (h : Gd G P C cs X N sc W) (s : Shared) (H : Hp) (Ca : Addr) (cl : List (Str × Addr)) (fp : List Addr) : PG (X.blk s H scope (compEnvC scope cl Ca X.env) fp) tg (gPt X.K p) := by
  have b := h.blk s H scope Ca cl fp
  exact pg_P (X := X.blk s H scope (compEnvC scope cl Ca X.env) fp) b.hN b.nd b.hsc (fun x e => by show (scope.names.lookup x == some .cell) = true; rw [e]; rfl) b.calm L.hp
theorem notSet_ok {e : Expr} {env : PySem.Env} {x : Value} (h : notSet e = true) : foldedSetIterable e env x = pure x := by
  cases e <;> first
    | rfl
    | (cases h; done)
theorem LcOk.pe (L : LcOk G P C cs X N sc W fr p fi fc fe elt tg iter ifs scope own) (h : Gd G P C cs X N sc W) {pos : Pos} : PE X (.ListComp elt [⟨tg, iter, ifs, 0⟩] scope pos) (tLc (TIv G W fr fi) (gPt X.K p) (TTv G W0 fc) (TEv G W0 true fe) (own.map (·.2))) :=
  pe_lc h.calm (by rw [h.hN]; exact h.nd) L.hi (by rw [h.hN, h.hsc]; exact blkOk_by L.hb) (fun s H Ca cl fp => L.pg h s H Ca cl fp) (fun s H Ca cl fp => L.ht _ (h.blk s H scope Ca cl fp)) (fun s H Ca cl fp => L.he _ (h.blk s H scope Ca cl fp)) fun x => notSet_ok L.hs
theorem LcOk.ps (L : LcOk G P C cs X N sc W fr p fi fc fe elt tg iter ifs scope own) (h : Gd G P C cs X N sc W) {i : Nat} {y : Str} {py pos spos : Pos} (hy : N[i]? = some y) (hyl : sc.names.lookup y = some .local)
    (hsw : swapsWith (.ListComp elt [⟨tg, iter, ifs, 0⟩] scope pos) (some (.Name y py)) spos.line X.env = pure true) : PS X (.Assign [.Name y py] (.ListComp elt [⟨tg, iter, ifs, 0⟩] scope pos) spos) (tAsg (tLc (TIv G W fr fi) (gPt X.K p) (TTv G W0 fc) (TEv G W0 true fe) (own.map (·.2))) (gName i)) :=
  ps_setLc h.calm (by rw [h.hN]; exact h.nd) (by rw [h.hN]; exact hy) (by rw [h.hsc]; exact hyl) hsw L.hi (by rw [h.hN, h.hsc]; exact blkOk_by L.hb) (fun s H Ca cl fp => L.pg h s H Ca cl fp) (fun s H Ca cl fp => L.ht _ (h.blk s H scope Ca cl fp)) (fun s H Ca cl fp => L.he _ (h.blk s H scope Ca cl fp)) fun x => notSet_ok L.hs

/-- a written comprehension, by its IR -/
theorem lc_ok (h : Gd G P C cs X N sc W) {vs : List Nat} {p : Pt} {it : It} {fs : IEs} {elt : IE} {y tg iter : Expr} {gs : List Expr} {scope : Scope} {pos : Pos} (m : mtE C N sc (.lc vs p it fs elt) (.ListComp y [⟨tg, iter, gs, 0⟩] scope pos) = true) :
    LcOk G P C cs X N sc W (sfI it) p (evIt P cs it) (evIfs P cs fs) (ev P cs elt) y tg iter gs scope (vs.map fun i => (N.getD i "", i)) := by
  simp only [mtE, Bool.and_eq_true, List.all_eq_true] at m
  obtain ⟨m1, m2, m3, m4, m5, m6, m7, m8⟩ := m
  exact ⟨evI it C cs X N sc W tg iter h m5, m1, m2, fun i hi => by rw [own_of]; exact List.contains_iff_mem.mp (m3 i hi), m4, fun X' h' => evFs fs C cs X' N _ W0 gs h' m6, fun X' h' => pe_to (evE elt C cs X' N _ W0 y h' m8).1 fun _ => m7⟩
/-- may its value be a new list -/
def frOk : IE → Bool
  | .lst _ => true
  | .lc _ _ _ _ _ => true
  | .bop .add _ _ => true
  | .sl _ _ _ => true
  | .b1 .list _ => true
  | _ => false
theorem evN (i : Nat) (ir : IE) {e : Expr} (h : Gd G P C cs X N sc W) (hf : frOk ir = true) (m : mtE C N sc ir e = true) : PE X e (TNv G W i fun Γ st => asL (ev P cs ir Γ st)) := by
  cases ir with
  | lst es =>
    unfold mtE at m
    split at m
    · rw [Bool.and_eq_true] at m
      exact lst_N ((evEs es C cs X N sc W _ h m.2).1 m.1)
    · cases m
  | lc vs p it fs elt =>
    have m0 := m
    unfold mtE at m
    split at m
    · have L := lc_ok h m0
      refine (L.pe h).weak fun σ H Q q => lc_V (i := i) h.hK (by rw [own_of] at *; exact fun j hj => by have := L.hv j hj; rw [own_of] at this; exact this) (by rw [own_of]; exact q)
    · cases m
  | bop o a b =>
    cases o with
    | add =>
      unfold mtE at m
      split at m
      · rw [Bool.and_eq_true, Bool.and_eq_true, beq_iff_eq] at m
        obtain ⟨rfl, m1, m2⟩ := m
        exact cat_N h (pe_false (evE a C cs X N sc W _ h m1).1) (pe_false (evE b C cs X N sc W _ h m2).1)
      · cases m
    | _ => cases hf
  | sl a lo hi =>
    unfold mtE at m
    split at m
    · rename_i y l hh p2 pos
      rw [Bool.and_eq_true, Bool.and_eq_true] at m
      obtain ⟨m1, m2, m3⟩ := m
      have pl : PO X l (TOv G W fun Γ st => partR (isNo lo) st (ev P cs lo Γ st)) := by
        cases l with
        | none =>
          have m2 : isNo lo = true := m2
          rw [m2]
          exact part_none
        | some l =>
          rw [Bool.and_eq_true, Bool.not_eq_true'] at m2
          rw [m2.1]
          exact part_some (pe_false (evE lo C cs X N sc W _ h m2.2).1)
      have ph : PO X hh (TOv G W fun Γ st => partR (isNo hi) st (ev P cs hi Γ st)) := by
        cases hh with
        | none =>
          have m3 : isNo hi = true := m3
          rw [m3]
          exact part_none
        | some l =>
          rw [Bool.and_eq_true, Bool.not_eq_true'] at m3
          rw [m3.1]
          exact part_some (pe_false (evE hi C cs X N sc W _ h m3.2).1)
      exact sl_N h (pe_false (evE a C cs X N sc W _ h m1).1) pl ph
    · cases m
  | b1 b a =>
    cases b with
    | list =>
      unfold mtE at m
      split at m
      · simp only [Bool.and_eq_true, beq_iff_eq] at m
        obtain ⟨rfl, m0, m1, mp, m2⟩ := m
        exact list_N h m1 mp (pe_false (evE a C cs X N sc W _ h m2).1)
      · cases m
    | _ => cases hf
  | _ => cases hf
end
end Eng
/-! Eng.K: statements' readings. -/
namespace Eng
open PySem PySem.Spec PyProof.Rows L2

structure XExt (H : Hp) (g : Gh) (H' : Hp) (g' : Gh) : Prop where
  f : HLe g.F g'.F
  fn : ∀ a o, g'.F a = some o → g.F a = some o ∨ H a = none ∨ ∃ i, g.Mu a = some (.slot i)
  ad : ALe g.ad g'.ad
  mu : ∀ a k, g.Mu a = some (.obj k) → g'.Mu a = some (.obj k)
  mn : ∀ a t, g'.Mu a = some t → g.Mu a = some t ∨ H a = none
  keep : ∀ b o, H b = some o → isTbl o = false → g.Mu b = none → H' b = some o
  there : ∀ b, H' b = none → H b = none
theorem Ext.x {H H' : Hp} {g g' : Gh} (e : Ext H g H' g') : XExt H g H' g' :=
  ⟨e.f, fun a o h => (e.fn a o h).elim .inl fun h => .inr (.inl h), e.ad, fun a k h => e.mu a _ h, e.mn, fun b o h t n => e.keep b o h t (fun k hk => by rw [n] at hk; cases hk), e.there⟩
theorem XExt.refl (H : Hp) (g : Gh) : XExt H g H g := (Ext.refl H g).x
theorem XExt.trans {H H1 H2 : Hp} {g g1 g2 : Gh} (a : XExt H g H1 g1) (b : XExt H1 g1 H2 g2) : XExt H g H2 g2 where
  f := a.f.trans b.f
  fn := fun x o h => by
    rcases b.fn x o h with h | h | ⟨i, h⟩
    · exact a.fn x o h
    · exact .inr (.inl (a.there x h))
    · rcases a.mn x _ h with h | h
      · exact .inr (.inr ⟨i, h⟩)
      · exact .inr (.inl h)
  ad := a.ad.trans b.ad
  mu := fun x k h => b.mu x k (a.mu x k h)
  mn := fun x t h => by
    rcases b.mn x t h with h | h
    · exact a.mn x t h
    · exact .inr (a.there x h)
  keep := fun x o h t n => b.keep x o (a.keep x o h t n) t (by
    cases q : g1.Mu x with
    | none => rfl
    | some t =>
      rcases a.mn x t q with q | q
      · rw [n] at q; cases q
      · rw [h] at q; cases q)
  there := fun x h => a.there x (b.there x h)
theorem XExt.fin {H H' : Hp} {g g' : Gh} (x : XExt H g H' g') (n : NoSlot g) : Ext H g H' g'.ns where
  f := x.f
  fn := fun a o h => by
    rcases x.fn a o h with h | h | ⟨i, h⟩
    · exact .inl h
    · exact .inr h
    · exact absurd h (n a i)
  ad := x.ad
  mu := fun a t h => by
    cases t with
    | slot i => exact absurd h (n a i)
    | obj k => exact Gh.ns_obj.mpr (x.mu a k h)
  mn := fun a t h => x.mn a t (Gh.ns_some h)
  keep := fun b o h t nk => x.keep b o h t (by
    cases q : g.Mu b with
    | none => rfl
    | some t =>
      cases t with
      | slot i => exact absurd q (n b i)
      | obj k => exact absurd q (nk k))
  there := x.there

def WpO (G : GP) (W : WX) (D : Ends) (o : O) (H : Hp) (g : Gh) : Prop := match o with
  | .nx Γ st => ∀ σ' H' g', SR G H' st g' → ER G Γ σ' H' g' → XExt H g H' g' → D.nx σ' H'
  | .ret d st => ∀ H' g' v, SR G H' st g' → XExt H g H' g' → Rp G g'.F g'.ad d v → D.rt v H'
  | .brk Γ st => ∀ σ' H' g', SR G H' st g' → ER G Γ σ' H' g' → XExt H g H' g' → D.bk σ' H'
  | .cnt Γ st => ∀ σ' H' g', SR G H' st g' → ER G Γ σ' H' g' → XExt H g H' g' → D.ct σ' H'
  | .er c _ st => ∀ σ' H' g', SR G H' st g' → XExt H g H' g' → W (.ref (G.ca c)) none σ' H'
  | .bad => False
def TSv (G : GP) (W : WX) (f : Env → Sto → O) : TS := fun D σ H => ∃ Γ st g, SR G H st g ∧ ER G Γ σ H g ∧ WpO G W D (f Γ st) H g
/-- what goes on after a part -/
abbrev nxK (G : GP) (W : WX) (D : Ends) (f : Env → Sto → O) : L2.St → Hp → Prop := fun σ' H' => ∃ Γ' st' g', SR G H' st' g' ∧ ER G Γ' σ' H' g' ∧ WpO G W D (f Γ' st') H' g'
section
variable {G : GP} {W : WX} {D : Ends} {H H1 : Hp} {g g1 : Gh}
theorem WpO.x {o : O} (x : XExt H g H1 g1) (w : WpO G W D o H g) : WpO G W D o H1 g1 := by
  cases o with
  | nx Γ st => exact fun σ' H' g' S E y => w σ' H' g' S E (x.trans y)
  | ret d st => exact fun H' g' v S y r => w H' g' v S (x.trans y) r
  | brk Γ st => exact fun σ' H' g' S E y => w σ' H' g' S E (x.trans y)
  | cnt Γ st => exact fun σ' H' g' S E y => w σ' H' g' S E (x.trans y)
  | er c Γ st => exact fun σ' H' g' S y => w σ' H' g' S (x.trans y)
  | bad => exact w
theorem WpO.then {α : Type} {r : R α} {Γ : Env} {f : α → Sto → O} (w : WpO G W D (r.then_ Γ f) H g) (σ : L2.St) : Wp G (Eσ W σ) r H g fun a st' H' g' => WpO G W D (f a st') H' g' := by
  cases r with
  | ok a st => exact fun H' g' S x => WpO.x x.x w
  | er c st => exact fun H' g' S x => w σ H' g' S x.x
  | bad => exact w
theorem WpO.seq {o : O} {f : Env → Sto → O} (w : WpO G W D (o.seq f) H g) : WpO G W { D with nx := nxK G W D f } o H g := by
  cases o with
  | nx Γ st => exact fun σ' H' g' S E y => ⟨Γ, st, g', S, E, WpO.x y w⟩
  | ret d st => exact w
  | brk Γ st => exact w
  | cnt Γ st => exact w
  | er c Γ st => exact w
  | bad => exact w
theorem WpO.mono {D' : Ends} {o : O} (w : WpO G W D o H g) (h1 : ∀ σ H, D.nx σ H → D'.nx σ H) (h2 : ∀ v H, D.rt v H → D'.rt v H) (h3 : ∀ σ H, D.bk σ H → D'.bk σ H) (h4 : ∀ σ H, D.ct σ H → D'.ct σ H) : WpO G W D' o H g := by
  cases o with
  | nx Γ st => exact fun σ' H' g' S E y => h1 _ _ (w σ' H' g' S E y)
  | ret d st => exact fun H' g' v S y r => h2 _ _ (w H' g' v S y r)
  | brk Γ st => exact fun σ' H' g' S E y => h3 _ _ (w σ' H' g' S E y)
  | cnt Γ st => exact fun σ' H' g' S E y => h4 _ _ (w σ' H' g' S E y)
  | er c Γ st => exact w
  | bad => exact w
/-- a loop's turn -/
def loopO (o : O) (f : Env → Sto → O) : O := match o with
  | .nx Γ st => f Γ st
  | .cnt Γ st => f Γ st
  | .brk Γ st => .nx Γ st
  | o => o
theorem WpO.loop {o : O} {f : Env → Sto → O} (w : WpO G W D (loopO o f) H g) : WpO G W { D with nx := nxK G W D f, ct := nxK G W D f, bk := D.nx } o H g := by
  cases o with
  | nx Γ st => exact fun σ' H' g' S E y => ⟨Γ, st, g', S, E, WpO.x y w⟩
  | cnt Γ st => exact fun σ' H' g' S E y => ⟨Γ, st, g', S, E, WpO.x y w⟩
  | brk Γ st => exact w
  | ret d st => exact w
  | er c Γ st => exact w
  | bad => exact w
/-- .. and what a turn's end knows of its start -/
theorem WpO.loopX {o : O} {f : Env → Sto → O} (w : WpO G W D (loopO o f) H g) : WpO G W { D with nx := fun σ' H' => ∃ Γ' st' g', SR G H' st' g' ∧ ER G Γ' σ' H' g' ∧ XExt H g H' g' ∧ WpO G W D (f Γ' st') H' g', ct := fun σ' H' => ∃ Γ' st' g', SR G H' st' g' ∧ ER G Γ' σ' H' g' ∧ XExt H g H' g' ∧ WpO G W D (f Γ' st') H' g', bk := D.nx } o H g := by
  cases o with
  | nx Γ st => exact fun σ' H' g' S E y => ⟨Γ, st, g', S, E, y, WpO.x y w⟩
  | cnt Γ st => exact fun σ' H' g' S E y => ⟨Γ, st, g', S, E, y, WpO.x y w⟩
  | brk Γ st => exact w
  | ret d st => exact w
  | er c Γ st => exact w
  | bad => exact w
end
theorem loop_w {c : Env → Sto → R Bool} {b : Env → Sto → O} {n : Nat} {Γ : Env} {st : Sto} : whileL c b (n + 1) Γ st = (c Γ st).then_ Γ fun t st1 => if t then loopO (b Γ st1) (whileL c b n) else .nx Γ st1 := by
  show (c Γ st).then_ Γ _ = _
  congr 1
theorem loop_f {bind : D → Env → Option Env} {b : Env → Sto → O} {x : D} {xs : List D} {Γ : Env} {st : Sto} : forL bind b (x :: xs) Γ st = match bind x Γ with
    | none => .bad
    | some Γ1 => loopO (b Γ1 st) (forL bind b xs) := by
  unfold forL
  cases bind x Γ with
  | none => rfl
  | some Γ1 =>
    simp only []
    cases b Γ1 st <;> rfl
theorem _root_.L2.PS.weak {X : Cx} {s : Stmt} {t t' : TS} (h : PS X s t) (i : ∀ D σ H, t' D σ H → t D σ H) : PS X s t' := ⟨fun pins s σ H D I q => h.run pins s σ H D I (i D σ H q)⟩
theorem _root_.L2.PSs.weak {X : Cx} {s : List Stmt} {t t' : TS} (h : PSs X s t) (i : ∀ D σ H, t' D σ H → t D σ H) : PSs X s t' := ⟨fun pins s σ H D I q => h.run pins s σ H D I (i D σ H q)⟩
theorem _root_.L2.PG.weak {X : Cx} {e : Expr} {t t' : TG} (h : PG X e t) (i : ∀ v σ H Q, t' v σ H Q → t v σ H Q) : PG X e t' := ⟨fun pins s σ H v u Q I r q => h.run pins s σ H v u Q I r (i v σ H Q q)⟩

/-! ### writes -/
section
variable {G : GP} {H : Hp} {st : Sto} {g : Gh} {p : Addr}
/-- a slot's own list changes -/
theorem SR.ownSet (S : SR G H st g) {i : Nat} (hM : g.Mu p = some (.slot i)) {vs : List V} : SR G (upd H p (.lst vs)) st g ∧ XExt H g (upd H p (.lst vs)) g := by
  obtain ⟨xs, hp⟩ := S.live p _ hM
  have kp : ∀ b, b ≠ p → upd H p (.lst vs) b = H b := fun b h => upd_ne h
  have nF : ∀ a o, g.F a = some o → a ≠ p := fun a o e z => by
    have := (S.fh a o e).2.1
    rw [z, hM] at this
    cases this
  refine ⟨⟨fun a u e => ?_, fun a t e => ?_, S.alen, fun k ob e => ?_, S.tabs.to (fun b ps e => ?_) (HLe.refl _)⟩, ⟨HLe.refl _, fun _ _ h => .inl h, ALe.refl _, fun _ _ h => h, fun _ _ h => .inl h, fun b u e t n => ?_, fun b e => ?_⟩⟩
  · rw [kp a (nF a u e)]
    exact S.fh a u e
  · by_cases h : a = p
    · subst h
      exact ⟨vs, upd_same⟩
    · rw [kp a h]
      exact S.live a t e
  · obtain ⟨a, h1, h2, h3⟩ := S.objs k ob e
    have na : a ≠ p := fun z => by rw [z, hM] at h2; cases h2
    refine ⟨a, h1, h2, ?_⟩
    cases ob with
    | lst l =>
      obtain ⟨us, h4, h5⟩ := h3
      exact ⟨us, by rw [kp a na]; exact h4, h5⟩
    | dic _ _ => exact h3
    | ins _ _ => exact h3
  · have z : b ≠ p := fun z => by
      rw [z, hp] at e
      cases e
    rw [kp b z]
    exact e
  · rw [kp b fun z => by rw [z, hM] at n; cases n]
    exact e
  · by_cases h : b = p
    · rw [h, upd_same] at e
      cases e
    · rw [kp b h] at e
      exact e
theorem ER.ownSet {Γ : Env} {σ : L2.St} (E : ER G Γ σ H g) {i : Nat} (hM : g.Mu p = some (.slot i)) (hσ : σ[i]? = some (some (.ref p))) (hi : i < Γ.length) {l : List D} {vs : List V} (r : Rps G g.F g.ad l vs) : ER G (Γ.set i (.own l)) σ (upd H p (.lst vs)) g := by
  refine ⟨by rw [List.length_set]; exact E.1, fun j s hj => ?_⟩
  by_cases hij : i = j
  · subst hij
    rw [List.getElem?_set_self hi] at hj
    cases hj
    exact ⟨p, vs, hσ, upd_same, hM, r⟩
  · rw [List.getElem?_set_ne hij] at hj
    have h := E.2 j s hj
    cases s with
    | no => trivial
    | val d => exact h
    | own m =>
      obtain ⟨q, us, e, h1, h2, h3⟩ := h
      exact ⟨q, us, e, by rw [upd_ne fun z => by rw [z, hM] at h2; cases h2; exact hij rfl]; exact h1, h2, h3⟩
/-- an object of the store changes -/
theorem SR.objSet (S : SR G H st g) {n : Nat} {l l' : List D} {vs : List V} (hn : st[n]? = some (.lst l)) (r : Rps G g.F g.ad l' vs) (ha : g.ad[n]? = some p) : SR G (upd H p (.lst vs)) (st.set n (.lst l')) g ∧ XExt H g (upd H p (.lst vs)) g := by
  obtain ⟨a, a1, a2, xs, hp, _⟩ := S.objs n _ hn
  rw [ha] at a1
  cases a1
  have kp : ∀ b, b ≠ p → upd H p (.lst vs) b = H b := fun b h => upd_ne h
  have nF : ∀ a o, g.F a = some o → a ≠ p := fun a o e z => by
    have := (S.fh a o e).2.1
    rw [z, a2] at this
    cases this
  have hlt : n < st.length := (List.getElem?_eq_some_iff.mp hn).1
  refine ⟨⟨fun a u e => ?_, fun a t e => ?_, by rw [List.length_set]; exact S.alen, fun k ob e => ?_, S.tabs.to (fun b ps e => ?_) (HLe.refl _)⟩, ⟨HLe.refl _, fun _ _ h => .inl h, ALe.refl _, fun _ _ h => h, fun _ _ h => .inl h, fun b u e t n => ?_, fun b e => ?_⟩⟩
  · rw [kp a (nF a u e)]
    exact S.fh a u e
  · by_cases h : a = p
    · subst h
      exact ⟨vs, upd_same⟩
    · rw [kp a h]
      exact S.live a t e
  · by_cases hk : n = k
    · subst hk
      rw [List.getElem?_set_self hlt] at e
      cases e
      exact ⟨p, ha, a2, vs, upd_same, r⟩
    · rw [List.getElem?_set_ne hk] at e
      obtain ⟨a, h1, h2, h3⟩ := S.objs k ob e
      have na : a ≠ p := fun z => by
        rw [z, a2] at h2
        cases h2
        exact hk rfl
      refine ⟨a, h1, h2, ?_⟩
      cases ob with
      | lst l =>
        obtain ⟨us, h4, h5⟩ := h3
        exact ⟨us, by rw [kp a na]; exact h4, h5⟩
      | dic _ _ => exact h3
      | ins _ _ => exact h3
  · have z : b ≠ p := fun z => by
      rw [z, hp] at e
      cases e
    rw [kp b z]
    exact e
  · rw [kp b fun z => by rw [z, a2] at n; cases n]
    exact e
  · by_cases h : b = p
    · rw [h, upd_same] at e
      cases e
    · rw [kp b h] at e
      exact e
theorem ER.objSet {Γ : Env} {σ : L2.St} (E : ER G Γ σ H g) {k : Nat} (hM : g.Mu p = some (.obj k)) {vs : List V} : ER G Γ σ (upd H p (.lst vs)) g := by
  refine ⟨E.1, fun j s hj => ?_⟩
  have h := E.2 j s hj
  cases s with
  | no => trivial
  | val d => exact h
  | own m =>
    obtain ⟨q, us, e, h1, h2, h3⟩ := h
    exact ⟨q, us, e, by rw [upd_ne fun z => by rw [z, hM] at h2; cases h2]; exact h1, h2, h3⟩
/-- a slot's own list is frozen -/
theorem own_frz {Γ : Env} {σ : L2.St} (S : SR G H st g) (E : ER G Γ σ H g) {i : Nat} {l : List D} (hi : Γ[i]? = some (.own l)) : ∃ g', SR G H st g' ∧ ER G (Γ.set i (.val (.lst l))) σ H g' ∧ XExt H g H g' := by
  obtain ⟨p, vs, e, h1, h2, h3⟩ := E.2 i _ hi
  have hlt : i < Γ.length := (List.getElem?_eq_some_iff.mp hi).1
  have hF : g.F p = none := by
    cases q : g.F p with
    | none => rfl
    | some u =>
      have := (S.fh p u q).2.1
      rw [h2] at this
      cases this
  let g' : Gh := { F := upd g.F p (.lst vs), ad := g.ad, Mu := fun a => if a = p then none else g.Mu a }
  have mu : ∀ a, a ≠ p → g'.Mu a = g.Mu a := fun a h => if_neg h
  have mp : g'.Mu p = none := if_pos rfl
  have fle : HLe g.F g'.F := fun a u q => by
    show upd g.F p (.lst vs) a = some u
    rw [upd_ne (ne_of_none q hF)]
    exact q
  have fp : g'.F p = some (.lst vs) := upd_same
  have fo : ∀ a, a ≠ p → g'.F a = g.F a := fun a h => upd_ne h
  refine ⟨g', ⟨fun a u q => ?_, fun a t q => ?_, S.alen, fun k ob q => ?_, S.tabs.to (fun _ _ e => e) fle⟩, ⟨by rw [List.length_set]; exact E.1, fun j s hj => ?_⟩, ⟨fle, fun a o q => ?_, ALe.refl _, fun a k q => ?_, fun a t q => ?_, fun b o q _ _ => q, fun _ q => q⟩⟩
  · by_cases h : a = p
    · subst h
      rw [fp] at q
      cases q
      exact ⟨h1, mp, rfl⟩
    · rw [fo a h] at q
      rw [mu a h]
      exact S.fh a u q
  · by_cases h : a = p
    · subst h
      rw [mp] at q
      cases q
    · rw [mu a h] at q
      exact S.live a t q
  · obtain ⟨a, a1, a2, a3⟩ := S.objs k ob q
    refine ⟨a, a1, ?_, ?_⟩
    · rw [mu a fun z => by rw [z, h2] at a2; cases a2]
      exact a2
    · cases ob with
      | lst m =>
        obtain ⟨us, h4, h5⟩ := a3
        exact ⟨us, h4, h5.mono fle (ALe.refl _)⟩
      | dic _ _ => exact a3
      | ins _ _ => exact a3
  · by_cases hij : i = j
    · subst hij
      rw [List.getElem?_set_self hlt] at hj
      cases hj
      exact ⟨.ref p, e, p, vs, rfl, fp, h3.mono fle (ALe.refl _)⟩
    · rw [List.getElem?_set_ne hij] at hj
      have h := E.2 j s hj
      cases s with
      | no => trivial
      | val d =>
        obtain ⟨v, e1, r⟩ := h
        exact ⟨v, e1, r.mono fle (ALe.refl _)⟩
      | own m =>
        obtain ⟨q, us, e, b1, b2, b3⟩ := h
        refine ⟨q, us, e, b1, ?_, b3.mono fle (ALe.refl _)⟩
        rw [mu q fun z => by rw [z, h2] at b2; cases b2; exact hij rfl]
        exact b2
  · by_cases h : a = p
    · subst h
      exact .inr (.inr ⟨i, h2⟩)
    · rw [fo a h] at q
      exact .inl q
  · rw [mu a fun z => by rw [z, h2] at q; cases q]
    exact q
  · by_cases h : a = p
    · subst h
      rw [mp] at q
      cases q
    · rw [mu a h] at q
      exact .inl q
/-- a slot gets a value -/
theorem ER.setS {Γ : Env} {σ : L2.St} (E : ER G Γ σ H g) {i : Nat} {s : Sl} {v : V} (r : SlotR G g H i (some (some v)) s) (hi : i < Γ.length) : ER G (Γ.set i s) (σ.set i (some v)) H g := by
  refine ⟨by rw [List.length_set, List.length_set]; exact E.1, fun j s' hj => ?_⟩
  by_cases hij : i = j
  · subst hij
    rw [List.getElem?_set_self hi] at hj
    cases hj
    rw [List.getElem?_set_self (by rw [E.1]; exact hi)]
    exact r
  · rw [List.getElem?_set_ne hij] at hj ⊢
    exact E.2 j s' hj
end
end Eng
/-! Eng.L: rules for statements. -/
namespace Eng
open PySem PySem.Spec PyProof.Rows L2

/-- an exception class that may be raised with a text -/
def ExcOk (X : Cx) (Ca : Addr) (x : Str) : Prop := ∃ B newId initId bmB, ExcBaseFacts B newId initId bmB ∧ PySem.W.excIn X.K Ca bmB newId = true ∧ X.mg x = some (.ref Ca) ∧ PySem.W.keepIn X.K (.ref Ca) = true ∧ Raises X (.ref Ca)
structure Gs (G : GP) (P : Prg) (C : Nm) (cs : List CallT) (X : Cx) (N : List Str) (sc : Scope) (W : WX) : Prop where
  gd : Gd G P C cs X N sc W
  hf : ∀ x, X.fn x = true
  hp : PassesOwn (model X.prog X.w) X.A X.env X.xe
  kd : sc.kind = .function
  exc : ∀ (c : Nat) (x : Str), C.ex[c]? = some x → ExcOk X (G.ca c) x
section
variable {G : GP} {P : Prg} {C : Nm} {cs : List CallT} {X : Cx} {N : List Str} {sc : Scope} {W : WX}
theorem kindOf_ (h : Gs G P C cs X N sc W) (x : Str) : X.env.kindOf x = sc.names.lookup x := by
  show X.env.scope.names.lookup x = _
  rw [h.gd.hsc]
theorem bk_ (h : Gs G P C cs X N sc W) : X.env.blockKind = .function := by
  unfold Env.blockKind
  rw [h.gd.hsc, h.kd]
  rfl
/-! ### is the store of a comprehension swapped; are two stores -/
def swB (sc : Scope) (tg v : Expr) : Bool := match v, tg with
  | .ListComp _ _ s p, .Name t q => (sc.names.lookup t == some .local) && ((q.line == p.line) && !(s.names.any fun y => (y.1 == t) && ((y.2 == .local) || (y.2 == .cell))))
  | _, _ => false
def okV : Expr → Bool
  | .SetComp _ _ _ _ => false
  | .DictComp _ _ _ _ _ => false
  | _ => true
def okV0 : Expr → Bool
  | .SetComp _ _ _ _ => false
  | .DictComp _ _ _ _ _ => false
  | .ListComp _ _ _ _ => false
  | _ => true
theorem sw_ok (h : Gs G P C cs X N sc W) {tg v : Expr} {l : Nat} (hv : okV v = true) : swapsWith v (some tg) l X.env = pure (swB sc tg v) := by
  cases v <;> first
    | rfl
    | (cases hv; done)
    | skip
  rename_i elt gs s p
  cases tg <;> first
    | rfl
    | skip
  rename_i t q
  unfold swapsWith swB
  simp only [bk_ h, kindOf_ h, Expr.pos]
  congr 1
  simp only [Bool.and_assoc]
  rfl
theorem sw_sole (h : Gs G P C cs X N sc W) {tg v : Expr} {l : Nat} (hv : okV v = true) (hs : swB sc tg v = false) : swapsWithSole [tg] v l X.env = pure false := by
  show swapsWith v (some tg) l X.env = _
  rw [sw_ok h hv, hs]
theorem sw_none {v : Expr} {l : Nat} (hv : okV0 v = true) : swapsWith v none l X.env = pure false := by
  cases v <;> first
    | rfl
    | (cases hv; done)
def swLine (ts : List Expr) : Nat := (ts.head?.map (·.pos.line)).getD 0
def swNames (sc : Scope) (ts : List Expr) : List Str := ts.filterMap fun
    | .Name id pos => if (sc.names.lookup id == some .local && pos.line == swLine ts) then some id else none
    | _ => none
def noStar (vs : List Expr) : Bool := !(vs.any fun | .Starred .. => true | _ => false)
def swNo (sc : Scope) (ts vs : List Expr) : Bool := !(ts.length == 2 || ts.length == 3) || vs.length != ts.length || (swNames sc ts).length != ts.length || (swNames sc ts).eraseDups.length != (swNames sc ts).length || vs.all (foldedForSure 8)
def swYes (sc : Scope) (ts vs : List Expr) : Bool := (ts.length == 2 || ts.length == 3) && vs.length == ts.length && noStar vs && ((swNames sc ts).length == ts.length) && ((swNames sc ts).eraseDups.length == (swNames sc ts).length) && !vs.all (foldedForSure 8) && !vs.all (constantsAlone 8)
theorem swN_eq (h : Gs G P C cs X N sc W) (ts : List Expr) : (ts.filterMap fun
    | .Name id pos => if (X.env.kindOf id == some .local && pos.line == (ts.head?.map (·.pos.line)).getD 0) then some id else none
    | _ => none) = swNames sc ts := by
  unfold swNames
  congr 1
  funext e
  cases e <;> first
    | rfl
    | skip
  simp only [kindOf_ h]
  rfl
theorem swNo_ok (h : Gs G P C cs X N sc W) {ts vs : List Expr} {k k2 : Nat} {p p2 : Pos} (hs : swNo sc ts vs = true) : swappedStores [.Tuple ts k p] (.Tuple vs k2 p2) X.env = pure none := by
  unfold swNo at hs
  simp only [Bool.or_eq_true] at hs
  unfold swappedStores
  simp only [bk_ h]
  generalize hF : List.filterMap _ ts = nm
  have e : nm = swNames sc ts := hF.symm.trans (swN_eq h ts)
  clear hF
  subst e
  generalize List.any vs _ = sb
  by_cases h1 : (!(ts.length == 2 || ts.length == 3) || vs.length != ts.length || (ScopeKind.function != ScopeKind.function)) = true
  · rw [if_pos h1]
  · rw [if_neg h1]
    cases sb with
    | true => rfl
    | false =>
      rw [if_neg Bool.false_ne_true]
      by_cases h3 : ((swNames sc ts).length != ts.length || (swNames sc ts).eraseDups.length != (swNames sc ts).length) = true
      · rw [if_pos h3]
      · rw [if_neg h3]
        by_cases h4 : vs.all (foldedForSure 8) = true
        · rw [if_pos h4]
        · exfalso
          simp only [Bool.or_eq_true, not_or] at h1 h3
          rcases hs with (((hs | hs) | hs) | hs) | hs
          · exact h1.1.1 hs
          · exact h1.1.2 hs
          · exact h3.1 hs
          · exact h3.2 hs
          · exact h4 hs
theorem swYes_ok (h : Gs G P C cs X N sc W) {ts vs : List Expr} {k k2 : Nat} {p p2 : Pos} (hs : swYes sc ts vs = true) : swappedStores [.Tuple ts k p] (.Tuple vs k2 p2) X.env = pure (some (swNames sc ts)) := by
  unfold swYes noStar at hs
  simp only [Bool.and_eq_true, Bool.not_eq_true', beq_iff_eq] at hs
  obtain ⟨⟨⟨⟨⟨⟨h1, h2⟩, h3⟩, h4⟩, h5⟩, h6⟩, h7⟩ := hs
  unfold swappedStores
  simp only [bk_ h]
  generalize hF : List.filterMap _ ts = nm
  have e : nm = swNames sc ts := hF.symm.trans (swN_eq h ts)
  clear hF
  subst e
  generalize hF : List.any vs _ = sb
  have e : sb = false := hF.symm.trans h3
  clear hF
  subst e
  rw [if_neg (by rw [h1, h2]; simp), if_neg Bool.false_ne_true, if_neg (by rw [h5, h4]; simp), if_neg (by rw [h6]; exact Bool.false_ne_true), if_neg (by rw [h7]; exact Bool.false_ne_true)]

/-! ### small statements -/
theorem expr_S (h : Gs G P C cs X N sc W) {e : Expr} {pos : Pos} {s : Bool} {f : Env → Sto → R D} (hv : okV0 e = true) (he : PE X e (TEv G W s f)) : PS X (.Expr e pos) (TSv G W fun Γ st => (f Γ st).then_ Γ fun _ st1 => .nx Γ st1) :=
  (ps_expr he (sw_none hv)).weak fun Dn σ H ⟨Γ, st, g, S, E, w⟩ => ⟨Γ, st, g, S, E, (w.then σ).imp fun d st1 H1 g1 S1 x1 w1 v r => w1 σ H1 g1 S1 (E.ext x1) (XExt.refl _ _)⟩
theorem ret_S {e : Expr} {pos : Pos} {f : Env → Sto → R D} (he : PE X e (TEv G W true f)) : PS X (.Return (some e) pos) (TSv G W fun Γ st => (f Γ st).then_ Γ fun d st1 => .ret d st1) :=
  (ps_ret he).weak fun Dn σ H ⟨Γ, st, g, S, E, w⟩ => ⟨Γ, st, g, S, E, (w.then σ).imp fun d st1 H1 g1 S1 x1 w1 v r => w1 H1 g1 v S1 (XExt.refl _ _) r⟩
theorem retN_S {pos : Pos} : PS X (.Return none pos) (TSv G W fun _ st => .ret .non st) :=
  ps_retN.weak fun Dn σ H ⟨Γ, st, g, S, E, w⟩ => w H g .non S (XExt.refl _ _) rfl
theorem pass_S {pos : Pos} : PS X (.Pass pos) (TSv G W fun Γ st => .nx Γ st) := ps_pass.weak fun Dn σ H ⟨Γ, st, g, S, E, w⟩ => w σ H g S E (XExt.refl _ _)
theorem brk_S {pos : Pos} : PS X (.Break pos) (TSv G W fun Γ st => .brk Γ st) := ps_break.weak fun Dn σ H ⟨Γ, st, g, S, E, w⟩ => w σ H g S E (XExt.refl _ _)
theorem cont_S {pos : Pos} : PS X (.Continue pos) (TSv G W fun Γ st => .cnt Γ st) := ps_continue.weak fun Dn σ H ⟨Γ, st, g, S, E, w⟩ => w σ H g S E (XExt.refl _ _)
theorem rais_S (h : Gs G P C cs X N sc W) {c : Nat} {x : Str} {m : Str} {j : Nat} {p p2 p3 pos : Pos} (hc : C.ex[c]? = some x) (hg : glB sc x = true) : PS X (.Raise (some (.Call (.Name x p) [.Constant (.str m) j p2] [] p3)) none pos) (TSv G W fun Γ st => .er c Γ st) := by
  obtain ⟨B, n1, n2, bm, F, q, gC, kC, r⟩ := h.exc c x hc
  obtain ⟨g1, g2⟩ := gl_of h.gd hg
  exact (ps_raise h.gd.calm h.gd.tk (pmk_own F q gC kC r g1 g2)).weak fun Dn σ H ⟨Γ, st, g, S, E, w⟩ => w σ H g S (XExt.refl _ _)
theorem nil_S : PSs X [] (TSv G W fun Γ st => .nx Γ st) := pss_nil.weak fun Dn σ H ⟨Γ, st, g, S, E, w⟩ => w σ H g S E (XExt.refl _ _)
theorem cons_S {s : Stmt} {r : List Stmt} {f f2 : Env → Sto → O} (h1 : PS X s (TSv G W f)) (h2 : PSs X r (TSv G W f2)) : PSs X (s :: r) (TSv G W fun Γ st => (f Γ st).seq fun Γ1 st1 => f2 Γ1 st1) :=
  (pss_cons h1 h2).weak fun Dn σ H ⟨Γ, st, g, S, E, w⟩ => ⟨Γ, st, g, S, E, w.seq⟩
theorem frz_S {r : List Stmt} {i : Nat} {f : Env → Sto → O} (h : PSs X r (TSv G W f)) : PSs X r (TSv G W fun Γ st => match Γ[i]? with
    | some (.own l) => f (Γ.set i (.val (.lst l))) st
    | some (.val _) => f Γ st
    | _ => .bad) := by
  refine h.weak fun Dn σ H ⟨Γ, st, g, S, E, w⟩ => ?_
  cases hi : Γ[i]? with
  | none => simp only [hi] at w; exact w.elim
  | some s =>
    simp only [hi] at w
    cases s with
    | own l =>
      obtain ⟨g', S', E', x'⟩ := own_frz S E hi
      exact ⟨_, st, g', S', E', WpO.x x' w⟩
    | val d => exact ⟨Γ, st, g, S, E, w⟩
    | no => exact w.elim
theorem if_S {c : Expr} {a b : List Stmt} {pos : Pos} {fc : Env → Sto → R Bool} {f f2 : Env → Sto → O} (hc : PT X c (TTv G W fc)) (ha : PSs X a (TSv G W f)) (hb : PSs X b (TSv G W f2)) :
    PS X (.If c a b pos) (TSv G W fun Γ st => (fc Γ st).then_ Γ fun t st1 => if t then f Γ st1 else f2 Γ st1) := by
  refine (ps_if hc ha hb).weak fun Dn σ H ⟨Γ, st, g, S, E, w⟩ => ⟨Γ, st, g, S, E, (w.then σ).imp fun k st1 H1 g1 S1 x1 w1 => ?_⟩
  cases k with
  | true => exact ⟨Γ, st1, g1, S1, E.ext x1, w1⟩
  | false => exact ⟨Γ, st1, g1, S1, E.ext x1, w1⟩
theorem while_S (h : Gs G P C cs X N sc W) {c : Expr} {b : List Stmt} {pos : Pos} {n : Nat} {fc : Env → Sto → R Bool} {f : Env → Sto → O} (hc : PT X c (TTv G W fc)) (hb : PSs X b (TSv G W f)) :
    PS X (.While c b [] pos) (TSv G W (whileL fc f n)) := by
  refine (ps_while h.hp hc hb).weak fun Dn σ H ⟨Γ, st, g, S, E, w⟩ => ?_
  refine ⟨fun m σ H => ∃ Γ st g, SR G H st g ∧ ER G Γ σ H g ∧ WpO G W Dn (whileL fc f m Γ st) H g, ⟨n, Γ, st, g, S, E, w⟩, ?_⟩
  rintro m σ H ⟨Γ, st, g, S, E, w⟩
  cases m with
  | zero => exact w.elim
  | succ m =>
    rw [loop_w] at w
    refine ⟨Γ, st, g, S, E, (w.then σ).imp fun k st1 H1 g1 S1 x1 w1 => ?_⟩
    cases k with
    | true => exact ⟨nxK G W Dn (whileL fc f m), fun σ' H' q => ⟨m, Nat.lt_succ_self m, q⟩, Γ, st1, g1, S1, E.ext x1, w1.loop⟩
    | false => exact w1 σ H1 g1 S1 (E.ext x1) (XExt.refl _ _)
theorem for_S (h : Gs G P C cs X N sc W) {tg iter : Expr} {b : List Stmt} {pos : Pos} {p : Pt} {fi : Env → Sto → R (List D)} {f : Env → Sto → O} (hi : PI X tg iter (TIv G W true fi)) (hp : mtP N sc sc p tg = true) (hs : notSet iter = true) (hb : PSs X b (TSv G W f)) :
    PS X (.For tg iter b [] pos) (TSv G W fun Γ st => (fi Γ st).then_ Γ fun xs st1 => forL (bindP p) f xs Γ st1) := by
  refine (ps_for h.hp h.gd.calm hi (pg_P h.gd.hN h.gd.nd h.gd.hsc (fun x _ => h.hf x) h.gd.calm hp) hb fun x => notSet_ok hs).weak fun Dn σ H ⟨Γ, st, g, S, E, w⟩ => ?_
  refine ⟨Γ, st, g, S, E, (w.then σ).imp fun xs st1 H1 g1 S1 x1 w1 J src => ?_⟩
  obtain ⟨S0, Y, wk, stay, yld⟩ := src.ex
  refine for_it wk (fun i σ H => ∃ Γ st g, SR G H st g ∧ ER G Γ σ H g ∧ HLe g1.F g.F ∧ ALe g1.ad g.ad ∧ WpO G W Dn (forL (bindP p) f (xs.drop i) Γ st) H g) ⟨Γ, st1, g1, S1, E.ext x1, HLe.refl _, ALe.refl _, w1⟩ ?_ ?_ ?_
  · rintro i σ H hi ⟨Γ, st, g, S, E, hF, hA, w⟩
    exact stay H st g S hF
  · rintro i x σ H H' hi ⟨Γ, st, g, S, E, hF, hA, w⟩ hy
    obtain ⟨d, g3, hd, S3, x3, rd⟩ := yld i H x H' st g hi S hF hA hy
    have hxi : xs.drop i = d :: xs.drop (i + 1) := by
      obtain ⟨hlt, e⟩ := List.getElem?_eq_some_iff.mp hd
      rw [List.drop_eq_getElem_cons hlt, e]
    rw [hxi, loop_f] at w
    cases hb' : bindP p d Γ with
    | none => rw [hb'] at w; exact w.elim
    | some Γ' =>
      rw [hb'] at w
      refine gPt_ok h.gd.hK S3 p (E.ext x3) rd hb' fun σ' E' _ => ⟨Γ', st, g3, S3, E', ?_⟩
      have w' := WpO.loopX (WpO.x x3.x w)
      have hF3 := hF.trans x3.f
      have hA3 := hA.trans x3.ad
      have next : ∀ σ'' H'', (∃ Γ' st' g', SR G H'' st' g' ∧ ER G Γ' σ'' H'' g' ∧ XExt H' g3 H'' g' ∧ WpO G W Dn (forL (bindP p) f (xs.drop (i + 1)) Γ' st') H'' g') → ∃ Γ st g, SR G H'' st g ∧ ER G Γ σ'' H'' g ∧ HLe g1.F g.F ∧ ALe g1.ad g.ad ∧ WpO G W Dn (forL (bindP p) f (xs.drop (i + 1)) Γ st) H'' g :=
        fun σ'' H'' ⟨Γ', st', g', S', E', y, w⟩ => ⟨Γ', st', g', S', E', hF3.trans y.f, hA3.trans y.ad, w⟩
      exact w'.mono next (fun _ _ q => q) (fun _ _ q => q) next
  · rintro σ H ⟨Γ, st, g, S, E, hF, hA, w⟩
    rw [List.drop_length] at w
    exact w σ H g S E (XExt.refl _ _)
end
end Eng
/-! Eng.M: stores. -/
namespace Eng
open PySem PySem.Spec PyProof.Rows L2
section
variable {G : GP} {P : Prg} [hl : HLam G P] {C : Nm} {cs : List CallT} {X : Cx} {N : List Str} {sc : Scope} {W : WX}
theorem WpO.seqX {Dn : Ends} {H : Hp} {g : Gh} {o : O} {f : Env → Sto → O} (w : WpO G W Dn (o.seq f) H g) : WpO G W { Dn with nx := fun σ' H' => ∃ Γ' st' g', SR G H' st' g' ∧ ER G Γ' σ' H' g' ∧ XExt H g H' g' ∧ WpO G W Dn (f Γ' st') H' g' } o H g := by
  cases o with
  | nx Γ st => exact fun σ' H' g' S E y => ⟨Γ, st, g', S, E, y, WpO.x y w⟩
  | ret d st => exact w
  | brk Γ st => exact w
  | cnt Γ st => exact w
  | er c Γ st => exact w
  | bad => exact w
/-- a target's reading -/
def TGv (G : GP) (W : WX) (f : D → Env → Sto → O) : TG := fun v σ H Q => ∃ Γ st g d Dn, SR G H st g ∧ ER G Γ σ H g ∧ Rp G g.F g.ad d v ∧ (∀ σ H, Dn.nx σ H → Q σ H) ∧ WpO G W Dn (f d Γ st) H g
def nmB (N : List Str) (sc : Scope) (i : Nat) (y : Str) : Bool := (N[i]? == some y) && ((sc.names.lookup y == some .local) || (sc.names.lookup y == some .cell))
theorem name_G (h : Gs G P C cs X N sc W) {i : Nat} {y : Str} {pos : Pos} (m : nmB N sc i y = true) : PG X (.Name y pos) (gName i) := by
  unfold nmB at m
  simp only [Bool.and_eq_true, Bool.or_eq_true, beq_iff_eq] at m
  refine pg_name (by rw [h.gd.hN]; exact h.gd.nd) (by rw [h.gd.hN]; exact m.1) ?_ (.inl (h.hf y))
  unfold L2.Loc
  rw [h.gd.hsc]
  exact m.2
def mtT (C : Nm) (N : List Str) (sc : Scope) : Tg → Expr → Bool
  | .name i, x => (match x with
    | .Name y _ => nmB N sc i y
    | _ => false)
  | .pair a b, x => (match x with
    | .Tuple [y, z] _ _ => mtT C N sc a y && mtT C N sc b z
    | _ => false)
  | .trip a b c, x => (match x with
    | .Tuple [y, z, t] _ _ => mtT C N sc a y && (mtT C N sc b z && mtT C N sc c t)
    | _ => false)
  | .ixo i e, x => (match x with
    | .Subscript (.Name y _) z _ => visB N sc i y && (notSl z && mtE C N sc e z)
    | _ => false)
  | .rix o e, x => (match x with
    | .Subscript y z _ => notSl z && (mtE C N sc o y && mtE C N sc e z)
    | _ => false)
theorem mtT_plain {t : Tg} {e : Expr} (h : mtT C N sc t e = true) : plainE e = true := by
  cases e <;> first
    | rfl
    | (cases t <;> cases h)
theorem sub_set {i o : Expr} {pos : Pos} {env : PySem.Env} (h : notSl i = true) : ∀ v, assign (.Subscript o i pos) env v = (do
      let ov ← holding [v] (eval o env)
      let iv ← holding [v, ov] (eval i env)
      standAt pos
      holding [v, ov, iv] (setItem ov iv v)
      release [v, ov, iv] []) := by
  intro v
  cases i <;> first
    | rfl
    | (cases h; done)
theorem then_bad {α : Type} {Dn : Ends} {H : Hp} {g : Gh} {r : R α} {Γ : Env} {f : α → Sto → O} (h : WpO G W Dn (r.then_ Γ f) H g) (hb : ∀ a st, f a st = .bad) : (∀ a st, r ≠ .ok a st) ∧ r ≠ .bad := by
  constructor
  · intro a st e
    rw [e] at h
    have h : WpO G W Dn (f a st) H g := h
    rw [hb] at h
    exact h
  · intro e
    rw [e] at h
    exact h
theorem evT (h : Gs G P C cs X N sc W) : ∀ (t : Tg) {e : Expr}, mtT C N sc t e = true → PG X e (TGv G W (putT P cs t))
  | .name i, e, m => by
    unfold mtT at m
    split at m
    · refine (name_G h m).weak fun v σ H Q ⟨Γ, st, g, d, Dn, S, E, r, q, w⟩ => ?_
      have w : WpO G W Dn (if i < Γ.length then .nx (Γ.set i (.val d)) st else .bad) H g := w
      by_cases hi : i < Γ.length
      · rw [if_pos hi] at w
        exact q _ _ (w _ H g S (E.set r hi) (XExt.refl _ _))
      · rw [if_neg hi] at w
        exact w.elim
    · cases m
  | .pair a b, e, m => by
    unfold mtT at m
    split at m
    · rename_i y z k pos
      rw [Bool.and_eq_true] at m
      have p1 := mtT_plain m.1
      have p2 := mtT_plain m.2
      refine (pg_tup (n := 2) h.gd.calm (pgs_cons (evT h a m.1) (pgs_cons (evT h b m.2) pgs_nil (by rw [aset_1 p2] <;> rfl)) (by rw [aset_1 p1] <;> rfl)) (by rw [aset_1 p1, aset_1 p2] <;> rfl) (by rw [aset_1 p1, aset_1 p2] <;> rfl)).weak fun v σ H Q ⟨Γ, st, g, d, Dn, S, E, r, q, w⟩ => ?_
      unfold putT at w
      split at w
      · obtain ⟨p, vs, rfl, hsq, v1, t1, rfl, r1, v2, t2, rfl, r2, e3⟩ := r
        have e3 : t2 = [] := e3
        subst e3
        refine ⟨p, _, rfl, by rw [h.gd.hK]; exact S.hle.sqT hsq, rfl, v1, [v2], rfl, Γ, st, g, _, _, S, E, r1, ?_, w.seqX⟩
        rintro σ' H' ⟨Γ', st', g', S', E', x', w'⟩
        exact ⟨v2, [], rfl, Γ', st', g', _, Dn, S', E', r2.mono x'.f x'.ad, fun σ H z => ⟨rfl, q σ H z⟩, w'⟩
      · exact w.elim
    · cases m
  | .trip a b c, e, m => by
    unfold mtT at m
    split at m
    · rename_i y z t k pos
      rw [Bool.and_eq_true, Bool.and_eq_true] at m
      have p1 := mtT_plain m.1
      have p2 := mtT_plain m.2.1
      have p3 := mtT_plain m.2.2
      refine (pg_tup (n := 3) h.gd.calm (pgs_cons (evT h a m.1) (pgs_cons (evT h b m.2.1) (pgs_cons (evT h c m.2.2) pgs_nil (by rw [aset_1 p3] <;> rfl)) (by rw [aset_1 p2] <;> rfl)) (by rw [aset_1 p1] <;> rfl)) (by rw [aset_1 p1, aset_1 p2, aset_1 p3] <;> rfl) (by rw [aset_1 p1, aset_1 p2, aset_1 p3] <;> rfl)).weak fun v σ H Q ⟨Γ, st, g, d, Dn, S, E, r, q, w⟩ => ?_
      unfold putT at w
      split at w
      · obtain ⟨p, vs, rfl, hsq, v1, t1, rfl, r1, v2, t2, rfl, r2, v3, t3, rfl, r3, e3⟩ := r
        have e3 : t3 = [] := e3
        subst e3
        refine ⟨p, _, rfl, by rw [h.gd.hK]; exact S.hle.sqT hsq, rfl, v1, [v2, v3], rfl, Γ, st, g, _, _, S, E, r1, ?_, w.seqX⟩
        rintro σ' H' ⟨Γ', st', g', S', E', x', w'⟩
        refine ⟨v2, [v3], rfl, Γ', st', g', _, _, S', E', r2.mono x'.f x'.ad, ?_, w'.seqX⟩
        rintro σ2 H2 ⟨Γ2, st2, g2, S2, E2, x2, w2⟩
        exact ⟨v3, [], rfl, Γ2, st2, g2, _, Dn, S2, E2, (r3.mono x'.f x'.ad).mono x2.f x2.ad, fun σ H z => ⟨rfl, q σ H z⟩, w2⟩
      · exact w.elim
    · cases m
  | .ixo i e', e, m => by
    unfold mtT at m
    split at m
    · rename_i y p z pos
      rw [Bool.and_eq_true, Bool.and_eq_true] at m
      refine (pg_sub (name_E h.gd m.1) (pe_false (evE e' C cs X N sc W z h.gd m.2.2).1) set_list (sub_set m.2.1)).weak fun v σ H Q ⟨Γ, st, g, d, Dn, S, E, r, q, w⟩ => ?_
      have w : WpO G W Dn (match Γ[i]? with
        | some (.own l) => (ev P cs e' Γ st).then_ Γ fun k st1 => (match k with
          | .int k => (match setD l k d with
            | some l' => .nx (Γ.set i (.own l')) st1
            | none => .bad)
          | _ => .bad)
        | _ => .bad) H g := w
      cases hi : Γ[i]? with
      | none => simp only [hi] at w; exact w.elim
      | some s =>
        simp only [hi] at w
        cases s with
        | own l =>
          obtain ⟨p', vs, e1, h1, h2, h3⟩ := E.2 i _ hi
          refine ⟨.ref p', e1, Γ, st, g, S, E, (w.then σ).imp fun kd st1 H1 g1 S1 x1 w1 kv rk => ?_⟩
          cases kd with
          | int k =>
            have w1 : WpO G W Dn (match setD l k d with
              | some l' => .nx (Γ.set i (.own l')) st1
              | none => .bad) H1 g1 := w1
            unfold setD at w1
            cases hj : L2.ixN l.length k with
            | none => rw [hj] at w1; exact w1.elim
            | some j =>
              rw [hj] at w1
              have w1 : WpO G W Dn (.nx (Γ.set i (.own (l.set j d))) st1) H1 g1 := w1
              have n1 := x1.keep p' _ h1 rfl fun k hk => by rw [h2] at hk; cases hk
              have n2 := x1.mu _ _ h2
              have rr := Rps.set (r.mono x1.f x1.ad) j (h3.mono x1.f x1.ad)
              refine ⟨p', vs, k, j, rfl, Ru.int rk, n1, by rw [h3.length]; exact hj, ?_⟩
              obtain ⟨S2, x2⟩ := S1.ownSet (vs := vs.set j v) n2
              exact q _ _ (w1 σ _ g1 S2 ((E.ext x1).ownSet n2 e1 (List.getElem?_eq_some_iff.mp hi).1 rr) x2)
          | _ => exact w1.elim
        | val d' => exact w.elim
        | no => exact w.elim
    · cases m
  | .rix o e', e, m => by
    unfold mtT at m
    split at m
    · rename_i y z pos
      rw [Bool.and_eq_true, Bool.and_eq_true] at m
      refine (pg_sub (pe_false (evE o C cs X N sc W y h.gd m.2.1).1) (pe_false (evE e' C cs X N sc W z h.gd m.2.2).1) set_list (sub_set m.1)).weak fun v σ H Q ⟨Γ, st, g, d, Dn, S, E, r, q, w⟩ => ?_
      have w : WpO G W Dn ((ev P cs o Γ st).then_ Γ fun rd st1 => (ev P cs e' Γ st1).then_ Γ fun k st2 => (match rd, k with
        | .ref n, .int k => (match st2[n]? with
          | some (.lst l) => (match setD l k d with
            | some l' => .nx Γ (st2.set n (.lst l'))
            | none => .bad)
          | _ => .bad)
        | _, _ => .bad)) H g := w
      refine ⟨Γ, st, g, S, E, (w.then σ).imp fun rd st1 H1 g1 S1 x1 w1 ov ro => ⟨Γ, st1, g1, S1, E.ext x1, (w1.then σ).imp fun kd st2 H2 g2 S2 x2 w2 kv rk => ?_⟩⟩
      cases rd with
      | ref n =>
        cases kd with
        | int k =>
          cases hn : st2[n]? with
          | none => simp only [hn] at w2; exact w2.elim
          | some ob =>
            simp only [hn] at w2
            cases ob with
            | lst l =>
              simp only [] at w2
              unfold setD at w2
              cases hj : L2.ixN l.length k with
              | none => rw [hj] at w2; exact w2.elim
              | some j =>
                rw [hj] at w2
                have w2 : WpO G W Dn (.nx Γ (st2.set n (.lst (l.set j d)))) H2 g2 := w2
                have ro2 : Ru G g2 H2 (.ref n) ov := Ru.ext x2 ro.u
                rcases ro2 with ⟨a, rfl, ha⟩ | ⟨_, _, _, _, e, _⟩
                · obtain ⟨a', a1, a2, vs, a3, a4⟩ := S2.objs n _ hn
                  rw [ha] at a1
                  cases a1
                  have x12 := x1.trans x2
                  have rr := Rps.set (r.mono x12.f x12.ad) j a4
                  refine ⟨a, vs, k, j, rfl, Ru.int rk.u, a3, by rw [a4.length]; exact hj, ?_⟩
                  obtain ⟨S3, x3⟩ := S2.objSet hn rr ha
                  exact q _ _ (w2 σ _ g2 S3 (((E.ext x1).ext x2).objSet a2) x3)
                · cases e
            | dic _ _ => exact w2.elim
            | ins _ _ => exact w2.elim
        | _ => exact w2.elim
      | _ => exact w2.elim
    · cases m

/-! ### assignments -/
def asgOk (sc : Scope) (tg v : Expr) : Bool := okV v && (!swB sc tg v && (match tg, v with
  | .Tuple ts _ _, .Tuple vs _ _ => swNo sc ts vs
  | _, _ => true))
theorem swp_ok (h : Gs G P C cs X N sc W) {t : Tg} {tg v : Expr} (m : mtT C N sc t tg = true) (ha : asgOk sc tg v = true) : swappedStores [tg] v X.env = pure none := by
  unfold asgOk at ha
  simp only [Bool.and_eq_true] at ha
  obtain ⟨_, _, ha⟩ := ha
  cases tg <;> first
    | rfl
    | (cases t <;> simp [mtT] at m; done)
    | skip
  cases v <;> first
    | rfl
    | exact swNo_ok h ha
theorem asg_S (h : Gs G P C cs X N sc W) {t : Tg} {tg e : Expr} {pos : Pos} {f : Env → Sto → R D} (m : mtT C N sc t tg = true) (ha : asgOk sc tg e = true) (he : PE X e (TEv G W true f)) :
    PS X (.Assign [tg] e pos) (TSv G W fun Γ st => (f Γ st).then_ Γ fun d st1 => putT P cs t d Γ st1) := by
  have hw := swp_ok h m ha
  unfold asgOk at ha
  simp only [Bool.and_eq_true, Bool.not_eq_true'] at ha
  refine (ps_asg he (evT h t m) (sw_sole h ha.1 ha.2.1) hw (by rw [aset_1 (mtT_plain m)] <;> rfl)).weak fun Dn σ H ⟨Γ, st, g, S, E, w⟩ => ?_
  exact ⟨Γ, st, g, S, E, (w.then σ).imp fun d st1 H1 g1 S1 x1 w1 v r => ⟨Γ, st1, g1, d, Dn, S1, E.ext x1, r, fun _ _ z => z, w1⟩⟩
theorem own_store {Dn : Ends} {Γ : Env} {σ : L2.St} {H1 : Hp} {st1 : Sto} {g1 : Gh} {i : Nat} {l : List D} (w : WpO G W Dn (if i < Γ.length then .nx (Γ.set i (.own l)) st1 else .bad) H1 g1) (S1 : SR G H1 st1 g1) (E1 : ER G Γ σ H1 g1) {p : Addr} {us : List V} (h1 : H1 p = some (.lst us)) (h2 : g1.Mu p = some (.slot i)) (h3 : Rps G g1.F g1.ad l us) : Dn.nx (σ.set i (some (.ref p))) H1 := by
  by_cases hi : i < Γ.length
  · rw [if_pos hi] at w
    exact w _ H1 g1 S1 (E1.setS (s := .own l) ⟨p, us, rfl, h1, h2, h3⟩ hi) (XExt.refl _ _)
  · rw [if_neg hi] at w
    exact w.elim
theorem imp_ext {α : Type} {E : Value → Hp → Prop} {r : R α} {H : Hp} {g : Gh} {post : α → Sto → Hp → Gh → Prop} (w : Wp G E r H g post) : Wp G E r H g fun a st' H' g' => SR G H' st' g' ∧ Ext H g H' g' ∧ post a st' H' g' := w.imp fun _ _ _ _ S x q => ⟨S, x, q⟩
theorem setN_S (h : Gs G P C cs X N sc W) {i : Nat} {y : Str} {py pos : Pos} {e : Expr} {f : Env → Sto → R D} (m : nmB N sc i y = true) (hv : okV e = true) (hs : swB sc (.Name y py) e = false) (he : PE X e (TNv G W i fun Γ st => asL (f Γ st))) :
    PS X (.Assign [.Name y py] e pos) (TSv G W fun Γ st => (asL (f Γ st)).then_ Γ fun l st1 => if i < Γ.length then .nx (Γ.set i (.own l)) st1 else .bad) := by
  refine (ps_asg he (name_G h m) (sw_sole h hv hs)).weak fun Dn σ H ⟨Γ, st, g, S, E, w⟩ => ?_
  exact ⟨Γ, st, g, S, E, (imp_ext (w.then σ)).imp fun l st1 H1 g1 S1 x1 w1 p us h1 h2 h3 => own_store w1.2.2 S1 (E.ext x1) h1 h2 h3⟩
variable {fr : Bool} {p : Pt} {fi : Env → Sto → R (List D)} {fc : Env → Sto → R Bool} {fe : Env → Sto → R D} {elt tg iter : Expr} {ifs : List Expr} {scope : Scope} {own : List (Str × Nat)}
theorem swB_loc {sc : Scope} {y : Str} {py : Pos} {v : Expr} (h : swB sc (.Name y py) v = true) : sc.names.lookup y = some .local := by
  unfold swB at h
  split at h
  · rename_i e
    cases e
    simp only [Bool.and_eq_true, beq_iff_eq] at h
    exact h.1
  · cases h
theorem lcN_S (h : Gs G P C cs X N sc W) (L : LcOk G P C cs X N sc W fr p fi fc fe elt tg iter ifs scope own) {i : Nat} {y : Str} {py pos spos : Pos} (m : nmB N sc i y = true) (hs : swB sc (.Name y py) (.ListComp elt [⟨tg, iter, ifs, 0⟩] scope pos) = true) :
    PS X (.Assign [.Name y py] (.ListComp elt [⟨tg, iter, ifs, 0⟩] scope pos) spos) (TSv G W fun Γ st => (asL (compR .lst p (own.map (·.2)) fi fc fe Γ st)).then_ Γ fun l st1 => if i < Γ.length then .nx (Γ.set i (.own l)) st1 else .bad) := by
  unfold nmB at m
  simp only [Bool.and_eq_true, beq_iff_eq] at m
  refine (L.ps h.gd m.1 (swB_loc hs) (by rw [sw_ok h rfl, hs])).weak fun Dn σ H ⟨Γ, st, g, S, E, w⟩ => ?_
  exact lc_V (i := i) h.gd.hK L.hv ⟨Γ, st, g, S, E, (imp_ext (w.then σ)).imp fun l st1 H1 g1 S1 x1 w1 p us h1 h2 h3 => own_store w1.2.2 S1 (E.ext x1) h1 h2 h3⟩
theorem lcV_S (h : Gs G P C cs X N sc W) (L : LcOk G P C cs X N sc W fr p fi fc fe elt tg iter ifs scope own) {i : Nat} {y : Str} {py pos spos : Pos} (m : nmB N sc i y = true) (hs : swB sc (.Name y py) (.ListComp elt [⟨tg, iter, ifs, 0⟩] scope pos) = true) :
    PS X (.Assign [.Name y py] (.ListComp elt [⟨tg, iter, ifs, 0⟩] scope pos) spos) (TSv G W fun Γ st => (compR .lst p (own.map (·.2)) fi fc fe Γ st).then_ Γ fun d st1 => if i < Γ.length then .nx (Γ.set i (.val d)) st1 else .bad) := by
  unfold nmB at m
  simp only [Bool.and_eq_true, beq_iff_eq] at m
  refine (L.ps h.gd m.1 (swB_loc hs) (by rw [sw_ok h rfl, hs])).weak fun Dn σ H ⟨Γ, st, g, S, E, w⟩ => ?_
  refine compR_V (s := true) h.gd.hK L.hv ⟨Γ, st, g, S, E, (w.then σ).imp fun d st1 H1 g1 S1 x1 w1 v r => ?_⟩
  by_cases hi : i < Γ.length
  · rw [if_pos hi] at w1
    exact w1 _ H1 g1 S1 ((E.ext x1).set r hi) (XExt.refl _ _)
  · rw [if_neg hi] at w1
    exact w1.elim

/-! ### name op= e -/
def augOk : Bop → Bool
  | .pow => false
  | _ => true
def rAug (o : Bop) : R2 := fun x y H Q => (∃ i j k, x = .int i ∧ y = .int j ∧ bopV o (.int i) (.int j) = some (.int k) ∧ Q (.int k) H) ∨ (o = .add ∧ ∃ a b : Str, x = .str a ∧ y = .str b ∧ a.length < lim ∧ b.length < lim ∧ Q (.str (a ++ b)) H)
theorem aug_R {o : Bop} (ho : augOk o = true) : OpR X (inplaceOp (opOf o)) (rAug o) := by
  intro pins s σ H x y v u Q I rx ry h
  rcases h with ⟨i, j, k, rfl, rfl, hb, q⟩ | ⟨rfl, a, b, rfl, rfl, h1, h2, q⟩
  · have onI : ∀ (f : Int → Int → Int) (Cc : Int → Int → Prop) {oo : Operator}, OpR X (inplaceOp oo) (rI Cc fun i j => .int (f i j)) → Cc i j → k = f i j → wpAny (model X.prog X.w) X.A (inplaceOp oo v u) (EP X pins σ Q) X.xe s := by
      intro f Cc oo hop hc ek
      subst ek
      exact hop pins s σ H _ _ v u Q I rx ry ⟨i, j, rfl, rfl, hc, q⟩
    cases o with
    | add => exact onI (fun i j => i + j) (fun _ _ => True) (opI fun _ _ _ _ _ _ _ _ q => iadd_int q) trivial (by cases hb; rfl)
    | sub => exact onI (fun i j => i - j) (fun _ _ => True) (opI fun _ _ _ _ _ _ _ _ q => isub_int q) trivial (by cases hb; rfl)
    | mul =>
      have hb : (if mulOk i j then some (D.int (i * j)) else none) = some (.int k) := hb
      by_cases hc : mulOk i j = true
      · rw [if_pos hc] at hb
        exact onI (fun i j => i * j) (fun i j => mulOk i j = true) (opI fun _ _ _ _ _ _ _ hc q => imul_int q (mulOk_ok hc)) hc (by cases hb; rfl)
      · rw [if_neg hc] at hb
        cases hb
    | fdiv =>
      have hb : (if divOk j then some (D.int (i.fdiv j)) else none) = some (.int k) := hb
      by_cases hc : divOk j = true
      · rw [if_pos hc] at hb
        refine onI (fun i j => i.fdiv j) (fun _ j => divOk j = true) (opI fun _ _ _ _ _ _ _ hc q => ?_) hc (by cases hb; rfl)
        unfold divOk at hc
        simp only [Bool.and_eq_true, decide_eq_true_eq] at hc
        exact ifloordiv_int hc.1 q (.inl (PyProof.noPylong_of_log2 hc.2))
      · rw [if_neg hc] at hb
        cases hb
    | mod =>
      have hb : (if j = 0 then none else some (D.int (i.fmod j))) = some (.int k) := hb
      by_cases hc : j = 0
      · rw [if_pos hc] at hb
        cases hb
      · rw [if_neg hc] at hb
        exact onI (fun i j => i.fmod j) (fun _ j => j ≠ 0) (opI fun _ _ _ _ _ _ _ hc q => imod_int hc q) hc (by cases hb; rfl)
    | pow => cases ho
  · refine iop_add_str pins s σ H _ _ v u Q I rx ry ⟨a, b, rfl, rfl, ?_, q⟩
    have := sl_len
    unfold lim at h1 h2
    omega
theorem aug_S (h : Gs G P C cs X N sc W) {i : Nat} {y : Str} {py pos : Pos} {o : Bop} {e : Expr} {f : Env → Sto → R D} (m : nmB N sc i y = true) (ho : augOk o = true) (he : PE X e (TEv G W false f)) :
    PS X (.AugAssign (.Name y py) (opOf o) e pos) (TSv G W fun Γ st => match Γ[i]? with
      | some (.val x) => (f Γ st).then_ Γ fun y st1 => (match augV o x y with
        | some z => .nx (Γ.set i (.val z)) st1
        | none => .bad)
      | _ => .bad) := by
  unfold nmB at m
  simp only [Bool.and_eq_true, Bool.or_eq_true, beq_iff_eq] at m
  have hl : L2.Loc X.env.scope y := by
    unfold L2.Loc
    rw [h.gd.hsc]
    exact m.2
  refine (ps_aug (ti := rAug o) (by rw [h.gd.hN]; exact h.gd.nd) (by rw [h.gd.hN]; exact m.1) hl he (aug_R ho) (.inl (h.hf y))).weak fun Dn σ H ⟨Γ, st, g, S, E, w⟩ => ?_
  cases hi : Γ[i]? with
  | none => simp only [hi] at w; exact w.elim
  | some s =>
    simp only [hi] at w
    cases s with
    | no => exact w.elim
    | own l => exact w.elim
    | val d =>
      have hlt := (List.getElem?_eq_some_iff.mp hi).1
      obtain ⟨v, e1, r1⟩ := E.2 i _ hi
      refine ⟨v, e1, Γ, st, g, S, E, (w.then σ).imp fun b st1 H1 g1 S1 x1 w1 u r2 => ?_⟩
      cases hz : augV o d b with
      | none => simp only [hz] at w1; exact w1.elim
      | some z =>
        simp only [hz] at w1
        have fin : ∀ {zv : V}, Rp G g1.F g1.ad z zv → Dn.nx (σ.set i (some zv)) H1 := fun rz => w1 _ H1 g1 S1 ((E.ext x1).set rz hlt) (XExt.refl _ _)
        cases d with
        | int n =>
          have hz : bopV o (.int n) b = some z := hz
          cases b with
          | int k =>
            have hz2 : ∃ t, z = .int t := by
              cases o <;> simp only [bopV] at hz <;> (try split at hz) <;> first
                | (cases hz; done)
                | exact ⟨_, (Option.some.inj hz).symm⟩
            obtain ⟨t, rfl⟩ := hz2
            exact .inl ⟨n, k, t, r1, Ru.int r2, hz, fin rfl⟩
          | _ => cases o <;> cases hz
        | str t =>
          have hz : bopV o (.str t) b = some z := hz
          cases b with
          | str t2 =>
            cases o with
            | add =>
              have hz : (if t.length < lim ∧ t2.length < lim then some (D.str (t ++ t2)) else none) = some z := hz
              by_cases hc : t.length < lim ∧ t2.length < lim
              · rw [if_pos hc] at hz
                cases hz
                exact .inr ⟨rfl, t, t2, r1, Ru.str r2, hc.1, hc.2, fin rfl⟩
              · rw [if_neg hc] at hz
                cases hz
            | _ => cases hz
          | _ => cases o <;> cases hz
        | _ => cases hz

/-! ### append -/
theorem app_S (h : Gs G P C cs X N sc W) {i : Nat} {y : Str} {py apos cpos pos : Pos} {e : Expr} {f : Env → Sto → R D} (hv : visB N sc i y = true) (pl : plainE e = true) (hl : (apos.endLine == cpos.line) = true) (he : PE X e (TEv G W true f)) :
    PS X (.Expr (.Call (.Attribute (.Name y py) "append" apos) [e] [] cpos) pos) (TSv G W fun Γ st => match Γ[i]? with
      | some (.own l) => (f Γ st).then_ Γ fun y st1 => if bigOk l then .nx (Γ.set i (.own (l ++ [y]))) st1 else .bad
      | _ => .bad) := by
  have pe := pe_bm (cpos := cpos) (apos := apos) PySem.F.plainAttrs_list PySem.F.slot_list_append PySem.F.type_list_append mt_append (name_E h.gd hv (pos := py)) (pa_cons he pa_nil (star_1 pl)) rfl (by rw [star_1 pl] <;> rfl) hl (star_1 pl) rfl
  refine (ps_expr pe (sw_none rfl)).weak fun Dn σ H ⟨Γ, st, g, S, E, w⟩ => ?_
  cases hi : Γ[i]? with
  | none => simp only [hi] at w; exact w.elim
  | some s =>
    simp only [hi] at w
    cases s with
    | no => exact w.elim
    | val d => exact w.elim
    | own l =>
      have hlt := (List.getElem?_eq_some_iff.mp hi).1
      obtain ⟨p, vs, e1, h1, h2, h3⟩ := E.2 i _ hi
      refine ⟨.ref p, e1, .inl ⟨rfl, vs, .inl (.inl h1)⟩, Γ, st, g, S, E, (w.then σ).imp fun d st1 H1 g1 S1 x1 w1 v r => ?_⟩
      by_cases hb : bigOk l = true
      · rw [if_pos hb] at w1
        have n1 := x1.keep p _ h1 rfl fun k hk => by rw [h2] at hk; cases hk
        have n2 := x1.mu _ _ h2
        refine ⟨p, vs, v, rfl, rfl, n1, ?_, ?_⟩
        · rw [h3.length]
          exact lim_sl' (by unfold bigOk at hb; exact of_decide_eq_true hb)
        · obtain ⟨S2, x2⟩ := S1.ownSet (vs := vs ++ [v]) n2
          exact w1 σ _ g1 S2 ((E.ext x1).ownSet n2 e1 hlt ((h3.mono x1.f x1.ad).append (.cons r .nil))) x2
      · rw [if_neg hb] at w1
        exact w1.elim

/-! ### insert -/
theorem ins_S (h : Gs G P C cs X N sc W) {i : Nat} {y : Str} {py apos cpos pos : Pos} {k e : Expr} {fk f : Env → Sto → R D} (hv : visB N sc i y = true) (pk : plainE k = true) (pl : plainE e = true) (hl : (apos.endLine == cpos.line) = true) (hk : PE X k (TEv G W true fk)) (he : PE X e (TEv G W true f)) :
    PS X (.Expr (.Call (.Attribute (.Name y py) "insert" apos) [k, e] [] cpos) pos) (TSv G W fun Γ st => match Γ[i]? with
      | some (.own l) => (fk Γ st).then_ Γ fun x st1 => (f Γ st1).then_ Γ fun y st2 => (match x with
        | .int j => if bigOk l && (decide (0 ≤ j) && decide (j < 2 ^ 60)) then .nx (Γ.set i (.own (l.take j.toNat ++ [y] ++ l.drop j.toNat))) st2 else .bad
        | _ => .bad)
      | _ => .bad) := by
  have pe := pe_bm (cpos := cpos) (apos := apos) PySem.F.plainAttrs_list PySem.F.slot_list_insert PySem.F.type_list_insert mt_insert (name_E h.gd hv (pos := py)) (pa_cons hk (pa_cons he pa_nil (star_1 pl)) (star_1 pk)) rfl (by rw [star_1 pk, star_1 pl] <;> rfl) hl (star_1 pk) (back_pl (by simp [pl]))
  refine (ps_expr pe (sw_none rfl)).weak fun Dn σ H ⟨Γ, st, g, S, E, w⟩ => ?_
  cases hi : Γ[i]? with
  | none => simp only [hi] at w; exact w.elim
  | some s =>
    simp only [hi] at w
    cases s with
    | no => exact w.elim
    | val d => exact w.elim
    | own l =>
      have hlt := (List.getElem?_eq_some_iff.mp hi).1
      obtain ⟨p, vs, e1, h1, h2, h3⟩ := E.2 i _ hi
      refine ⟨.ref p, e1, .inl ⟨rfl, vs, .inl (.inl h1)⟩, Γ, st, g, S, E, (w.then σ).imp fun x st1 H1 g1 S1 x1 w1 u ru => ⟨Γ, st1, g1, S1, E.ext x1, (w1.then σ).imp fun d st2 H2 g2 S2 x2 w2 v r => ?_⟩⟩
      cases x with
      | int j =>
        by_cases hb : (bigOk l && (decide (0 ≤ j) && decide (j < 2 ^ 60))) = true
        · simp only [hb, if_true] at w2
          simp only [Bool.and_eq_true, decide_eq_true_eq] at hb
          have x12 := x1.trans x2
          have n1 := x12.keep p _ h1 rfl fun k hk => by rw [h2] at hk; cases hk
          have n2 := x12.mu _ _ h2
          have hj : u = .int j := ru
          subst hj
          refine ⟨p, vs, j, v, rfl, rfl, n1, ?_, hb.2.1, by omega, ?_⟩
          · rw [h3.length]
            exact lim_sl' (by have := hb.1; unfold bigOk at this; exact of_decide_eq_true this)
          · obtain ⟨S3, x3⟩ := S2.ownSet (vs := vs.take j.toNat ++ [v] ++ vs.drop j.toNat) n2
            have h4 := h3.mono x12.f x12.ad
            exact w2 σ _ g2 S3 ((E.ext x12).ownSet n2 e1 hlt (((h4.take j.toNat).append (.cons r .nil)).append (h4.drop j.toNat))) x3
        · simp only [hb] at w2
          exact w2.elim
      | _ => exact w2.elim
end
end Eng
/-! Eng.N: several names at once; statements by their IR. -/
namespace Eng
open PySem PySem.Spec PyProof.Rows L2
section
variable {G : GP} {P : Prg} [hl : HLam G P] {C : Nm} {cs : List CallT} {X : Cx} {N : List Str} {sc : Scope} {W : WX}
def SRs (G : GP) (g : Gh) (H : Hp) : List (Nat × Bool) → List Sl → List V → Prop
  | [], l, vs => l = [] ∧ vs = []
  | (i, _) :: ts, l, vs => ∃ s l' v t, l = s :: l' ∧ vs = v :: t ∧ SlotR G g H i (some (some v)) s ∧ SRs G g H ts l' t
theorem SRs.ext {g g' : Gh} {H H' : Hp} (x : Ext H g H' g') : ∀ {ts : List (Nat × Bool)} {l : List Sl} {vs : List V}, SRs G g H ts l vs → SRs G g' H' ts l vs
  | [], _, _, h => h
  | (i, _) :: ts, _, _, ⟨s, l', v, t, e1, e2, q, r⟩ => ⟨s, l', v, t, e1, e2, q.ext x, SRs.ext x r⟩
theorem SRs.length {g : Gh} {H : Hp} : ∀ {ts : List (Nat × Bool)} {l : List Sl} {vs : List V}, SRs G g H ts l vs → vs.length = ts.length
  | [], _, _, h => by rw [h.2]; rfl
  | (i, _) :: ts, _, _, ⟨s, l', v, t, e1, e2, q, r⟩ => by rw [e2, List.length_cons, List.length_cons, SRs.length r]
def TAf (G : GP) (W : WX) (ts : List (Nat × Bool)) (f : Env → Sto → R (List Sl)) : TA := fun σ H Q => ∃ Γ st g, SR G H st g ∧ ER G Γ σ H g ∧ Wp G (Eσ W σ) (f Γ st) H g fun l _ H' g' => ∀ vs, SRs G g' H' ts l vs → Q vs H'
def mtF (C : Nm) (N : List Str) (sc : Scope) : List (Nat × Bool) → IEs → List Expr → Bool
  | [], .nil, [] => true
  | (i, false) :: ts, .cons e es, x :: xs => plainE x && (sf e && (mtE C N sc e x && mtF C N sc ts es xs))
  | (i, true) :: ts, .cons e es, x :: xs => plainE x && (frOk e && (mtE C N sc e x && mtF C N sc ts es xs))
  | _, _, _ => false
theorem evF_A (h : Gd G P C cs X N sc W) : ∀ (ts : List (Nat × Bool)) (es : IEs) (xs : List Expr), mtF C N sc ts es xs = true → PA X xs (TAf G W ts (evsF P cs ts es))
  | [], .nil, [], _ => pa_nil.weak fun σ H Q ⟨Γ, st, g, S, E, w⟩ => w.now S [] ⟨rfl, rfl⟩
  | (i, false) :: ts, .cons e es, x :: xs, m => by
    simp only [mtF, Bool.and_eq_true] at m
    obtain ⟨m0, m1, m2, m3⟩ := m
    refine (pa_cons (pe_to (s' := true) (evE e C cs X N sc W x h m2).1 fun _ => m1) (evF_A h ts es xs m3) (star_1 m0)).weak fun σ H Q ⟨Γ, st, g, S, E, w⟩ => ?_
    have w : Wp G (Eσ W σ) ((ev P cs e Γ st).bind fun x st1 => (evsF P cs ts es Γ st1).bind fun l st2 => .ok (.val x :: l) st2) H g fun l _ H' g' => ∀ vs, SRs G g' H' ((i, false) :: ts) l vs → Q vs H' := w
    refine ⟨Γ, st, g, S, E, w.bind.imp fun d st1 H1 g1 S1 x1 w1 v r => ⟨Γ, st1, g1, S1, E.ext x1, w1.bind.imp fun l st2 H2 g2 S2 x2 w2 vs rs => ?_⟩⟩
    have r2 : Rp G g2.F g2.ad d v := Rp.mono x2.f x2.ad r
    exact w2.now S2 (v :: vs) ⟨.val d, l, v, vs, rfl, rfl, ⟨v, rfl, r2⟩, rs⟩
  | (i, true) :: ts, .cons e es, x :: xs, m => by
    simp only [mtF, Bool.and_eq_true] at m
    obtain ⟨m0, m1, m2, m3⟩ := m
    refine (pa_cons (evN i e h m1 m2) (evF_A h ts es xs m3) (star_1 m0)).weak fun σ H Q ⟨Γ, st, g, S, E, w⟩ => ?_
    have w : Wp G (Eσ W σ) ((asL (ev P cs e Γ st)).bind fun x st1 => (evsF P cs ts es Γ st1).bind fun l st2 => .ok (.own x :: l) st2) H g fun l _ H' g' => ∀ vs, SRs G g' H' ((i, true) :: ts) l vs → Q vs H' := w
    refine ⟨Γ, st, g, S, E, w.bind.imp fun d st1 H1 g1 S1 x1 w1 p us h1 h2 h3 => ⟨Γ, st1, g1, S1, E.ext x1, w1.bind.imp fun l st2 H2 g2 S2 x2 w2 vs rs => ?_⟩⟩
    have q : SlotR G g1 H1 i (some (some (.ref p))) (.own d) := ⟨p, us, rfl, h1, h2, h3⟩
    exact w2.now S2 (.ref p :: vs) ⟨.own d, l, .ref p, vs, rfl, rfl, q.ext x2, rs⟩
  | [], .nil, _ :: _, m => by simp [mtF] at m
  | [], .cons _ _, _, m => by simp [mtF] at m
  | (_, false) :: _, .nil, _, m => by simp [mtF] at m
  | (_, true) :: _, .nil, _, m => by simp [mtF] at m
  | (_, false) :: _, .cons _ _, [], m => by simp [mtF] at m
  | (_, true) :: _, .cons _ _, [], m => by simp [mtF] at m
def gNames : List (Nat × Bool) → TGs
  | [] => gNil
  | (i, _) :: ts => gCons (gName i) (gNames ts)
def mtNs (N : List Str) (sc : Scope) : List (Nat × Bool) → List Expr → Bool
  | [], xs => xs.isEmpty
  | (i, _) :: ts, xs => (match xs with
    | .Name y _ :: ys => nmB N sc i y && mtNs N sc ts ys
    | _ => false)
theorem names_G (h : Gs G P C cs X N sc W) : ∀ {ts : List (Nat × Bool)} {xs : List Expr}, mtNs N sc ts xs = true → PGs X xs (gNames ts) ∧ (assignEach xs X.env).length = ts.length ∧ (assignEach xs X.env).findIdx? (·.1) = none
  | [], xs, m => by
    cases xs with
    | nil => exact ⟨pgs_nil, rfl, rfl⟩
    | cons _ _ => cases m
  | (i, _) :: ts, xs, m => by
    unfold mtNs at m
    split at m
    · rename_i y pos ys
      rw [Bool.and_eq_true] at m
      obtain ⟨g1, g2, g3⟩ := names_G h m.2
      refine ⟨pgs_cons (name_G h m.1) g1, ?_, ?_⟩
      · show (assignEach ys X.env).length + 1 = ts.length + 1
        rw [g2]
      · show List.findIdx? (·.1) ((false, assign (.Name y pos) X.env) :: assignEach ys X.env) = none
        rw [List.findIdx?_cons, if_neg Bool.false_ne_true, g3]
        rfl
    · cases m
theorem gNames_ok {g : Gh} {H : Hp} : ∀ {ts : List (Nat × Bool)} {l : List Sl} {vs : List V} {Γ Γ' : Env} {σ : L2.St} {Q : L2.St → Hp → Prop}, ER G Γ σ H g → SRs G g H ts l vs → parE ts l Γ = some Γ' → (∀ σ', ER G Γ' σ' H g → Q σ' H) → gNames ts vs σ H Q
  | [], l, vs, Γ, Γ', σ, Q, E, ⟨e1, e2⟩, hp, q => by
    subst e1 e2
    cases hp
    exact ⟨rfl, q σ E⟩
  | (i, b) :: ts, l, vs, Γ, Γ', σ, Q, E, ⟨s, l', v, t, e1, e2, r, rs⟩, hp, q => by
    subst e1 e2
    have hp : (if i < Γ.length then parE ts l' (Γ.set i s) else none) = some Γ' := by
      cases b <;> exact hp
    by_cases hi : i < Γ.length
    · rw [if_pos hi] at hp
      exact ⟨v, t, rfl, gNames_ok (E.setS r hi) rs hp q⟩
    · rw [if_neg hi] at hp
      cases hp
theorem par_S (h : Gs G P C cs X N sc W) {ts : List (Nat × Bool)} {es : IEs} {tgs xs : List Expr} {k k2 : Nat} {p p2 pos : Pos} (m1 : mtNs N sc ts tgs = true) (m2 : mtF C N sc ts es xs = true) (m3 : swNo sc tgs xs = true) (m4 : ts.length < 1000) :
    PS X (.Assign [.Tuple tgs k p] (.Tuple xs k2 p2) pos) (TSv G W fun Γ st => (evsF P cs ts es Γ st).then_ Γ fun l st1 => (match parE ts l Γ with
    | some Γ' => .nx Γ' st1
    | none => .bad)) := by
  obtain ⟨g1, g2, g3⟩ := names_G h m1
  refine (ps_asg (pe_tup (evF_A h.gd ts es xs m2)) (pg_tup h.gd.calm g1 g2 g3) (sw_sole h rfl rfl) (swNo_ok h m3)).weak fun Dn σ H ⟨Γ, st, g, S, E, w⟩ => ?_
  refine ⟨Γ, st, g, S, E, (w.then σ).imp fun l st1 H1 g1 S1 x1 w1 vs rs => ?_⟩
  cases hp : parE ts l Γ with
  | none => rw [hp] at w1; exact w1.elim
  | some Γ' =>
    rw [hp] at w1
    have hl := rs.length
    refine ⟨?_, fun a ha => ⟨a, vs, rfl, .inl (.inl upd_same), hl, ?_⟩⟩
    · rw [hl, sizeLine_eq]
      omega
    · have S2 := S1.loose (S1.gone ha).1 (S1.gone ha).2 (.inl ha) (o := .tup vs)
      have x2 : Ext H1 g1 (upd H1 a (.tup vs)) g1 := (Ext.refl H1 g1).loose ha
      exact gNames_ok ((E.ext x1).ext x2) (rs.ext x2) hp fun σ' E' => w1 σ' _ g1 S2 E' x2.x
theorem par2_S (h : Gs G P C cs X N sc W) {i j : Nat} {bi bj : Bool} {es : IEs} {x y : Str} {xs : List Expr} {px py p p2 pos : Pos} {k k2 : Nat} (m1 : mtNs N sc [(i, bi), (j, bj)] [.Name x px, .Name y py] = true) (hij : i ≠ j) (m2 : mtF C N sc [(i, bi), (j, bj)] es xs = true)
    (m3 : swYes sc [.Name x px, .Name y py] xs = true) (m4 : swNames sc [.Name x px, .Name y py] = [x, y]) (hx : sc.names.lookup x = some .local) (hy : sc.names.lookup y = some .local) :
    PS X (.Assign [.Tuple [.Name x px, .Name y py] k p] (.Tuple xs k2 p2) pos) (TSv G W fun Γ st => (evsF P cs [(i, bi), (j, bj)] es Γ st).then_ Γ fun l st1 => (match parE [(i, bi), (j, bj)] l Γ with
    | some Γ' => .nx Γ' st1
    | none => .bad)) := by
  have hpa := evF_A h.gd _ es xs m2
  have m1' : nmB N sc i x = true ∧ nmB N sc j y = true := by
    simp only [mtNs, Bool.and_eq_true] at m1
    exact ⟨m1.1, m1.2.1⟩
  unfold nmB at m1'
  simp only [Bool.and_eq_true, beq_iff_eq] at m1'
  match xs, m2, m3, hpa with
  | [a, b], m2, m3, hpa =>
    refine (ps_par h.gd.calm (by rw [h.gd.hN]; exact h.gd.nd) (by rw [h.gd.hN]; exact m1'.1.1) (by rw [h.gd.hN]; exact m1'.2.1) hij (by rw [h.gd.hsc]; exact hx) (by rw [h.gd.hsc]; exact hy) hpa (by rw [swYes_ok h m3, m4])).weak fun Dn σ H ⟨Γ, st, g, S, E, w⟩ => ?_
    refine ⟨Γ, st, g, S, E, (w.then σ).imp fun l st1 H1 g1 S1 x1 w1 vs rs => ?_⟩
    cases hp : parE [(i, bi), (j, bj)] l Γ with
    | none => rw [hp] at w1; exact w1.elim
    | some Γ' =>
      rw [hp] at w1
      obtain ⟨v, t, e1, v2, t2, e2, e3, q⟩ := gNames_ok (Q := fun σ' H' => Dn.nx σ' H') (E.ext x1) rs hp fun σ' E' => w1 σ' H1 g1 S1 E' (XExt.refl _ _)
      subst e1 e2 e3
      exact ⟨v, v2, rfl, q⟩
  | [], _, m3, _ => simp [swYes] at m3
  | [_], _, m3, _ => simp [swYes] at m3
  | _ :: _ :: _ :: _, _, m3, _ => simp [swYes] at m3
theorem par3_S (h : Gs G P C cs X N sc W) {i j l : Nat} {bi bj bl : Bool} {es : IEs} {x y z : Str} {xs : List Expr} {px py pz p p2 pos : Pos} {k k2 : Nat} (m1 : mtNs N sc [(i, bi), (j, bj), (l, bl)] [.Name x px, .Name y py, .Name z pz] = true) (hij : i ≠ j) (hil : i ≠ l) (hjl : j ≠ l) (m2 : mtF C N sc [(i, bi), (j, bj), (l, bl)] es xs = true)
    (m3 : swYes sc [.Name x px, .Name y py, .Name z pz] xs = true) (m4 : swNames sc [.Name x px, .Name y py, .Name z pz] = [x, y, z]) (hx : sc.names.lookup x = some .local) (hy : sc.names.lookup y = some .local) (hz : sc.names.lookup z = some .local) :
    PS X (.Assign [.Tuple [.Name x px, .Name y py, .Name z pz] k p] (.Tuple xs k2 p2) pos) (TSv G W fun Γ st => (evsF P cs [(i, bi), (j, bj), (l, bl)] es Γ st).then_ Γ fun l' st1 => (match parE [(i, bi), (j, bj), (l, bl)] l' Γ with
    | some Γ' => .nx Γ' st1
    | none => .bad)) := by
  have hpa := evF_A h.gd _ es xs m2
  have m1' : nmB N sc i x = true ∧ nmB N sc j y = true ∧ nmB N sc l z = true := by
    simp only [mtNs, Bool.and_eq_true] at m1
    exact ⟨m1.1, m1.2.1, m1.2.2.1⟩
  unfold nmB at m1'
  simp only [Bool.and_eq_true, beq_iff_eq] at m1'
  match xs, m2, m3, hpa with
  | [a, b, c], m2, m3, hpa =>
    refine (ps_par3 h.gd.calm (by rw [h.gd.hN]; exact h.gd.nd) (by rw [h.gd.hN]; exact m1'.1.1) (by rw [h.gd.hN]; exact m1'.2.1.1) (by rw [h.gd.hN]; exact m1'.2.2.1) hij hil hjl (by rw [h.gd.hsc]; exact hx) (by rw [h.gd.hsc]; exact hy) (by rw [h.gd.hsc]; exact hz) hpa (by rw [swYes_ok h m3, m4])).weak fun Dn σ H ⟨Γ, st, g, S, E, w⟩ => ?_
    refine ⟨Γ, st, g, S, E, (w.then σ).imp fun l' st1 H1 g1 S1 x1 w1 vs rs => ?_⟩
    cases hp : parE [(i, bi), (j, bj), (l, bl)] l' Γ with
    | none => rw [hp] at w1; exact w1.elim
    | some Γ' =>
      rw [hp] at w1
      obtain ⟨v, t, e1, v2, t2, e2, v3, t3, e3, e4, q⟩ := gNames_ok (Q := fun σ' H' => Dn.nx σ' H') (E.ext x1) rs hp fun σ' E' => w1 σ' H1 g1 S1 E' (XExt.refl _ _)
      subst e1 e2 e3 e4
      exact ⟨v, v2, v3, rfl, q⟩
  | [], _, m3, _ => simp [swYes] at m3
  | [_], _, m3, _ => simp [swYes] at m3
  | [_, _], _, m3, _ => simp [swYes] at m3
  | _ :: _ :: _ :: _ :: _, _, m3, _ => simp [swYes] at m3
end
end Eng
/-! Eng.O: is a written statement the given one; the evaluator's word holds of it. -/
namespace Eng
open PySem PySem.Spec PyProof.Rows L2

def locB (sc : Scope) (x : Str) : Bool := sc.names.lookup x == some .local
/-- the swapped stores of two or three names -/
def swMt (sc : Scope) (ts : List (Nat × Bool)) (tgs xs : List Expr) : Bool := match ts, tgs with
  | [(i, _), (j, _)], [.Name x _, .Name y _] => (i != j) && (swYes sc tgs xs && ((swNames sc tgs == [x, y]) && (locB sc x && locB sc y)))
  | [(i, _), (j, _), (l, _)], [.Name x _, .Name y _, .Name z _] => ((i != j) && ((i != l) && (j != l))) && (swYes sc tgs xs && ((swNames sc tgs == [x, y, z]) && (locB sc x && (locB sc y && locB sc z))))
  | _, _ => false
section
variable (C : Nm) (N : List Str) (sc : Scope)
mutual
def mtS : IS → Stmt → Bool
  | .asg t e, s => (match s with
    | .Assign [tg] v _ => sf e && (mtT C N sc t tg && (mtE C N sc e v && (asgOk sc tg v || (match t, e, tg, v with
      | .name i, .lc _ _ _ _ _, .Name y q, .ListComp _ [⟨_, _, _, 0⟩] _ _ => nmB N sc i y && swB sc tg v
      | _, _, _, _ => false))))
    | _ => false)
  | .setN i e, s => (match s with
    | .Assign [.Name y q] v _ => nmB N sc i y && (frOk e && (mtE C N sc e v && ((okV v && !swB sc (.Name y q) v) || (match e, v with
      | .lc _ _ _ _ _, .ListComp _ [⟨_, _, _, 0⟩] _ _ => swB sc (.Name y q) v
      | _, _ => false))))
    | _ => false)
  | .par ts es, s => (match s with
    | .Assign [.Tuple tgs _ _] (.Tuple xs _ _) _ => mtNs N sc ts tgs && (mtF C N sc ts es xs && ((swNo sc tgs xs && decide (ts.length < 1000)) || swMt sc ts tgs xs))
    | _ => false)
  | .aug i o e, s => (match s with
    | .AugAssign (.Name y _) op v _ => (op == opOf o) && (augOk o && (nmB N sc i y && mtE C N sc e v))
    | _ => false)
  | .app i e, s => (match s with
    | .Expr (.Call (.Attribute (.Name y _) at_ apos) [z] [] cpos) _ => (at_ == "append") && (visB N sc i y && (plainE z && ((apos.endLine == cpos.line) && (sf e && mtE C N sc e z))))
    | _ => false)
  | .ins i k e, s => (match s with
    | .Expr (.Call (.Attribute (.Name y _) at_ apos) [u, z] [] cpos) _ => (at_ == "insert") && (visB N sc i y && (plainE u && (plainE z && ((apos.endLine == cpos.line) && (sf k && (sf e && (mtE C N sc k u && mtE C N sc e z)))))))
    | _ => false)
  | .expr e, s => (match s with
    | .Expr v _ => okV0 v && mtE C N sc e v
    | _ => false)
  | .ret e, s => (match s with
    | .Return (some v) _ => sf e && mtE C N sc e v
    | _ => false)
  | .retN, s => (match s with
    | .Return none _ => true
    | _ => false)
  | .iff c a b, s => (match s with
    | .If t x y _ => tsOk c && (mtE C N sc c t && (mtSs a x && mtSs b y))
    | _ => false)
  | .whil c b, s => (match s with
    | .While t x [] _ => tsOk c && (mtE C N sc c t && mtSs b x)
    | _ => false)
  | .forr p it b, s => (match s with
    | .For tg iter x [] _ => mtP N sc sc p tg && (sfI it && (notSet iter && (mtI C N sc it tg iter && mtSs b x)))
    | _ => false)
  | .brk, s => (match s with
    | .Break _ => true
    | _ => false)
  | .cont, s => (match s with
    | .Continue _ => true
    | _ => false)
  | .pass, s => (match s with
    | .Pass _ => true
    | _ => false)
  | .rais c, s => (match s with
    | .Raise (some (.Call (.Name y _) [.Constant (.str _) _ _] [] _)) none _ => (C.ex[c]? == some y) && glB sc y
    | _ => false)
def mtSs : ISs → List Stmt → Bool
  | .nil, xs => (match xs with
    | [] => true
    | _ => false)
  | .cons s r, xs => (match xs with
    | x :: ys => mtS s x && mtSs r ys
    | _ => false)
  | .frz _ r, xs => mtSs r xs
end
end
section
variable {G : GP} {P : Prg} [hl : HLam G P] {C : Nm} {cs : List CallT} {X : Cx} {N : List Str} {sc : Scope} {W : WX} {F : Nat}
mutual
theorem evS (h : Gs G P C cs X N sc W) : ∀ (s : IS) {x : Stmt}, mtS C N sc s x = true → PS X x (TSv G W (exec P cs F s))
  | .asg t e, x, m => by
    unfold mtS at m
    split at m
    · rename_i tg v pos
      simp only [Bool.and_eq_true] at m
      obtain ⟨m1, m2, m3, m4⟩ := m
      by_cases ha : asgOk sc tg v = true
      · exact asg_S h m2 ha (pe_to (evE e C cs X N sc W v h.gd m3).1 fun _ => m1)
      · rw [Bool.or_eq_true] at m4
        rcases m4 with m4 | m4
        · exact absurd m4 ha
        · split at m4
          · rw [Bool.and_eq_true] at m4
            have q := lcV_S h (lc_ok h.gd m3) m4.1 m4.2 (spos := pos)
            rw [own_of] at q
            exact q
          · cases m4
    · cases m
  | .setN i e, x, m => by
    unfold mtS at m
    split at m
    · rename_i y q v pos
      simp only [Bool.and_eq_true, Bool.or_eq_true, Bool.not_eq_true'] at m
      obtain ⟨m1, m2, m3, m4⟩ := m
      rcases m4 with m4 | m4
      · exact setN_S h m1 m4.1 m4.2 (evN i e h.gd m2 m3)
      · split at m4
        · have q := lcN_S h (lc_ok h.gd m3) m1 m4 (spos := pos)
          rw [own_of] at q
          exact q
        · cases m4
    · cases m
  | .par ts es, x, m => by
    unfold mtS at m
    split at m
    · rename_i tgs k p xs k2 p2 pos
      simp only [Bool.and_eq_true, Bool.or_eq_true, decide_eq_true_eq] at m
      obtain ⟨m1, m2, m3⟩ := m
      rcases m3 with m3 | m3
      · exact par_S h m1 m2 m3.1 m3.2
      · unfold swMt at m3
        split at m3
        · simp only [Bool.and_eq_true, locB, beq_iff_eq, bne_iff_ne, ne_eq] at m3
          exact par2_S h m1 m3.1 m2 m3.2.1 m3.2.2.1 m3.2.2.2.1 m3.2.2.2.2
        · simp only [Bool.and_eq_true, locB, beq_iff_eq, bne_iff_ne, ne_eq] at m3
          exact par3_S h m1 m3.1.1 m3.1.2.1 m3.1.2.2 m2 m3.2.1 m3.2.2.1 m3.2.2.2.1 m3.2.2.2.2.1 m3.2.2.2.2.2
        · cases m3
    · cases m
  | .aug i o e, x, m => by
    unfold mtS at m
    split at m
    · simp only [Bool.and_eq_true, beq_iff_eq] at m
      obtain ⟨rfl, m1, m2, m3⟩ := m
      exact aug_S h m2 m1 (pe_false (evE e C cs X N sc W _ h.gd m3).1)
    · cases m
  | .app i e, x, m => by
    unfold mtS at m
    split at m
    · simp only [Bool.and_eq_true] at m
      obtain ⟨m0, m1, m2, m3, m4, m5⟩ := m
      rw [beq_iff_eq] at m0
      subst m0
      exact app_S h m1 m2 m3 (pe_to (evE e C cs X N sc W _ h.gd m5).1 fun _ => m4)
    · cases m
  | .ins i k e, x, m => by
    unfold mtS at m
    split at m
    · simp only [Bool.and_eq_true] at m
      obtain ⟨m0, m1, m2, m3, m4, m5, m6, m7, m8⟩ := m
      rw [beq_iff_eq] at m0
      subst m0
      exact ins_S h m1 m2 m3 m4 (pe_to (evE k C cs X N sc W _ h.gd m7).1 fun _ => m5) (pe_to (evE e C cs X N sc W _ h.gd m8).1 fun _ => m6)
    · cases m
  | .expr e, x, m => by
    unfold mtS at m
    split at m
    · rw [Bool.and_eq_true] at m
      exact expr_S h m.1 (evE e C cs X N sc W _ h.gd m.2).1
    · cases m
  | .ret e, x, m => by
    unfold mtS at m
    split at m
    · rw [Bool.and_eq_true] at m
      exact ret_S (pe_to (evE e C cs X N sc W _ h.gd m.2).1 fun _ => m.1)
    · cases m
  | .retN, x, m => by
    unfold mtS at m
    split at m
    · exact retN_S
    · cases m
  | .iff c a b, x, m => by
    unfold mtS at m
    split at m
    · simp only [Bool.and_eq_true] at m
      obtain ⟨m0, m1, m2, m3⟩ := m
      exact if_S ((evE c C cs X N sc W _ h.gd m1).2 m0) (evSs h a m2) (evSs h b m3)
    · cases m
  | .whil c b, x, m => by
    unfold mtS at m
    split at m
    · simp only [Bool.and_eq_true] at m
      obtain ⟨m0, m1, m2⟩ := m
      exact while_S h ((evE c C cs X N sc W _ h.gd m1).2 m0) (evSs h b m2)
    · cases m
  | .forr p it b, x, m => by
    unfold mtS at m
    split at m
    · simp only [Bool.and_eq_true] at m
      obtain ⟨m0, m1, m2, m3, m4⟩ := m
      have i := evI it C cs X N sc W _ _ h.gd m3
      rw [m1] at i
      exact for_S h i m0 m2 (evSs h b m4)
    · cases m
  | .brk, x, m => by
    unfold mtS at m
    split at m
    · exact brk_S
    · cases m
  | .cont, x, m => by
    unfold mtS at m
    split at m
    · exact cont_S
    · cases m
  | .pass, x, m => by
    unfold mtS at m
    split at m
    · exact pass_S
    · cases m
  | .rais c, x, m => by
    unfold mtS at m
    split at m
    · rw [Bool.and_eq_true, beq_iff_eq] at m
      exact rais_S h m.1 m.2
    · cases m
theorem evSs (h : Gs G P C cs X N sc W) : ∀ (s : ISs) {x : List Stmt}, mtSs C N sc s x = true → PSs X x (TSv G W (execs P cs F s))
  | .nil, x, m => by
    unfold mtSs at m
    split at m
    · exact nil_S
    · cases m
  | .cons s r, x, m => by
    unfold mtSs at m
    split at m
    · rw [Bool.and_eq_true] at m
      exact cons_S (evS h s m.1) (evSs h r m.2)
    · cases m
  | .frz i r, x, m => by
    unfold mtSs at m
    exact frz_S (evSs h r m)
end
/-! ### functions -/
def O.toR_ok {o : O} {d : D} {st : Sto} : True := trivial
/-- a def's body keeps the promise -/
theorem WpO.body {Q : VK} {E : XK} {o : O} {H : Hp} {g : Gh} (n : NoSlot g) (w : Wp G (fun c H' => E c none H') o.toR H g fun d _ H' g' => ∀ v, Rp G g'.F g'.ad d v → Q v H') :
    WpO G (fun cls d _ H' => E cls d H') { nx := fun _ H' => Q .non H', rt := Q } o H g := by
  cases o with
  | nx Γ st => exact fun σ' H' g' S Er x => w H' g'.ns S.ns (x.fin n) .non rfl
  | ret d st => exact fun H' g' v S x r => w H' g'.ns S.ns (x.fin n) v r
  | brk Γ st => exact w.elim
  | cnt Γ st => exact w.elim
  | er c Γ st => exact fun σ' H' g' S x => w H' g'.ns S.ns (x.fin n)
  | bad => exact w.elim
theorem start_ER {H : Hp} {g : Gh} {N : List Str} {ds : List D} {vs : List V} {n : Nat} (hn : n = N.length) (r : Rps G g.F g.ad ds vs) : ER G (startE n ds) (L2.start N vs) H g := by
  subst hn
  have hl := r.length
  refine ⟨?_, fun i s hi => ?_⟩
  · unfold startE L2.start
    rw [List.length_append, List.length_append, List.length_map, List.length_map, List.length_replicate, List.length_replicate, hl]
  · unfold startE at hi
    unfold L2.start
    by_cases hlt : i < ds.length
    · rw [List.getElem?_append_left (by rw [List.length_map]; exact hlt), List.getElem?_map] at hi
      rw [List.getElem?_append_left (by rw [List.length_map, hl]; exact hlt), List.getElem?_map]
      obtain ⟨v, hv, rv⟩ := r.get (List.getElem?_eq_getElem hlt)
      rw [List.getElem?_eq_getElem hlt] at hi
      cases hi
      rw [hv]
      exact ⟨v, rfl, rv⟩
    · rw [List.getElem?_append_right (by rw [List.length_map]; omega), List.getElem?_replicate] at hi
      split at hi
      · cases hi
        trivial
      · cases hi
end
end Eng
/-! Eng.P: all defs of a program keep what the evaluator says. -/
namespace Eng
open PySem PySem.Spec PyProof.Rows L2

/-- a level's defs -/
def callF (P : Prg) (fns : List Fn) (F : Nat) (n : Nat) : CallT := fun k args st => match fns[k]? with
  | none => .bad
  | some f => if args.length = f.np then (execs P (runsF P fns F n) F f.body (startE f.nl args) st).toR else .bad
theorem runsF_succ (P : Prg) (fns : List Fn) (F n : Nat) : runsF P fns F (n + 1) = callF P fns F n :: runsF P fns F n := rfl
theorem runsF_len (P : Prg) (fns : List Fn) (F : Nat) : ∀ n, (runsF P fns F n).length = n
  | 0 => rfl
  | n + 1 => by rw [runsF_succ, List.length_cons, runsF_len P fns F n]
theorem runsF_drop (P : Prg) (fns : List Fn) (F : Nat) : ∀ (n j : Nat) (c : CallT) (rest : List CallT), (runsF P fns F n).drop j = c :: rest → ∃ m, m < n ∧ c = callF P fns F m ∧ rest = runsF P fns F m
  | 0, j, c, rest, h => by
    rw [show runsF P fns F 0 = [] from rfl, List.drop_nil] at h
    cases h
  | n + 1, 0, c, rest, h => by
    rw [runsF_succ, List.drop_zero] at h
    cases h
    exact ⟨n, Nat.lt_succ_self n, rfl, rfl⟩
  | n + 1, j + 1, c, rest, h => by
    rw [runsF_succ, List.drop_succ_cons] at h
    obtain ⟨m, h1, h2⟩ := runsF_drop P fns F n j c rest h
    exact ⟨m, Nat.lt_succ_of_lt h1, h2⟩
/-- a def of the text, as the head lays it -/
structure DefIn (K : PySem.W.Frag) (mg : Str → Option Value) (x : Str) (st : Stmt) (f : Addr) (cdv : Value) (fd : FuncData) : Prop where
  ex : ∃ (oc : Obj) (od : Option Addr) (kV doc pm ct : Value) (an : Option Addr) (osl : Array (Option Value)) (o : Value), fd = PySem.W.fnOf x x (defArgs st) (defBody st) (defScope st) .none kV doc pm an cdv ct ∧ K.lookup f = some ⟨o, od, .func fd, osl⟩
  cd : PySem.W.codeIn K cdv x = true
  kp : PySem.W.keepIn K (.ref f) = true
  mg : mg x = some (.ref f)
/-- what a def has: its IR, its table -/
structure DefOk (P : Prg) (C : Nm) (G : GP) (fn : Fn) (x : Str) (st : Stmt) (N ps : List Str) (tb : Option Bool) : Prop where
  sc : FnScope N ps (defScope st)
  np : fn.np = ps.length
  nl : fn.nl = N.length
  mt : mtSs { C with tb := tb, lm := G.lm } N (defScope st) fn.body (defBody st) = true
/-- all that is wanted of the k-th def -/
def FnCase (K : PySem.W.Frag) (mg : Str → Option Value) (base : Heap) (G : GP) (P : Prg) (C : Nm) (fns : List Fn) (Df : Nat → Addr × FuncData × List Str) (k : Nat) (x : Str) : Prop := ∃ fn st N tb cdv, fns[k]? = some fn ∧ DefOk P C G fn x st N (Df k).2.2 tb ∧ DefIn K mg x st (Df k).1 cdv (Df k).2.1 ∧ Binds K (Df k).2.1 (Df k).2.2 [] ∧
    ∀ b, tb = some b → ∃ c Pa, LamX.TabB base mg c Pa ∧ cdv = .ref c ∧ (Pa, if b = true then some (x ++ ".<locals>." ++ "<lambda>") else none) ∈ G.T ∧ ∀ q ∈ G.T, q.1 = Pa → q.2 = if b = true then some (x ++ ".<locals>." ++ "<lambda>") else none
def FnsFrom (Φ : Nat → Str → Prop) : Nat → List Str → Prop
  | _, [] => True
  | n, x :: r => Φ n x ∧ FnsFrom Φ (n + 1) r
theorem FnsFrom.get {Φ : Nat → Str → Prop} : ∀ {l : List Str} {n : Nat}, FnsFrom Φ n l → ∀ k x, l[k]? = some x → Φ (n + k) x
  | [], _, _, k, x, e => by simp at e
  | y :: r, n, h, 0, x, e => by
    rw [List.getElem?_cons_zero] at e
    cases e
    exact h.1
  | y :: r, n, h, k + 1, x, e => by
    rw [List.getElem?_cons_succ] at e
    have := FnsFrom.get h.2 k x e
    rw [Nat.add_assoc, Nat.add_comm 1 k] at this
    exact this
structure Pk (P0 : Program) (w : World) (K : PySem.W.Frag) (mg : Str → Option Value) (base : Heap) (G : GP) (P : Prg) (C : Nm) (fns : List Fn) (F : Nat) (Df : Nat → Addr × FuncData × List Str) : Prop where
  hK : K = G.K
  mgn : ∀ x ∈ bNames, mg x = none
  mgc : ∀ (k : Nat) (x : Str), C.gl[k]? = some x → ∃ d u v, P.globs[k]? = some d ∧ mg x = some u ∧ L2.RelV v u ∧ Rp G (fun _ => none) [] d v
  mgt : ∀ (k : Nat) (x : Str), C.td[k]? = some x → TdOk G P K mg k x
  c1 : G.c1 = C
  cn : C.noTb = C
  lmH : LamHyp G P
  /-- the lambdas stand among the defs, behind them -/
  lms : ∀ n a b s, G.lm n a b s = true → fns[P.lb + n]? = some ⟨0, 0, .cons (.ret (P.lams n)) .nil⟩
  exc : ∀ (c : Nat) (x : Str), C.ex[c]? = some x → ∃ B n1 n2 bm, ExcBaseFacts B n1 n2 bm ∧ PySem.W.excIn K (G.ca c) bm n1 = true ∧ mg x = some (.ref (G.ca c)) ∧ PySem.W.keepIn K (.ref (G.ca c)) = true ∧ PySem.W.subIn K (.ref (G.ca c)) (.type "BaseException") = some true ∧ PySem.W.typeIn K (.ref (G.ca c)) = some (.type "type")
  fn : FnsFrom (FnCase K mg base G P C fns Df) 0 C.fn
theorem lam_call {P : Prg} {fns : List Fn} {F n k : Nat} {e : IE} (h : fns[k]? = some ⟨0, 0, .cons (.ret e) .nil⟩) (st : Sto) : callF P fns F n k [] st = ev P (runsF P fns F n) e [] st := by
  unfold callF
  rw [h]
  show (if ([] : List D).length = 0 then (execs P (runsF P fns F n) F (.cons (.ret e) .nil) (startE 0 []) st).toR else .bad) = _
  rw [if_pos (show ([] : List D).length = 0 from rfl)]
  show (((ev P (runsF P fns F n) e (startE 0 []) st).then_ (startE 0 []) fun d st1 => O.ret d st1).seq fun Γ1 st1 => O.nx Γ1 st1).toR = _
  show (((ev P (runsF P fns F n) e [] st).then_ (startE 0 []) fun d st1 => O.ret d st1).seq fun Γ1 st1 => O.nx Γ1 st1).toR = _
  cases ev P (runsF P fns F n) e [] st <;> rfl
section
variable {P0 : Program} {w : World} {K : PySem.W.Frag} {mg : Str → Option Value} {base : Heap} {G : GP} {P : Prg} {C : Nm} {fns : List Fn} {F : Nat} {Df : Nat → Addr × FuncData × List Str}
/-- a def's body, at the level n -/
theorem Pk.body (h : Pk P0 w K mg base G P C fns F Df) (n : Nat) (ih : ∀ m, m < n → ∀ (k : Nat) (x : Str), C.fn[k]? = some x → mg x = some (.ref (Df k).1) ∧ PySem.W.keepIn K (.ref (Df k).1) = true ∧ Binds K (Df k).2.1 (Df k).2.2 [] ∧ FnOk P0 w K mg base (L2.CX P0 w) (m + 1) (Df k).1 (Df k).2.1 (Df k).2.2 (spEv G (callF P fns F m k)))
    {k : Nat} {x : Str} (hk : C.fn[k]? = some x) : mg x = some (.ref (Df k).1) ∧ PySem.W.keepIn K (.ref (Df k).1) = true ∧ Binds K (Df k).2.1 (Df k).2.2 [] ∧ FnOk P0 w K mg base (L2.CX P0 w) (n + 1) (Df k).1 (Df k).2.1 (Df k).2.2 (spEv G (callF P fns F n k)) := by
  have hq := h.fn.get k x hk
  rw [Nat.zero_add] at hq
  obtain ⟨fn, st, N, tb, cdv, h1, D, I, hb, htb⟩ := hq
  generalize Df k = d at D I hb ⊢
  obtain ⟨f, fd, ps⟩ := d
  obtain ⟨oc, od, kV, doc, pm, ct, an, osl, o, e, lk⟩ := I.ex
  have e : fd = _ := e
  subst e
  refine ⟨I.mg, I.kp, hb, fn_of lk I.cd D.sc (fun vs H Q E hs => ?_) (fun A outer s H vs Q E hr hs => ?_)⟩
  · obtain ⟨ds, st', g, S, ns, r, wq⟩ := hs
    rw [r.length]
    unfold callF at wq
    rw [h1] at wq
    simp only [] at wq
    by_cases hl : ds.length = fn.np
    · rw [hl, D.np]
    · rw [if_neg hl] at wq
      exact wq.elim
  · obtain ⟨ds, st', g, S, ns, r, wq⟩ := hs
    unfold callF at wq
    rw [h1] at wq
    simp only [] at wq
    by_cases hl : ds.length = fn.np
    · rw [if_pos hl] at wq
      have gd : Gd G P { C with tb := tb, lm := G.lm } (runsF P fns F n) (cxOf (L2.CX P0 w) P0 w K mg base N x (defScope st) f cdv A outer s H E) N (defScope st) (fun cls d _ H' => E cls d H') := by
        refine ⟨h.hK, rfl, takes_of rfl rfl rfl rfl, by rw [runsF_len]; exact hr, rfl, D.sc.nd, rfl, h.mgn, h.mgc, h.mgt, fun b e => ?_, ?_, (fun _ _ _ _ e => e), fun j c rest e n' a b s' hlm st => ?_, fun j c rest e k' x' hk' => ?_⟩
        · obtain ⟨c, Pa, t1, t2, t3, t4⟩ := htb b e
          exact ⟨c, Pa, t1, t2, t3, t4⟩
        · rw [h.c1]
          exact h.cn
        · obtain ⟨m, hm, rfl, rfl⟩ := runsF_drop P fns F n j c rest e
          exact lam_call (h.lms n' a b s' hlm) st
        · obtain ⟨m, hm, rfl, rfl⟩ := runsF_drop P fns F n j c rest e
          rw [runsF_len]
          exact ⟨_, _, _, ih m hm k' x' hk'⟩
      haveI : HLam G P := ⟨h.lmH⟩
      have gs : Gs G P { C with tb := tb, lm := G.lm } (runsF P fns F n) (cxOf (L2.CX P0 w) P0 w K mg base N x (defScope st) f cdv A outer s H E) N (defScope st) (fun cls d _ H' => E cls d H') := by
        refine ⟨gd, fun _ => rfl, passes_of (X := cxOf (L2.CX P0 w) P0 w K mg base N x (defScope st) f cdv A outer s H E) rfl, D.sc.kind, fun c y hc => ?_⟩
        obtain ⟨B, n1, n2, bm, e1, e2, e3, e4, e5, e6⟩ := h.exc c y hc
        exact ⟨B, n1, n2, bm, e1, e2, e3, e4, raises_own e5 e6⟩
      exact ⟨_, evSs (F := F) gs fn.body D.mt, startE fn.nl ds, st', g, S, start_ER D.nl r, WpO.body ns wq⟩
    · rw [if_neg hl] at wq
      exact wq.elim
theorem Pk.ok (h : Pk P0 w K mg base G P C fns F Df) : ∀ (n k : Nat) (x : Str), C.fn[k]? = some x → mg x = some (.ref (Df k).1) ∧ PySem.W.keepIn K (.ref (Df k).1) = true ∧ Binds K (Df k).2.1 (Df k).2.2 [] ∧ FnOk P0 w K mg base (L2.CX P0 w) (n + 1) (Df k).1 (Df k).2.1 (Df k).2.2 (spEv G (callF P fns F n k)) := by
  intro n
  induction n using Nat.strongRecOn with
  | _ n ih => exact fun k x hk => h.body n ih hk
end
end Eng
/-! Eng.Q: the end of a law's row. -/
namespace Eng
open PySem PySem.Spec PyProof.Rows L2 LamX
section
variable {l : PySem.W.OpenLaw} {w : World} {K : PySem.W.Frag} {mg : Str → Option Value} {h : Heap} {G : GP} {P : Prg} {C : Nm} {fns : List Fn} {F : Nat} {Df : Nat → Addr × FuncData × List Str}
theorem rps_ints {F : Hp} {ad : List Addr} : ∀ ns : List Int, Rps G F ad (ns.map .int) (ns.map V.int)
  | [] => rfl
  | n :: ns => ⟨.int n, _, rfl, rfl, rps_ints ns⟩
/-- only what stands at a -/
def onlyAt (H : Hp) (a : Addr) : Hp := fun b => match H b with
  | some o => if b = a ∧ isTbl o = false then some o else none
  | none => none
theorem onlyAt_eq {H : Hp} {a b : Addr} {o : HO} (e : onlyAt H a b = some o) : H b = some o ∧ isTbl o = false := by
  unfold onlyAt at e
  cases hb : H b with
  | none => rw [hb] at e; cases e
  | some u =>
    rw [hb] at e
    simp only [] at e
    split at e
    · rename_i c
      cases e
      exact ⟨rfl, c.2⟩
    · cases e
theorem onlyAt_self {H : Hp} {a : Addr} {o : HO} (e : H a = some o) (t : isTbl o = false) : onlyAt H a a = some o := by
  unfold onlyAt
  rw [e]
  show (if a = a ∧ isTbl o = false then some o else none) = some o
  rw [if_pos ⟨rfl, t⟩]
theorem law_at {kL lev n : Nat} {fa : Addr} {cs : List (Addr × Addr)} (hT : ∀ p ∈ cs, h.get? p.2 = some { cls := .none, data := .fields #[] }) (nT : ∀ p ∈ cs, K.lookup p.2 = none) (hC : ∀ p ∈ cs, PySem.W.CodeHd h p.1 p.2)
    (hGK : G.K = K) (hTs : ∀ q ∈ G.T, ∃ p ∈ cs, q.1 = p.2) (hL : C.fn[kL]? = some "law") (hps : (Df kL).2.2 = [("script" : Str)]) (hfa : (Df kL).1 = fa)
    (hb : ∀ (s : Shared) (u : Value), BindsTo s (Df kL).2.1 ⟨[u], []⟩ [("script", u)])
    (hPk : ∀ base : Heap, K.In base → base.Ns mainGlobals mg → (∀ p ∈ cs, TabB base mg p.1 p.2) → Pk l.prog w K mg base G P C fns F Df)
    (hev : ∀ ns : List Int, ns.length ≤ n → (∀ z ∈ ns, Builtin.Int.intBits z ≤ 1048576) → ∃ st', callF P fns F lev kL [.scr (ns.map .int)] [] = .ok (.bl true) st') :
    LawAtS l w K (L2.CX l.prog w) (lev + 1) n "script" mg fa h := by
  refine ⟨(Df kL).2.1, cs, spEv G (callF P fns F lev kL), hT, nT, hC, hb, fun H a ns hlen hbits hH hS => ?_, fun base kb nb tb => ?_⟩
  · obtain ⟨st', hv⟩ := hev ns hlen hbits
    let g : Gh := { F := onlyAt H a, ad := [], Mu := fun _ => none }
    have hSq : SqL G.K (onlyAt H a) a (ns.map V.int) := by
      rw [hGK]
      rcases hS with (z | ⟨o, z⟩) | z
      · exact .inl (.inl (onlyAt_self z rfl))
      · exact .inl (.inr ⟨o, onlyAt_self z rfl⟩)
      · exact .inr z
    have S : SR G H [] g := by
      refine ⟨fun b o e => ?_, (fun b t e => by cases e), rfl, (fun k ob e => by simp at e), fun q hq => ?_⟩
      · obtain ⟨e1, e2⟩ := onlyAt_eq e
        exact ⟨e1, rfl, e2⟩
      · obtain ⟨p, hp, e⟩ := hTs q hq
        have ht := hH p hp
        rw [← e] at ht
        cases q.2 with
        | some nm => exact ⟨#[], ht, trivial, fun pos cv hc => by
            have z : codeAmong pos [] = some cv := hc
            simp [codeAmong] at z⟩
        | none => exact ⟨#[], ht, trivial⟩
    refine ⟨[.scr (ns.map .int)], [], g, S, (fun b i e => by cases e), ⟨.ref a, [], rfl, ⟨a, _, rfl, hSq, rps_ints ns⟩, rfl⟩, ?_⟩
    rw [hv]
    exact fun H' g' S' x' v r => r
  · have q := (hPk base kb nb tb).ok lev kL "law" hL
    rw [hps, hfa] at q
    exact q.2.2.2
end
end Eng
/-! Eng.R: what the head has laid, as the end wants it. -/
namespace Eng
open PySem PySem.Spec PyProof.Rows L2 LamX

/-- a word of the fragment that is known -/
abbrev WithK {K : PySem.W.Frag} {h : Heap} (_ : K.In h) (p : PySem.W.Frag → Prop) : Prop := p K
/-- a def as the head lays it, by name -/
structure DefK (K : PySem.W.Frag) (x : Str) (st : Stmt) (f : Addr) (cdv : Value) (fd : FuncData) : Prop where
  a : PySem.W.nsIn K mainGlobals x = some (some (.ref f))
  ex : ∃ (oc : Obj) (od : Option Addr) (kV doc pm ct : Value) (an : Option Addr) (osl : Array (Option Value)) (o : Value), fd = PySem.W.fnOf x x (defArgs st) (defBody st) (defScope st) .none kV doc pm an cdv ct ∧ K.lookup f = some ⟨o, od, .func fd, osl⟩
  c : PySem.W.codeIn K cdv x = true
  k : PySem.W.keepIn K (.ref f) = true
theorem DefK.mk' {K : PySem.W.Frag} {x : Str} {st : Stmt} {f : Addr} {cdv : Value} {od : Option Addr} {kV doc pm ct : Value} {an : Option Addr} {osl : Array (Option Value)} {o : Value} (a : PySem.W.nsIn K mainGlobals x = some (some (.ref f)))
    (l : K.lookup f = some ⟨o, od, .func (PySem.W.fnOf x x (defArgs st) (defBody st) (defScope st) .none kV doc pm an cdv ct), osl⟩) (c : PySem.W.codeIn K cdv x = true) (k : PySem.W.keepIn K (.ref f) = true) :
    DefK K x st f cdv (PySem.W.fnOf x x (defArgs st) (defBody st) (defScope st) .none kV doc pm an cdv ct) := ⟨a, ⟨⟨o, od, .plain, osl⟩, od, kV, doc, pm, ct, an, osl, o, rfl, l⟩, c, k⟩
section
variable {K : PySem.W.Frag} {h : Heap} {mg : Str → Option Value} {x : Str} {st : Stmt} {f : Addr} {cdv : Value} {fd : FuncData}
theorem DefK.in_ (d : DefK K x st f cdv fd) (X : K.In h) (G : h.Ns mainGlobals mg) : DefIn K mg x st f cdv fd := ⟨d.ex, d.c, d.k, PySem.W.mg_of X G d.a⟩
theorem DefK.fn_ (d : DefK K x st f cdv fd) : Fun K x x st f fd := by
  obtain ⟨oc, od, kV, doc, pm, ct, an, osl, o, rfl, lk⟩ := d.ex
  exact fun_mk lk d.c d.k
/-- with a table of its code objects -/
structure DefT (K : PySem.W.Frag) (x : Str) (st : Stmt) (f c Pa : Addr) (fd : FuncData) : Prop where
  d : DefK K x st f (.ref c) fd
  hd : PySem.W.codeHdIn K c Pa = true
  no : K.lookup Pa = none
theorem DefT.mk' {e : Value} {dd : Option Addr} {vs : Array Value} {sl : Array (Option Value)} {c Pa : Addr} (d : DefK K x st f (.ref c) fd) (lc : K.lookup c = some ⟨e, dd, .fields vs, sl⟩) (hP : vs[11]? = some (.ref Pa)) (hd : PySem.W.codeHdIn K c Pa = true) (no : K.lookup Pa = none) : DefT K x st f c Pa fd := ⟨d, hd, no⟩
theorem DefT.code (d : DefT K x st f c Pa fd) (X : K.In h) : PySem.W.CodeHd h c Pa := PySem.W.codeHd_of_K X d.hd
/-- the law's own table -/
theorem DefT.own (d : DefT K x st f c Pa fd) (o : OwnTab K f h) : h.get? Pa = some { cls := .none, data := .fields #[] } := by
  obtain ⟨oc, od, kV, doc, pm, ct, an, osl, o1, rfl, lk⟩ := d.d.ex
  have e := d.hd
  unfold PySem.W.codeHdIn at e
  split at e
  · rename_i vs sl hk
    simp only [Bool.and_eq_true] at e
    obtain ⟨⟨⟨⟨⟨e1, _⟩, _⟩, _⟩, _⟩, _⟩ := e
    split at e1
    · rename_i P' h11
      have hP : P' = Pa := beq_iff_eq.mp e1
      subst hP
      exact o c P' _ _ _ _ vs _ lk rfl rfl hk h11
    · cases e1
  · cases e
/-- a module's int -/
structure GlI (K : PySem.W.Frag) (x : Str) (i : Int) : Prop where
  ex : ∃ t, PySem.W.nsIn K mainGlobals x = some (some (.int i t))
theorem GlI.mk' {K : PySem.W.Frag} {x : Str} {i : Int} {t : Tok} (h : PySem.W.nsIn K mainGlobals x = some (some (.int i t))) : GlI K x i := ⟨t, h⟩
/-- an exception class -/
structure ExcK (K : PySem.W.Frag) (x : Str) (Ca : Addr) (bm : List Value) (newId : String) : Prop where
  g : PySem.W.nsIn K mainGlobals x = some (some (.ref Ca))
  q : PySem.W.excIn K Ca bm newId = true
  k : PySem.W.keepIn K (.ref Ca) = true
  b : PySem.W.subIn K (.ref Ca) (.type "BaseException") = some true
  t : PySem.W.typeIn K (.ref Ca) = some (.type "type")
end
theorem exm_self' {K : PySem.W.Frag} {S : Addr} (b : PySem.W.subIn K (.ref S) (.type "BaseException") = some true) (i : PySem.W.isClsIn K S = true) (t : PySem.W.typeIn K (.ref S) = some (.type "type")) (s : PySem.W.subIn K (.ref S) (.ref S) = some true) : PySem.W.exmOne K (.ref S) (.ref S) = some true := by
  have e1 : (PySem.W.subIn K (.ref S) (.type "BaseException") == some true) = true := by rw [b]; rfl
  have e2 : ((PySem.W.clsIn K S).isSome && PySem.W.typeIn K (.ref S) == some (.type "type")) = true := by
    rw [t, Bool.and_eq_true]
    exact ⟨i, by simp⟩
  show (if (PySem.W.subIn K (.ref S) (.type "BaseException") == some true) = true then (if ((PySem.W.clsIn K S).isSome && PySem.W.typeIn K (.ref S) == some (.type "type")) = true then PySem.W.subIn K (.ref S) (.ref S) else none) else none) = some true
  rw [if_pos e1, if_pos e2, s]
/-- the end of a row, every written def's table told to be empty -/
theorem walk_tabs {l : PySem.W.OpenLaw} {n k : Nat} {q : Program} {loose : List Str} {XP : (Str → Option Value) → Heap → Prop} {YP : World → Heap → Prop} {d : DefRec} {K : Params → PySem.W.Frag} {CX : World → CXT} {x : Str}
    (hn : l.most = some n) (hn2 : n ≤ sizeLine) (hdf : d.params.defaults = []) (hr : Room k callerA) (hY : ∀ (w : World) (h : Heap), YP w h → (K w.params).In h)
    (F : ∀ (w : World) (mg : Str → Option Value) (fa : Addr) (h : Heap), YP w h → (K w.params).In h → h.Ns mainGlobals mg → mg d.name = some (.ref fa) → (∀ (y : Str) (f : Addr), ((recsOf q).any fun e => e.name == y) = true → mg y = some (.ref f) → OwnTab (K w.params) f h) → LawAtS l w (K w.params) (CX w) k n x mg fa h)
    (hCX : ∀ (w : World) (H : Hp) (s : Shared) (e : Value) (s' : Shared), CX w [] H s (fun _ _ _ => False) e s' → False) :
    PySem.W.WalkO q loose XP YP l.row.toRowW d [] (fun f vs => PySem.call f vs) := by
  refine Att.attach_callB hn hdf fun w s₀ s₁ mg mb fa o pm cd doc a vs ns G Y ho hd hcd hmg hobj hints hlen hbits hg => ?_
  have KX := hY w _ Y
  have own : ∀ (y : Str) (f : Addr), ((recsOf q).any fun e => e.name == y) = true → mg y = some (.ref f) → OwnTab (K w.params) f s₁.heap := fun y f hrec hy c P o1 fd1 e dd vs1 sl k1 k2 k3 k4 k5 => by
    obtain ⟨dL, hm, hn1⟩ := List.any_eq_true.mp hrec
    have hnm : dL.name = y := beq_iff_eq.mp hn1
    obtain ⟨a', o', fd', c', P', t1, t2, t3, t4, t5, t6⟩ := G.T.tab dL hm
    rw [hnm, hy] at t1
    cases t1
    have u1 := KX _ _ k1
    rw [u1] at t2
    cases t2
    rw [k2] at t3
    cases t3
    rw [k3] at t4
    cases t4
    obtain ⟨⟨oc, vc, e1, _, e3, e4⟩, hP⟩ := t6
    have u2 := KX _ _ k4
    rw [u2] at e1
    cases e1
    cases e3
    rw [k5] at e4
    cases e4
    exact hP
  obtain ⟨fd, cs, sp, hT, nT, C, hb, hsp, hF⟩ := F w mg fa _ Y KX G.T.g hmg own
  exact law_callTs KX G.T.g G.T.b G.T.builtins G.T.nolimit hg hT nT C G.T.bmain hobj hints (Nat.le_trans hlen hn2) hr hF hb (fun H hH hS => hsp H a ns hlen hbits hH hS) fun H e s' => hCX w H s₁ e s'

section
variable {K : PySem.W.Frag} {mg : Str → Option Value} {base : Heap} {G : GP} {P : Prg} {C : Nm} {fns : List Fn} {Df : Nat → Addr × FuncData × List Str} {k : Nat} {x : Str} {fn : Fn} {st : Stmt} {N : List Str} {cdv : Value} {f : Addr} {fd : FuncData} {ps : List Str}
theorem fnCase0 (hd : Df k = (f, fd, ps)) (h1 : fns[k]? = some fn) (D : DefOk P C G fn x st N ps none) (I : DefIn K mg x st f cdv fd) (B : Binds K fd ps []) : FnCase K mg base G P C fns Df k x := by
  refine ⟨fn, st, N, none, cdv, h1, ?_, ?_, ?_, fun b e => by cases e⟩
  · rw [hd]; exact D
  · rw [hd]; exact I
  · rw [hd]; exact B
theorem tab_one {Pa : Addr} {z : Option Str} : ∀ (T : List (Addr × Option Str)), (T.map (·.1)).Nodup → (Pa, z) ∈ T → ∀ q ∈ T, q.1 = Pa → q.2 = z
  | [], _, h, _, _, _ => by cases h
  | p :: T, nd, h, q, hq, e => by
    rw [List.map_cons, List.nodup_cons] at nd
    rcases List.mem_cons.mp h with h | h
    · rcases List.mem_cons.mp hq with hq | hq
      · rw [hq, ← h]
      · refine absurd (List.mem_map.mpr ⟨q, hq, ?_⟩) nd.1
        rw [e, ← h]
    · rcases List.mem_cons.mp hq with hq | hq
      · refine absurd (List.mem_map.mpr ⟨(Pa, z), h, ?_⟩) nd.1
        rw [← e, hq]
      · exact tab_one T nd.2 h q hq e
theorem fnCaseT {b : Bool} {c Pa : Addr} {z : Option Str} (hd : Df k = (f, fd, ps)) (h1 : fns[k]? = some fn) (D : DefOk P C G fn x st N ps (some b)) (I : DefIn K mg x st f (.ref c) fd) (B : Binds K fd ps []) (TB : LamX.TabB base mg c Pa) (hm : (Pa, z) ∈ G.T)
    (hz : z = if b = true then some (x ++ ".<locals>." ++ "<lambda>") else none) (nd : (G.T.map (·.1)).Nodup) : FnCase K mg base G P C fns Df k x := by
  refine ⟨fn, st, N, some b, .ref c, h1, ?_, ?_, ?_, fun b' e => ?_⟩
  · rw [hd]; exact D
  · rw [hd]; exact I
  · rw [hd]; exact B
  · cases e
    subst hz
    exact ⟨c, Pa, TB, rfl, hm, tab_one G.T nd hm⟩
/-- a table of lambdas, of generators -/
theorem zL {x : Str} : some (x ++ ".<locals>." ++ "<lambda>") = if true = true then some (x ++ ".<locals>." ++ "<lambda>") else none := rfl
theorem zG {x : Str} : (none : Option Str) = if false = true then some (x ++ ".<locals>." ++ "<lambda>") else none := rfl
end
end Eng
/-! Eng.W: the evaluator's rules, one by one. -/
namespace Eng
open PySem (Str)

structure Ev (P : Prg) (cs : List CallT) (Γ : Env) (st : Sto) (e : IE) (d : D) (st' : Sto) : Prop where
  h : ev P cs e Γ st = .ok d st'
structure Evs (P : Prg) (cs : List CallT) (Γ : Env) (st : Sto) (es : IEs) (l : List D) (st' : Sto) : Prop where
  h : evs P cs es Γ st = .ok l st'
structure EvT (P : Prg) (cs : List CallT) (Γ : Env) (st : Sto) (e : IE) (b : Bool) (st' : Sto) : Prop where
  h : tst (ev P cs e Γ st) = .ok b st'
structure EvA (P : Prg) (cs : List CallT) (Γ : Env) (st : Sto) (es : IEs) (d : D) (st' : Sto) : Prop where
  h : evAnd P cs es Γ st = .ok d st'
structure EvO (P : Prg) (cs : List CallT) (Γ : Env) (st : Sto) (es : IEs) (d : D) (st' : Sto) : Prop where
  h : evOr P cs es Γ st = .ok d st'
structure EvI (P : Prg) (cs : List CallT) (Γ : Env) (st : Sto) (it : It) (l : List D) (st' : Sto) : Prop where
  h : evIt P cs it Γ st = .ok l st'
/-- an error comes out -/
structure EvX (P : Prg) (cs : List CallT) (Γ : Env) (st : Sto) (e : IE) (c : Nat) (st' : Sto) : Prop where
  h : ev P cs e Γ st = .er c st'
/-- a call's answer -/
structure Cl (c : CallT) (k : Nat) (l : List D) (st : Sto) (d : D) (st' : Sto) : Prop where
  h : c k l st = .ok d st'
structure ClX (c : CallT) (k : Nat) (l : List D) (st : Sto) (e : Nat) (st' : Sto) : Prop where
  h : c k l st = .er e st'
structure Xe (P : Prg) (cs : List CallT) (F : Nat) (Γ : Env) (st : Sto) (s : IS) (o : O) : Prop where
  h : exec P cs F s Γ st = o
structure Xs (P : Prg) (cs : List CallT) (F : Nat) (Γ : Env) (st : Sto) (s : ISs) (o : O) : Prop where
  h : execs P cs F s Γ st = o

section
variable {P : Prg} {cs : List CallT} {Γ : Env} {st st1 st2 st3 st4 : Sto}
/-! ### values -/
theorem Ev.non : Ev P cs Γ st .non .non st := ⟨rfl⟩
theorem Ev.bl {b : Bool} : Ev P cs Γ st (.bl b) (.bl b) st := ⟨rfl⟩
theorem Ev.int {i : Int} : Ev P cs Γ st (.int i) (.int i) st := ⟨rfl⟩
theorem Ev.str {s : Str} : Ev P cs Γ st (.str s) (.str s) st := ⟨rfl⟩
theorem Ev.var {i : Nat} {d : D} (h : Γ[i]? = some (.val d)) : Ev P cs Γ st (.var i) d st := ⟨by unfold ev; rw [h]⟩
theorem Ev.own {i : Nat} {l : List D} (h : Γ[i]? = some (.own l)) : Ev P cs Γ st (.own i) (.lst l) st := ⟨by unfold ev; rw [h]⟩
theorem Ev.ownV {i : Nat} {d : D} (h : Γ[i]? = some (.val d)) : Ev P cs Γ st (.own i) d st := ⟨by unfold ev; rw [h]⟩
theorem Ev.glob {k : Nat} {d : D} (h : P.globs[k]? = some d) : Ev P cs Γ st (.glob k) d st := ⟨by unfold ev; rw [h]; rfl⟩
theorem Ev.lamv {n : Nat} : Ev P cs Γ st (.lamv n) (.lam n) st := ⟨rfl⟩
/-! ### operators -/
theorem Ev.bop {o : Bop} {a b : IE} {x y z : D} (ha : Ev P cs Γ st a x st1) (hb : Ev P cs Γ st1 b y st2) (h : bopV o x y = some z) : Ev P cs Γ st (.bop o a b) z st2 := ⟨by
  unfold ev
  rw [ha.h]
  show (ev P cs b Γ st1).bind _ = _
  rw [hb.h]
  show ofO (bopV o x y) st2 = _
  rw [h]
  rfl⟩
theorem Ev.add {a b : IE} {i j : Int} (ha : Ev P cs Γ st a (.int i) st1) (hb : Ev P cs Γ st1 b (.int j) st2) : Ev P cs Γ st (.bop .add a b) (.int (i + j)) st2 := .bop ha hb rfl
theorem Ev.sub {a b : IE} {i j : Int} (ha : Ev P cs Γ st a (.int i) st1) (hb : Ev P cs Γ st1 b (.int j) st2) : Ev P cs Γ st (.bop .sub a b) (.int (i - j)) st2 := .bop ha hb rfl
theorem Ev.mul {a b : IE} {i j : Int} (ha : Ev P cs Γ st a (.int i) st1) (hb : Ev P cs Γ st1 b (.int j) st2) (h : mulOk i j = true) : Ev P cs Γ st (.bop .mul a b) (.int (i * j)) st2 := .bop ha hb (if_pos h)
theorem Ev.fdiv {a b : IE} {i j : Int} (ha : Ev P cs Γ st a (.int i) st1) (hb : Ev P cs Γ st1 b (.int j) st2) (h : divOk j = true) : Ev P cs Γ st (.bop .fdiv a b) (.int (i.fdiv j)) st2 := .bop ha hb (if_pos h)
theorem Ev.mod {a b : IE} {i j : Int} (ha : Ev P cs Γ st a (.int i) st1) (hb : Ev P cs Γ st1 b (.int j) st2) (h : j ≠ 0) : Ev P cs Γ st (.bop .mod a b) (.int (i.fmod j)) st2 := .bop ha hb (if_neg h)
theorem Ev.cat {a b : IE} {l m : List D} (ha : Ev P cs Γ st a (.lst l) st1) (hb : Ev P cs Γ st1 b (.lst m) st2) (h : (bigOk l && bigOk m) = true) : Ev P cs Γ st (.bop .add a b) (.lst (l ++ m)) st2 := .bop ha hb (if_pos h)
theorem Ev.catT {a b : IE} {l m : List D} (ha : Ev P cs Γ st a (.tup l) st1) (hb : Ev P cs Γ st1 b (.tup m) st2) (h : (bigOk l && bigOk m) = true) : Ev P cs Γ st (.bop .add a b) (.tup (l ++ m)) st2 := .bop ha hb (if_pos h)
theorem Ev.neg {a : IE} {i : Int} (ha : Ev P cs Γ st a (.int i) st1) : Ev P cs Γ st (.neg a) (.int (-i)) st1 := ⟨by unfold ev; rw [ha.h]; rfl⟩
theorem EvT.of {e : IE} {d : D} {b : Bool} (h : Ev P cs Γ st e d st1) (ht : truth st1 d = some b) : EvT P cs Γ st e b st1 := ⟨by
  rw [h.h]
  show ofO (truth st1 d) st1 = _
  rw [ht]
  rfl⟩
theorem EvT.bl {e : IE} {b : Bool} (h : Ev P cs Γ st e (.bl b) st1) : EvT P cs Γ st e b st1 := .of h rfl
theorem EvT.is {e : IE} {b b' : Bool} (h : EvT P cs Γ st e b st1) (q : b = b') : EvT P cs Γ st e b' st1 := q ▸ h
theorem Ev.is {e : IE} {d d' : D} (h : Ev P cs Γ st e d st1) (q : d = d') : Ev P cs Γ st e d' st1 := q ▸ h
theorem Ev.not {a : IE} {d : D} {b : Bool} (ha : Ev P cs Γ st a d st1) (h : truth st1 d = some b) : Ev P cs Γ st (.not a) (.bl (!b)) st1 := ⟨by
  unfold ev
  rw [ha.h]
  show ofO ((truth st1 d).map _) st1 = _
  rw [h]
  rfl⟩
theorem Ev.notB {a : IE} {b : Bool} (ha : Ev P cs Γ st a (.bl b) st1) : Ev P cs Γ st (.not a) (.bl (!b)) st1 := .not ha rfl
theorem Ev.cmp {o : Cop} {a b : IE} {x y : D} {t : Bool} (ha : Ev P cs Γ st a x st1) (hb : Ev P cs Γ st1 b y st2) (h : cmpV st2 o x y = some t) : Ev P cs Γ st (.cmp o a b) (.bl t) st2 := ⟨by
  unfold ev
  rw [ha.h]
  show (ev P cs b Γ st1).bind _ = _
  rw [hb.h]
  show ofO ((cmpV st2 o x y).map _) st2 = _
  rw [h]
  rfl⟩
theorem Ev.lt {a b : IE} {i j : Int} (ha : Ev P cs Γ st a (.int i) st1) (hb : Ev P cs Γ st1 b (.int j) st2) : Ev P cs Γ st (.cmp .lt a b) (.bl (decide (i < j))) st2 := .cmp ha hb rfl
theorem Ev.le {a b : IE} {i j : Int} (ha : Ev P cs Γ st a (.int i) st1) (hb : Ev P cs Γ st1 b (.int j) st2) : Ev P cs Γ st (.cmp .le a b) (.bl (decide (i ≤ j))) st2 := .cmp ha hb rfl
theorem Ev.gt {a b : IE} {i j : Int} (ha : Ev P cs Γ st a (.int i) st1) (hb : Ev P cs Γ st1 b (.int j) st2) : Ev P cs Γ st (.cmp .gt a b) (.bl (decide (j < i))) st2 := .cmp ha hb rfl
theorem Ev.ge {a b : IE} {i j : Int} (ha : Ev P cs Γ st a (.int i) st1) (hb : Ev P cs Γ st1 b (.int j) st2) : Ev P cs Γ st (.cmp .ge a b) (.bl (decide (j ≤ i))) st2 := .cmp ha hb rfl
theorem Ev.eq {a b : IE} {x y : D} (ha : Ev P cs Γ st a x st1) (hb : Ev P cs Γ st1 b y st2) (h : (D.shp 60 x && D.shp 60 y) = true) : Ev P cs Γ st (.cmp .eq a b) (.bl (D.eqb x y)) st2 := .cmp ha hb (if_pos h)
theorem Ev.ne {a b : IE} {x y : D} (ha : Ev P cs Γ st a x st1) (hb : Ev P cs Γ st1 b y st2) (h : (D.shp 60 x && D.shp 60 y) = true) : Ev P cs Γ st (.cmp .ne a b) (.bl (!D.eqb x y)) st2 := .cmp ha hb (if_pos h)
theorem Ev.eqI {a b : IE} {i j : Int} (ha : Ev P cs Γ st a (.int i) st1) (hb : Ev P cs Γ st1 b (.int j) st2) : Ev P cs Γ st (.cmp .eq a b) (.bl (decide (i = j))) st2 := .cmp ha hb (by
  show (if (D.shp 60 (.int i) && D.shp 60 (.int j)) = true then some (D.eqb (.int i) (.int j)) else none) = _
  rw [if_pos (show (D.shp 60 (.int i) && D.shp 60 (.int j)) = true from rfl)]
  unfold D.eqb
  congr 1)
theorem Ev.neI {a b : IE} {i j : Int} (ha : Ev P cs Γ st a (.int i) st1) (hb : Ev P cs Γ st1 b (.int j) st2) : Ev P cs Γ st (.cmp .ne a b) (.bl (!decide (i = j))) st2 := .cmp ha hb (by
  show (if (D.shp 60 (.int i) && D.shp 60 (.int j)) = true then some (!D.eqb (.int i) (.int j)) else none) = _
  rw [if_pos (show (D.shp 60 (.int i) && D.shp 60 (.int j)) = true from rfl)]
  unfold D.eqb
  congr 1)
theorem Ev.isN {a : IE} {x : D} (ha : Ev P cs Γ st a x st1) : Ev P cs Γ st (.cmp .is_ a .non) (.bl x.isNon) st1 := .cmp ha .non rfl
theorem Ev.isnN {a : IE} {x : D} (ha : Ev P cs Γ st a x st1) : Ev P cs Γ st (.cmp .isn a .non) (.bl (!x.isNon)) st1 := .cmp ha .non rfl
/-- a chain of two, the last told whatever the first says -/
theorem Ev.cmp2 {o p : Cop} {a b c : IE} {x y z : D} {t u : Bool} (ha : Ev P cs Γ st a x st1) (hb : Ev P cs Γ st1 b y st2) (ht : cmpV st2 o x y = some t) (hc : t = true → Ev P cs Γ st2 c z st2) (hu : t = true → cmpV st2 p y z = some u) : Ev P cs Γ st (.cmp2 o p a b c) (.bl (t && u)) st2 := ⟨by
  unfold ev
  rw [ha.h]
  show (ev P cs b Γ st1).bind _ = _
  rw [hb.h]
  show (ofO (cmpV st2 o x y) st2).bind _ = _
  rw [ht]
  cases t with
  | false => rfl
  | true =>
    show (ev P cs c Γ st2).bind _ = _
    rw [(hc rfl).h]
    show ofO ((cmpV st2 p y z).map _) st2 = _
    rw [hu rfl]
    rfl⟩
/-! ### and, or, if -/
theorem Ev.and {es : IEs} {d : D} (h : EvA P cs Γ st es d st1) : Ev P cs Γ st (.and es) d st1 := ⟨by unfold ev; exact h.h⟩
theorem Ev.or {es : IEs} {d : D} (h : EvO P cs Γ st es d st1) : Ev P cs Γ st (.or es) d st1 := ⟨by unfold ev; exact h.h⟩
theorem EvA.one {e : IE} {d : D} (h : Ev P cs Γ st e d st1) : EvA P cs Γ st (.cons e .nil) d st1 := ⟨by unfold evAnd; exact h.h⟩
theorem EvO.one {e : IE} {d : D} (h : Ev P cs Γ st e d st1) : EvO P cs Γ st (.cons e .nil) d st1 := ⟨by unfold evOr; exact h.h⟩
theorem EvA.cons {e e2 : IE} {r : IEs} {p q : Bool} (h : Ev P cs Γ st e (.bl p) st1) (h2 : p = true → EvA P cs Γ st1 (.cons e2 r) (.bl q) st1) : EvA P cs Γ st (.cons e (.cons e2 r)) (.bl (p && q)) st1 := ⟨by
  unfold evAnd
  rw [h.h]
  cases p with
  | false => rfl
  | true => exact (h2 rfl).h⟩
theorem EvO.cons {e e2 : IE} {r : IEs} {p q : Bool} (h : Ev P cs Γ st e (.bl p) st1) (h2 : p = false → EvO P cs Γ st1 (.cons e2 r) (.bl q) st1) : EvO P cs Γ st (.cons e (.cons e2 r)) (.bl (p || q)) st1 := ⟨by
  unfold evOr
  rw [h.h]
  cases p with
  | true => rfl
  | false => exact (h2 rfl).h⟩
/-- all are false -/
theorem EvO.consF {e e2 : IE} {r : IEs} (h : Ev P cs Γ st e (.bl false) st1) (h2 : EvO P cs Γ st1 (.cons e2 r) (.bl false) st2) : EvO P cs Γ st (.cons e (.cons e2 r)) (.bl false) st2 := ⟨by
  unfold evOr
  rw [h.h]
  exact h2.h⟩
theorem Ev.iteT {c a b : IE} {x : D} (hc : EvT P cs Γ st c true st1) (h : Ev P cs Γ st1 a x st2) : Ev P cs Γ st (.ite c a b) x st2 := ⟨by
  have e := hc.h
  unfold tst at e
  unfold ev
  cases h0 : ev P cs c Γ st with
  | ok d s =>
    rw [h0] at e
    have e : ofO (truth s d) s = .ok true st1 := e
    show (ofO (truth s d) s).bind _ = _
    rw [e]
    exact h.h
  | er _ _ => rw [h0] at e; cases e
  | bad => rw [h0] at e; cases e⟩
theorem Ev.iteF {c a b : IE} {x : D} (hc : EvT P cs Γ st c false st1) (h : Ev P cs Γ st1 b x st2) : Ev P cs Γ st (.ite c a b) x st2 := ⟨by
  have e := hc.h
  unfold tst at e
  unfold ev
  cases h0 : ev P cs c Γ st with
  | ok d s =>
    rw [h0] at e
    have e : ofO (truth s d) s = .ok false st1 := e
    show (ofO (truth s d) s).bind _ = _
    rw [e]
    exact h.h
  | er _ _ => rw [h0] at e; cases e
  | bad => rw [h0] at e; cases e⟩
theorem Ev.ite {c a b : IE} {t : Bool} {x y : D} (hc : EvT P cs Γ st c t st1) (ha : t = true → Ev P cs Γ st1 a x st1) (hb : t = false → Ev P cs Γ st1 b y st1) : Ev P cs Γ st (.ite c a b) (if t = true then x else y) st1 := by
  cases t with
  | true => exact .iteT hc (ha rfl)
  | false => exact .iteF hc (hb rfl)
theorem Ev.iteI {c a b : IE} {t : Bool} {i j : Int} (hc : EvT P cs Γ st c t st1) (ha : t = true → Ev P cs Γ st1 a (.int i) st1) (hb : t = false → Ev P cs Γ st1 b (.int j) st1) : Ev P cs Γ st (.ite c a b) (.int (if t = true then i else j)) st1 := by
  cases t with
  | true => exact .iteT hc (ha rfl)
  | false => exact .iteF hc (hb rfl)
/-! ### displays, items, slices -/
theorem Evs.nil : Evs P cs Γ st .nil [] st := ⟨rfl⟩
theorem Evs.cons {e : IE} {es : IEs} {d : D} {l : List D} (h : Ev P cs Γ st e d st1) (h2 : Evs P cs Γ st1 es l st2) : Evs P cs Γ st (.cons e es) (d :: l) st2 := ⟨by
  unfold evs
  rw [h.h]
  show (evs P cs es Γ st1).bind _ = _
  rw [h2.h]
  rfl⟩
theorem Ev.tup {es : IEs} {l : List D} (h : Evs P cs Γ st es l st1) (hb : bigOk l = true) : Ev P cs Γ st (.tup es) (.tup l) st1 := ⟨by
  unfold ev
  rw [h.h]
  show (if bigOk l = true then R.ok (D.tup l) st1 else .bad) = _
  rw [if_pos hb]⟩
theorem Ev.lst {es : IEs} {l : List D} (h : Evs P cs Γ st es l st1) (hb : bigOk l = true) : Ev P cs Γ st (.lst es) (.lst l) st1 := ⟨by
  unfold ev
  rw [h.h]
  show (if bigOk l = true then R.ok (D.lst l) st1 else .bad) = _
  rw [if_pos hb]⟩
theorem Ev.newl {es : IEs} {l : List D} (h : Evs P cs Γ st es l st1) (hb : bigOk l = true) : Ev P cs Γ st (.newl es) (.ref st1.length) (st1 ++ [.lst l]) := ⟨by
  unfold ev
  rw [h.h]
  show (if bigOk l = true then R.ok (D.ref st1.length) (st1 ++ [.lst l]) else .bad) = _
  rw [if_pos hb]⟩
theorem Ev.ix {a i : IE} {x y d : D} (ha : Ev P cs Γ st a x st1) (hi : Ev P cs Γ st1 i y st2) (h : ixV st2 x y = some d) : Ev P cs Γ st (.ix a i) d st2 := ⟨by
  unfold ev
  rw [ha.h]
  show (ev P cs i Γ st1).bind _ = _
  rw [hi.h]
  show ofO (ixV st2 x y) st2 = _
  rw [h]
  rfl⟩
/-- an item by a place told as a number -/
theorem ixV_lst {l : List D} {k : Nat} {d : D} {i : Int} (e : i = (k : Int)) (h : l[k]? = some d) : ixV st (.lst l) (.int i) = some d := by
  subst e
  show L2.atI l (k : Int) = some d
  unfold L2.atI L2.ixN
  have hk := (List.getElem?_eq_some_iff.mp h).1
  rw [if_pos (by omega), if_pos (by omega)]
  exact h
theorem ixV_tup {l : List D} {k : Nat} {d : D} {i : Int} (e : i = (k : Int)) (h : l[k]? = some d) : ixV st (.tup l) (.int i) = some d := ixV_lst (st := st) e h
theorem Ev.rev {a : IE} {x d : D} (ha : Ev P cs Γ st a x st1) (h : revV x = some d) : Ev P cs Γ st (.rev a) d st1 := ⟨by
  unfold ev
  rw [ha.h]
  show ofO (revV x) st1 = _
  rw [h]
  rfl⟩
theorem Ev.b1 {b : B1} {a : IE} {x d : D} (ha : Ev P cs Γ st a x st1) (h : b1V st1 b x = some d) : Ev P cs Γ st (.b1 b a) d st1 := ⟨by
  unfold ev
  rw [ha.h]
  show ofO (b1V st1 b x) st1 = _
  rw [h]
  rfl⟩
theorem Ev.b2 {b : B2} {a c : IE} {x y d : D} (ha : Ev P cs Γ st a x st1) (hc : Ev P cs Γ st1 c y st2) (h : b2V b x y = some d) : Ev P cs Γ st (.b2 b a c) d st2 := ⟨by
  unfold ev
  rw [ha.h]
  show (ev P cs c Γ st1).bind _ = _
  rw [hc.h]
  show ofO (b2V b x y) st2 = _
  rw [h]
  rfl⟩
/-- a[lo:hi], its ends told -/
theorem Ev.sl {a lo hi : IE} {x d : D} {l u : Option Int} (ha : Ev P cs Γ st a x st1) (hl : partR (isNo lo) st1 (ev P cs lo Γ st1) = .ok l st2) (hh : partR (isNo hi) st2 (ev P cs hi Γ st2) = .ok u st3) (h : cutOf l u x = some d) : Ev P cs Γ st (.sl a lo hi) d st3 := ⟨by
  unfold ev
  rw [ha.h]
  show (partR (isNo lo) st1 (ev P cs lo Γ st1)).bind _ = _
  rw [hl]
  show (partR (isNo hi) st2 (ev P cs hi Γ st2)).bind _ = _
  rw [hh]
  show ofO (cutOf l u x) st3 = _
  rw [h]
  rfl⟩
theorem part_no : partR (isNo .no) st (ev P cs .no Γ st) = .ok none st := rfl
theorem part_int {e : IE} {i : Int} (hn : isNo e = false) (h : Ev P cs Γ st e (.int i) st1) : partR (isNo e) st (ev P cs e Γ st) = .ok (some i) st1 := by
  rw [h.h, hn]
  rfl
/-! ### calls -/
theorem Ev.call {c : CallT} {r : List CallT} {k : Nat} {es : IEs} {l : List D} {d : D} (hcs : cs = c :: r) (hl : Evs P cs Γ st es l st1) (h : Cl c k l st1 d st2) : Ev P cs Γ st (.call k es) d st2 := ⟨by
  have e := hl.h
  subst hcs
  unfold ev
  rw [e]
  exact h.h⟩
theorem EvX.call {c : CallT} {r : List CallT} {k : Nat} {es : IEs} {l : List D} {x : Nat} (hcs : cs = c :: r) (hl : Evs P cs Γ st es l st1) (h : ClX c k l st1 x st2) : EvX P cs Γ st (.call k es) x st2 := ⟨by
  have e := hl.h
  subst hcs
  unfold ev
  rw [e]
  exact h.h⟩
theorem Ev.told {c1 c2 : CallT} {r : List CallT} {k : Nat} {e : IE} {d : D} {p : Nat × Str} (hcs : cs = c1 :: c2 :: r) (hk : P.tolds k = some p) (h : Ev P r Γ st e d st1) : Ev P cs Γ st (.told k e) d st1 := ⟨by
  subst hcs
  unfold ev
  show toldR P k (ev P r e Γ st) = _
  rw [h.h]
  unfold toldR
  rw [hk]⟩
theorem Ev.toldX {c1 c2 : CallT} {r : List CallT} {k x c : Nat} {s : Str} {e : IE} (hcs : cs = c1 :: c2 :: r) (hk : P.tolds k = some (c, s)) (hs : P.sub x c = true) (h : EvX P r Γ st e x st1) : Ev P cs Γ st (.told k e) (.str s) st1 := ⟨by
  subst hcs
  unfold ev
  show toldR P k (ev P r e Γ st) = _
  rw [h.h]
  unfold toldR
  rw [hk]
  show (if P.sub x c = true then R.ok (D.str s) st1 else .bad) = _
  rw [if_pos hs]⟩
/-! ### walks -/
theorem EvI.seqL {e : IE} {l : List D} (h : Ev P cs Γ st e (.lst l) st1) : EvI P cs Γ st (.seq e) l st1 := ⟨by unfold evIt; rw [h.h]; rfl⟩
theorem EvI.seqT {e : IE} {l : List D} (h : Ev P cs Γ st e (.tup l) st1) : EvI P cs Γ st (.seq e) l st1 := ⟨by unfold evIt; rw [h.h]; rfl⟩
theorem EvI.range1 {e : IE} {i : Int} (h : Ev P cs Γ st e (.int i) st1) (hr : rngOk i = true) : EvI P cs Γ st (.range1 e) (rangeD 0 i) st1 := ⟨by
  unfold evIt
  rw [h.h]
  show (if rngOk i = true then R.ok (rangeD 0 i) st1 else .bad) = _
  rw [if_pos hr]⟩
theorem EvI.range2 {a b : IE} {i j : Int} (ha : Ev P cs Γ st a (.int i) st1) (hb : Ev P cs Γ st1 b (.int j) st2) (hr : (rngOk i && rngOk j) = true) : EvI P cs Γ st (.range2 a b) (rangeD i j) st2 := ⟨by
  unfold evIt
  rw [ha.h]
  show (ev P cs b Γ st1).bind _ = _
  rw [hb.h]
  show (if (rngOk i && rngOk j) = true then R.ok (rangeD i j) st2 else .bad) = _
  rw [if_pos hr]⟩
theorem EvI.range3 {a b c : IE} {i j k : Int} (ha : Ev P cs Γ st a (.int i) st1) (hb : Ev P cs Γ st1 b (.int j) st2) (hc : Ev P cs Γ st2 c (.int k) st3) (hr : rng3Ok i j k = true) : EvI P cs Γ st (.range3 a b c) (range3D i j k) st3 := ⟨by
  unfold evIt
  rw [ha.h]
  show (ev P cs b Γ st1).bind _ = _
  rw [hb.h]
  show (ev P cs c Γ st2).bind _ = _
  rw [hc.h]
  show (if rng3Ok i j k = true then R.ok (range3D i j k) st3 else .bad) = _
  rw [if_pos hr]⟩
theorem EvI.enum {a : IE} {l : List D} (h : Ev P cs Γ st a (.lst l) st1) : EvI P cs Γ st (.enum a) (enumD 0 l) st1 := ⟨by unfold evIt; rw [h.h]; rfl⟩
theorem EvI.zipL {a b : IE} {l m : List D} (ha : Ev P cs Γ st a (.lst l) st1) (hb : Ev P cs Γ st1 b (.lst m) st2) : EvI P cs Γ st (.zip a b) (zipD l m) st2 := ⟨by
  unfold evIt
  rw [ha.h]
  show (ev P cs b Γ st1).bind _ = _
  rw [hb.h]
  rfl⟩
theorem EvI.zipT {a b : IE} {l m : List D} (ha : Ev P cs Γ st a (.tup l) st1) (hb : Ev P cs Γ st1 b (.tup m) st2) : EvI P cs Γ st (.zip a b) (zipD l m) st2 := ⟨by
  unfold evIt
  rw [ha.h]
  show (ev P cs b Γ st1).bind _ = _
  rw [hb.h]
  rfl⟩
theorem Ev.lc {vs : List Nat} {p : Pt} {it : It} {ifs : IEs} {elt : IE} {xs l : List D} (hi : EvI P cs Γ st it xs st1) (h : compL (bindP p) (evIfs P cs ifs) (ev P cs elt) xs (wipeE Γ vs) st1 = .ok l st2) (hb : bigOk xs = true) : Ev P cs Γ st (.lc vs p it ifs elt) (.lst l) st2 := ⟨by
  unfold ev
  rw [hi.h]
  show (R.noEr (compL (bindP p) (evIfs P cs ifs) (ev P cs elt) xs (wipeE Γ vs) st1)).bind _ = _
  rw [h]
  show (if bigOk xs = true then R.ok (D.lst l) st2 else .bad) = _
  rw [if_pos hb]⟩
theorem Ev.genT {c : CallT} {r : List CallT} {vs : List Nat} {p : Pt} {it : It} {ifs : IEs} {elt : IE} {xs l : List D} (hcs : cs = c :: r) (hi : EvI P cs Γ st it xs st1) (h : compL (bindP p) (evIfs P r ifs) (ev P r elt) xs (wipeE Γ vs) st1 = .ok l st2) (hb : bigOk xs = true) : Ev P cs Γ st (.gen .tuple vs p it ifs elt) (.tup l) st2 := ⟨by
  have e := hi.h
  subst hcs
  unfold ev
  rw [e]
  show (R.noEr (compL (bindP p) (evIfs P r ifs) (ev P r elt) xs (wipeE Γ vs) st1)).bind _ = _
  rw [h]
  show (if bigOk xs = true then R.ok (D.tup l) st2 else .bad) = _
  rw [if_pos hb]⟩
theorem Ev.genAny {c : CallT} {r : List CallT} {vs : List Nat} {p : Pt} {it : It} {ifs : IEs} {elt : IE} {xs : List D} {b : Bool} (hcs : cs = c :: r) (hi : EvI P cs Γ st it xs st1) (h : anyL true (bindP p) (evIfs P r ifs) (ev P r elt) xs (wipeE Γ vs) st1 = .ok b st2) (hb : bigOk xs = true) : Ev P cs Γ st (.gen .any vs p it ifs elt) (.bl b) st2 := ⟨by
  have e := hi.h
  subst hcs
  unfold ev
  rw [e]
  show (R.noEr (anyL true (bindP p) (evIfs P r ifs) (ev P r elt) xs (wipeE Γ vs) st1)).bind _ = _
  rw [h]
  show (if bigOk xs = true then R.ok (D.bl b) st2 else .bad) = _
  rw [if_pos hb]⟩
theorem Ev.genAll {c : CallT} {r : List CallT} {vs : List Nat} {p : Pt} {it : It} {ifs : IEs} {elt : IE} {xs : List D} {b : Bool} (hcs : cs = c :: r) (hi : EvI P cs Γ st it xs st1) (h : anyL false (bindP p) (evIfs P r ifs) (ev P r elt) xs (wipeE Γ vs) st1 = .ok b st2) (hb : bigOk xs = true) : Ev P cs Γ st (.gen .all vs p it ifs elt) (.bl b) st2 := ⟨by
  have e := hi.h
  subst hcs
  unfold ev
  rw [e]
  show (R.noEr (anyL false (bindP p) (evIfs P r ifs) (ev P r elt) xs (wipeE Γ vs) st1)).bind _ = _
  rw [h]
  show (if bigOk xs = true then R.ok (D.bl b) st2 else .bad) = _
  rw [if_pos hb]⟩
theorem ifs_nil : evIfs P cs .nil Γ st = .ok true st := rfl
theorem ifs_one {e : IE} {b : Bool} (h : EvT P cs Γ st e b st1) : evIfs P cs (.cons e .nil) Γ st = .ok b st1 := by
  unfold evIfs
  exact h.h
end
/-! ### comprehensions over written lists -/
section
variable {α β : Type} {bind : D → Env → Option Env} {cond : Env → Sto → R Bool} {f : Env → Sto → R D} {Γ : Env} {st : Sto}
theorem compL_map (e g : α → D) : ∀ (xs : List α), (∀ x ∈ xs, ∃ Γ', bind (e x) Γ = some Γ' ∧ cond Γ' st = .ok true st ∧ f Γ' st = .ok (g x) st) → compL bind cond f (xs.map e) Γ st = .ok (xs.map g) st
  | [], _ => rfl
  | x :: xs, h => by
    obtain ⟨Γ', h1, h2, h3⟩ := h x (by simp)
    rw [List.map_cons, List.map_cons]
    unfold compL
    rw [h1]
    show (cond Γ' st).bind _ = _
    rw [h2]
    show (f Γ' st).bind (fun d st2 => (compL bind cond f (xs.map e) Γ st2).bind fun ds st3 => .ok (d :: ds) st3) = _
    rw [h3]
    show (compL bind cond f (xs.map e) Γ st).bind _ = _
    rw [compL_map e g xs fun y hy => h y (by simp [hy])]
    rfl
theorem compL_filter (e g : α → D) (t : α → Bool) : ∀ (xs : List α), (∀ x ∈ xs, ∃ Γ', bind (e x) Γ = some Γ' ∧ cond Γ' st = .ok (t x) st ∧ (t x = true → f Γ' st = .ok (g x) st)) → compL bind cond f (xs.map e) Γ st = .ok ((xs.filter t).map g) st
  | [], _ => rfl
  | x :: xs, h => by
    obtain ⟨Γ', h1, h2, h3⟩ := h x (by simp)
    have ih := compL_filter e g t xs fun y hy => h y (by simp [hy])
    rw [List.map_cons]
    unfold compL
    rw [h1]
    show (cond Γ' st).bind _ = _
    rw [h2]
    cases ht : t x with
    | true =>
      rw [List.filter_cons_of_pos ht]
      show (f Γ' st).bind (fun d st2 => (compL bind cond f (xs.map e) Γ st2).bind fun ds st3 => .ok (d :: ds) st3) = _
      rw [h3 ht]
      show (compL bind cond f (xs.map e) Γ st).bind _ = _
      rw [ih]
      rfl
    | false =>
      rw [List.filter_cons_of_neg (by simp [ht])]
      exact ih
/-- the store changes with each item -/
theorem compL_st {σ : Type} (e : α → D) (S : σ → Sto) (g : β → D) (Pr : β → Prop) : ∀ (xs : List α) (s : σ), (∀ x ∈ xs, ∀ s, ∃ Γ' y s', bind (e x) Γ = some Γ' ∧ cond Γ' (S s) = .ok true (S s) ∧ f Γ' (S s) = .ok (g y) (S s') ∧ Pr y) →
    ∃ (ys : List β) (s' : σ), compL bind cond f (xs.map e) Γ (S s) = .ok (ys.map g) (S s') ∧ ys.length = xs.length ∧ ∀ y ∈ ys, Pr y
  | [], s, _ => ⟨[], s, rfl, rfl, by simp⟩
  | x :: xs, s, h => by
    obtain ⟨Γ', y, s1, h1, h2, h3, h4⟩ := h x (by simp) s
    obtain ⟨ys, s2, i1, i2, i3⟩ := compL_st e S g Pr xs s1 fun z hz => h z (by simp [hz])
    refine ⟨y :: ys, s2, ?_, by simp [i2], fun z hz => ?_⟩
    · rw [List.map_cons, List.map_cons]
      unfold compL
      rw [h1]
      show (cond Γ' (S s)).bind _ = _
      rw [h2]
      show (f Γ' (S s)).bind (fun d st2 => (compL bind cond f (xs.map e) Γ st2).bind fun ds st3 => .ok (d :: ds) st3) = _
      rw [h3]
      show (compL bind cond f (xs.map e) Γ (S s1)).bind _ = _
      rw [i1]
      rfl
    · rcases List.mem_cons.mp hz with hz | hz
      · rw [hz]; exact h4
      · exact i3 z hz
theorem anyL_any (e : α → D) (t : α → Bool) : ∀ (xs : List α), (∀ x ∈ xs, ∃ Γ', bind (e x) Γ = some Γ' ∧ cond Γ' st = .ok true st ∧ f Γ' st = .ok (.bl (t x)) st) → anyL true bind cond f (xs.map e) Γ st = .ok (xs.any t) st
  | [], _ => rfl
  | x :: xs, h => by
    obtain ⟨Γ', h1, h2, h3⟩ := h x (by simp)
    rw [List.map_cons]
    unfold anyL
    rw [h1]
    show (cond Γ' st).bind _ = _
    rw [h2]
    show (f Γ' st).bind (fun d st2 => match d with
        | .bl k => if k == true then .ok true st2 else anyL true bind cond f (xs.map e) Γ st2
        | _ => .bad) = _
    rw [h3]
    show (if (t x == true) = true then R.ok true st else anyL true bind cond f (xs.map e) Γ st) = _
    rw [List.any_cons, anyL_any e t xs fun y hy => h y (by simp [hy])]
    cases t x <;> rfl
theorem anyL_all (e : α → D) (t : α → Bool) : ∀ (xs : List α), (∀ x ∈ xs, ∃ Γ', bind (e x) Γ = some Γ' ∧ cond Γ' st = .ok true st ∧ f Γ' st = .ok (.bl (t x)) st) → anyL false bind cond f (xs.map e) Γ st = .ok (xs.all t) st
  | [], _ => rfl
  | x :: xs, h => by
    obtain ⟨Γ', h1, h2, h3⟩ := h x (by simp)
    rw [List.map_cons]
    unfold anyL
    rw [h1]
    show (cond Γ' st).bind _ = _
    rw [h2]
    show (f Γ' st).bind (fun d st2 => match d with
        | .bl k => if k == false then .ok false st2 else anyL false bind cond f (xs.map e) Γ st2
        | _ => .bad) = _
    rw [h3]
    show (if (t x == false) = true then R.ok false st else anyL false bind cond f (xs.map e) Γ st) = _
    rw [List.all_cons, anyL_all e t xs fun y hy => h y (by simp [hy])]
    cases t x <;> rfl
end
/-! ### statements -/
section
variable {P : Prg} {cs : List CallT} {F : Nat} {Γ Γ' Γ1 : Env} {st st1 st2 st' : Sto}
theorem Xs.nil : Xs P cs F Γ st .nil (.nx Γ st) := ⟨rfl⟩
theorem Xs.cons {s : IS} {r : ISs} {o : O} (h : Xe P cs F Γ st s (.nx Γ1 st1)) (h2 : Xs P cs F Γ1 st1 r o) : Xs P cs F Γ st (.cons s r) o := ⟨by
  unfold execs
  rw [h.h]
  exact h2.h⟩
/-- the statement leaves -/
def O.leaves : O → Bool
  | .nx _ _ => false
  | _ => true
theorem Xs.leave {s : IS} {r : ISs} {o : O} (h : Xe P cs F Γ st s o) (hl : o.leaves = true) : Xs P cs F Γ st (.cons s r) o := ⟨by
  unfold execs
  rw [h.h]
  cases o <;> first | rfl | cases hl⟩
theorem Xs.frz {i : Nat} {r : ISs} {o : O} {l : List D} (h : Γ[i]? = some (.own l)) (hs : Γ.set i (.val (.lst l)) = Γ') (h2 : Xs P cs F Γ' st r o) : Xs P cs F Γ st (.frz i r) o := ⟨by
  subst hs
  unfold execs
  rw [h]
  exact h2.h⟩
theorem Xs.frzV {i : Nat} {r : ISs} {o : O} {d : D} (h : Γ[i]? = some (.val d)) (h2 : Xs P cs F Γ st r o) : Xs P cs F Γ st (.frz i r) o := ⟨by
  unfold execs
  rw [h]
  exact h2.h⟩
theorem Xe.asg {i : Nat} {e : IE} {d : D} (h : Ev P cs Γ st e d st1) (hi : decide (i < Γ.length) = true) (hs : Γ.set i (.val d) = Γ') : Xe P cs F Γ st (.asg (.name i) e) (.nx Γ' st1) := ⟨by
  subst hs
  unfold exec
  rw [h.h]
  show (if i < Γ.length then O.nx (Γ.set i (.val d)) st1 else .bad) = _
  rw [if_pos (of_decide_eq_true hi)]⟩
theorem Xe.asgT {t : Tg} {e : IE} {d : D} {o : O} (h : Ev P cs Γ st e d st1) (hp : putT P cs t d Γ st1 = o) : Xe P cs F Γ st (.asg t e) o := ⟨by
  unfold exec
  rw [h.h]
  exact hp⟩
theorem Xe.setN {i : Nat} {e : IE} {l : List D} (h : Ev P cs Γ st e (.lst l) st1) (hi : decide (i < Γ.length) = true) (hs : Γ.set i (.own l) = Γ') : Xe P cs F Γ st (.setN i e) (.nx Γ' st1) := ⟨by
  subst hs
  unfold exec
  rw [h.h]
  show (if i < Γ.length then O.nx (Γ.set i (.own l)) st1 else .bad) = _
  rw [if_pos (of_decide_eq_true hi)]⟩
structure EvF (P : Prg) (cs : List CallT) (Γ : Env) (st : Sto) (ts : List (Nat × Bool)) (es : IEs) (l : List Sl) (st' : Sto) : Prop where
  h : evsF P cs ts es Γ st = .ok l st'
theorem EvF.nil : EvF P cs Γ st [] .nil [] st := ⟨rfl⟩
theorem EvF.val {i : Nat} {ts : List (Nat × Bool)} {e : IE} {es : IEs} {d : D} {l : List Sl} (h : Ev P cs Γ st e d st1) (h2 : EvF P cs Γ st1 ts es l st2) : EvF P cs Γ st ((i, false) :: ts) (.cons e es) (.val d :: l) st2 := ⟨by
  unfold evsF
  rw [h.h]
  show (evsF P cs ts es Γ st1).bind _ = _
  rw [h2.h]
  rfl⟩
theorem EvF.own {i : Nat} {ts : List (Nat × Bool)} {e : IE} {es : IEs} {d : List D} {l : List Sl} (h : Ev P cs Γ st e (.lst d) st1) (h2 : EvF P cs Γ st1 ts es l st2) : EvF P cs Γ st ((i, true) :: ts) (.cons e es) (.own d :: l) st2 := ⟨by
  unfold evsF
  rw [h.h]
  show (evsF P cs ts es Γ st1).bind _ = _
  rw [h2.h]
  rfl⟩
theorem Xe.par {ts : List (Nat × Bool)} {es : IEs} {l : List Sl} (h : EvF P cs Γ st ts es l st1) (hp : parE ts l Γ = some Γ') : Xe P cs F Γ st (.par ts es) (.nx Γ' st1) := ⟨by
  unfold exec
  rw [h.h]
  show (match parE ts l Γ with | some Γ' => O.nx Γ' st1 | none => .bad) = _
  rw [hp]⟩
theorem Xe.aug {i : Nat} {o : Bop} {e : IE} {x y z : D} (hx : Γ[i]? = some (.val x)) (h : Ev P cs Γ st e y st1) (hz : augV o x y = some z) (hs : Γ.set i (.val z) = Γ') : Xe P cs F Γ st (.aug i o e) (.nx Γ' st1) := ⟨by
  subst hs
  unfold exec
  rw [hx]
  show (ev P cs e Γ st).then_ Γ _ = _
  rw [h.h]
  show (match augV o x y with | some z => O.nx (Γ.set i (.val z)) st1 | none => .bad) = _
  rw [hz]⟩
theorem Xe.augAdd {i : Nat} {e : IE} {x y : Int} (hx : Γ[i]? = some (.val (.int x))) (h : Ev P cs Γ st e (.int y) st1) (hs : Γ.set i (.val (.int (x + y))) = Γ') : Xe P cs F Γ st (.aug i .add e) (.nx Γ' st1) := .aug hx h rfl hs
theorem Xe.augSub {i : Nat} {e : IE} {x y : Int} (hx : Γ[i]? = some (.val (.int x))) (h : Ev P cs Γ st e (.int y) st1) (hs : Γ.set i (.val (.int (x - y))) = Γ') : Xe P cs F Γ st (.aug i .sub e) (.nx Γ' st1) := .aug hx h rfl hs
theorem Xe.augMul {i : Nat} {e : IE} {x y : Int} (hx : Γ[i]? = some (.val (.int x))) (h : Ev P cs Γ st e (.int y) st1) (hm : mulOk x y = true) (hs : Γ.set i (.val (.int (x * y))) = Γ') : Xe P cs F Γ st (.aug i .mul e) (.nx Γ' st1) := .aug hx h (if_pos hm) hs
theorem Xe.augDiv {i : Nat} {e : IE} {x y : Int} (hx : Γ[i]? = some (.val (.int x))) (h : Ev P cs Γ st e (.int y) st1) (hm : divOk y = true) (hs : Γ.set i (.val (.int (x.fdiv y))) = Γ') : Xe P cs F Γ st (.aug i .fdiv e) (.nx Γ' st1) := .aug hx h (if_pos hm) hs
theorem Xe.app {i : Nat} {e : IE} {l : List D} {d : D} (hx : Γ[i]? = some (.own l)) (h : Ev P cs Γ st e d st1) (hb : bigOk l = true) (hs : Γ.set i (.own (l ++ [d])) = Γ') : Xe P cs F Γ st (.app i e) (.nx Γ' st1) := ⟨by
  subst hs
  unfold exec
  rw [hx]
  show (ev P cs e Γ st).then_ Γ _ = _
  rw [h.h]
  show (if bigOk l = true then O.nx (Γ.set i (.own (l ++ [d]))) st1 else .bad) = _
  rw [if_pos hb]⟩
theorem Xe.ins0 {i : Nat} {e : IE} {l : List D} {d : D} (hx : Γ[i]? = some (.own l)) (h : Ev P cs Γ st e d st1) (hb : bigOk l = true) (hs : Γ.set i (.own (d :: l)) = Γ') : Xe P cs F Γ st (.ins i (.int 0) e) (.nx Γ' st1) := ⟨by
  subst hs
  unfold exec
  rw [hx]
  show (ev P cs e Γ st).then_ Γ _ = _
  rw [h.h]
  show (if (bigOk l && (decide ((0 : Int) ≤ 0) && decide ((0 : Int) < 2 ^ 60))) = true then O.nx (Γ.set i (.own (l.take 0 ++ [d] ++ l.drop 0))) st1 else .bad) = _
  rw [hb]
  rfl⟩
theorem Xe.expr {e : IE} {d : D} (h : Ev P cs Γ st e d st1) : Xe P cs F Γ st (.expr e) (.nx Γ st1) := ⟨by
  unfold exec
  rw [h.h]
  rfl⟩
theorem Xe.exprX {e : IE} {c : Nat} (h : EvX P cs Γ st e c st1) : Xe P cs F Γ st (.expr e) (.er c Γ st1) := ⟨by
  unfold exec
  rw [h.h]
  rfl⟩
theorem Xe.ret {e : IE} {d : D} (h : Ev P cs Γ st e d st1) : Xe P cs F Γ st (.ret e) (.ret d st1) := ⟨by
  unfold exec
  rw [h.h]
  rfl⟩
theorem Xe.retX {e : IE} {c : Nat} (h : EvX P cs Γ st e c st1) : Xe P cs F Γ st (.ret e) (.er c Γ st1) := ⟨by
  unfold exec
  rw [h.h]
  rfl⟩
theorem Xe.asgX {t : Tg} {e : IE} {c : Nat} (h : EvX P cs Γ st e c st1) : Xe P cs F Γ st (.asg t e) (.er c Γ st1) := ⟨by
  unfold exec
  rw [h.h]
  rfl⟩
theorem Xe.rais {c : Nat} : Xe P cs F Γ st (.rais c) (.er c Γ st) := ⟨rfl⟩
theorem Xe.brk : Xe P cs F Γ st .brk (.brk Γ st) := ⟨rfl⟩
theorem Xe.cont : Xe P cs F Γ st .cont (.cnt Γ st) := ⟨rfl⟩
theorem Xe.iff {c : IE} {a b : ISs} {t : Bool} {o : O} (hc : EvT P cs Γ st c t st1) (h : Xs P cs F Γ st1 (if t = true then a else b) o) : Xe P cs F Γ st (.iff c a b) o := ⟨by
  unfold exec
  rw [hc.h]
  cases t with
  | true => exact h.h
  | false => exact h.h⟩
theorem Xe.ifT {c : IE} {a b : ISs} {o : O} (hc : EvT P cs Γ st c true st1) (h : Xs P cs F Γ st1 a o) : Xe P cs F Γ st (.iff c a b) o := .iff hc h
theorem Xe.ifF {c : IE} {a b : ISs} {o : O} (hc : EvT P cs Γ st c false st1) (h : Xs P cs F Γ st1 b o) : Xe P cs F Γ st (.iff c a b) o := .iff hc h
/-- the test fails, nothing else -/
theorem Xe.ifN {c : IE} {a : ISs} (hc : EvT P cs Γ st c false st1) : Xe P cs F Γ st (.iff c a .nil) (.nx Γ st1) := .ifF hc .nil
theorem Xe.forr {p : Pt} {it : It} {b : ISs} {xs : List D} {o : O} (hi : EvI P cs Γ st it xs st1) (h : forL (bindP p) (execs P cs F b) xs Γ st1 = o) : Xe P cs F Γ st (.forr p it b) o := ⟨by
  unfold exec
  rw [hi.h]
  exact h⟩
theorem Xe.whil {c : IE} {b : ISs} {o : O} (h : whileL (fun Γ st => tst (ev P cs c Γ st)) (execs P cs F b) F Γ st = o) : Xe P cs F Γ st (.whil c b) o := ⟨by
  unfold exec
  exact h⟩
end
/-! ### loops -/
section
variable {α σ : Type} {bind : D → Env → Option Env} {body : Env → Sto → O}
/-- a fold: E tells the names by the fold's state, S the store -/
theorem forL_fold (e : α → D) (f : σ → α → σ) (E : σ → Env → Prop) (S : σ → Sto) : ∀ (xs : List α) (s : σ) (Γ : Env), E s Γ → (∀ x ∈ xs, ∀ s Γ, E s Γ → ∃ Γ1 Γ2, bind (e x) Γ = some Γ1 ∧ (body Γ1 (S s) = .nx Γ2 (S (f s x)) ∨ body Γ1 (S s) = .cnt Γ2 (S (f s x))) ∧ E (f s x) Γ2) →
    ∃ Γ', forL bind body (xs.map e) Γ (S s) = .nx Γ' (S (xs.foldl f s)) ∧ E (xs.foldl f s) Γ'
  | [], s, Γ, h, _ => ⟨Γ, rfl, h⟩
  | x :: xs, s, Γ, h, step => by
    obtain ⟨Γ1, Γ2, h1, h2, h3⟩ := step x (by simp) s Γ h
    obtain ⟨Γ', h4, h5⟩ := forL_fold e f E S xs (f s x) Γ2 h3 fun y hy => step y (by simp [hy])
    refine ⟨Γ', ?_, h5⟩
    rw [List.map_cons]
    unfold forL
    rw [h1]
    show (match body Γ1 (S s) with | .nx Γ2 st2 => forL bind body (xs.map e) Γ2 st2 | .cnt Γ2 st2 => forL bind body (xs.map e) Γ2 st2 | .brk Γ2 st2 => .nx Γ2 st2 | o => o) = _
    rcases h2 with h2 | h2
    · rw [h2]; exact h4
    · rw [h2]; exact h4
/-- an invariant, by how many are done -/
theorem forL_from (e : α → D) (I : Nat → Env → Sto → Prop) (all : List α) (step : ∀ (i : Nat) (x : α) Γ st, all[i]? = some x → I i Γ st → ∃ Γ1 Γ2 st2, bind (e x) Γ = some Γ1 ∧ (body Γ1 st = .nx Γ2 st2 ∨ body Γ1 st = .cnt Γ2 st2) ∧ I (i + 1) Γ2 st2) :
    ∀ (xs : List α) (i : Nat) (Γ : Env) (st : Sto), all.drop i = xs → I i Γ st → ∃ Γ' st', forL bind body (xs.map e) Γ st = .nx Γ' st' ∧ I (i + xs.length) Γ' st'
  | [], i, Γ, st, _, h => ⟨Γ, st, rfl, h⟩
  | x :: xs, i, Γ, st, hd, h => by
    have hx : all[i]? = some x := by
      have := congrArg (fun l => l[0]?) hd
      simp only [List.getElem?_drop, Nat.add_zero, List.getElem?_cons_zero] at this
      exact this
    have hd' : all.drop (i + 1) = xs := by
      rw [← List.tail_drop, hd]
      rfl
    obtain ⟨Γ1, Γ2, st2, h1, h2, h3⟩ := step i x Γ st hx h
    obtain ⟨Γ', st', h4, h5⟩ := forL_from e I all step xs (i + 1) Γ2 st2 hd' h3
    refine ⟨Γ', st', ?_, by rw [List.length_cons, Nat.add_comm xs.length 1, ← Nat.add_assoc]; exact h5⟩
    rw [List.map_cons]
    unfold forL
    rw [h1]
    show (match body Γ1 st with | .nx Γ2 st2 => forL bind body (xs.map e) Γ2 st2 | .cnt Γ2 st2 => forL bind body (xs.map e) Γ2 st2 | .brk Γ2 st2 => .nx Γ2 st2 | o => o) = _
    rcases h2 with h2 | h2
    · rw [h2]; exact h4
    · rw [h2]; exact h4
theorem forL_idx (e : α → D) (I : Nat → Env → Sto → Prop) (xs : List α) {Γ : Env} {st : Sto} (h : I 0 Γ st) (step : ∀ (i : Nat) (x : α) Γ st, xs[i]? = some x → I i Γ st → ∃ Γ1 Γ2 st2, bind (e x) Γ = some Γ1 ∧ (body Γ1 st = .nx Γ2 st2 ∨ body Γ1 st = .cnt Γ2 st2) ∧ I (i + 1) Γ2 st2) :
    ∃ Γ' st', forL bind body (xs.map e) Γ st = .nx Γ' st' ∧ I xs.length Γ' st' := by
  obtain ⟨Γ', st', h1, h2⟩ := forL_from e I xs step xs 0 Γ st rfl h
  exact ⟨Γ', st', h1, by rw [Nat.zero_add] at h2; exact h2⟩
/-- over a range -/
theorem forL_rng (e : Nat → D) (I : Nat → Env → Sto → Prop) (m : Nat) {Γ : Env} {st : Sto} (h : I 0 Γ st) (step : ∀ (k : Nat) Γ st, k < m → I k Γ st → ∃ Γ1 Γ2 st2, bind (e k) Γ = some Γ1 ∧ (body Γ1 st = .nx Γ2 st2 ∨ body Γ1 st = .cnt Γ2 st2) ∧ I (k + 1) Γ2 st2) :
    ∃ Γ' st', forL bind body ((List.range m).map e) Γ st = .nx Γ' st' ∧ I m Γ' st' := by
  obtain ⟨Γ', st', h1, h2⟩ := forL_idx (bind := bind) (body := body) e I (List.range m) h fun i x Γ st hx hi => by
    have hl := (List.getElem?_eq_some_iff.mp hx).1
    rw [List.length_range] at hl
    rw [List.getElem?_range hl] at hx
    cases hx
    exact step i Γ st hl hi
  exact ⟨Γ', st', h1, by rw [List.length_range] at h2; exact h2⟩
/-- a search: the first that is it leaves -/
theorem forL_find (e : α → D) (t : α → Bool) (o : α → O) (E : Env → Prop) (S : Sto) : ∀ (xs : List α) (Γ : Env), E Γ → (∀ x ∈ xs, ∀ Γ, E Γ → ∃ Γ1, bind (e x) Γ = some Γ1 ∧ if t x = true then body Γ1 S = o x ∧ (∃ d s, o x = .ret d s) else ∃ Γ2, (body Γ1 S = .nx Γ2 S ∨ body Γ1 S = .cnt Γ2 S) ∧ E Γ2) →
    match xs.find? t with
      | some x => forL bind body (xs.map e) Γ S = o x
      | none => ∃ Γ', forL bind body (xs.map e) Γ S = .nx Γ' S ∧ E Γ'
  | [], Γ, h, _ => ⟨Γ, rfl, h⟩
  | x :: xs, Γ, h, step => by
    obtain ⟨Γ1, h1, h2⟩ := step x (by simp) Γ h
    cases ht : t x with
    | true =>
      rw [ht] at h2
      obtain ⟨h2, d, s, h3⟩ : body Γ1 S = o x ∧ (∃ d s, o x = .ret d s) := h2
      rw [List.find?_cons_of_pos ht]
      show forL bind body ((x :: xs).map e) Γ S = o x
      rw [List.map_cons]
      unfold forL
      rw [h1]
      show (match body Γ1 S with | .nx Γ2 st2 => forL bind body (xs.map e) Γ2 st2 | .cnt Γ2 st2 => forL bind body (xs.map e) Γ2 st2 | .brk Γ2 st2 => .nx Γ2 st2 | o => o) = _
      rw [h2, h3]
    | false =>
      rw [ht] at h2
      obtain ⟨Γ2, h2, h3⟩ : ∃ Γ2, (body Γ1 S = .nx Γ2 S ∨ body Γ1 S = .cnt Γ2 S) ∧ E Γ2 := h2
      have ih := forL_find e t o E S xs Γ2 h3 fun y hy => step y (by simp [hy])
      have e1 : forL bind body ((x :: xs).map e) Γ S = forL bind body (xs.map e) Γ2 S := by
        rw [List.map_cons]
        conv => lhs; unfold forL
        rw [h1]
        show (match body Γ1 S with | .nx Γ2 st2 => forL bind body (xs.map e) Γ2 st2 | .cnt Γ2 st2 => forL bind body (xs.map e) Γ2 st2 | .brk Γ2 st2 => .nx Γ2 st2 | o => o) = _
        rcases h2 with h2 | h2 <;> rw [h2]
      rw [List.find?_cons_of_neg (by simp [ht]), e1]
      exact ih
/-- while, by a measure -/
theorem whileL_run {c : Env → Sto → R Bool} (E : σ → Env → Prop) (S : σ → Sto) (t : σ → Bool) (f : σ → σ) (μ : σ → Nat) (stepT : ∀ s Γ, E s Γ → t s = true → c Γ (S s) = .ok true (S s) ∧ ∃ Γ2, (body Γ (S s) = .nx Γ2 (S (f s)) ∨ body Γ (S s) = .cnt Γ2 (S (f s))) ∧ E (f s) Γ2 ∧ μ (f s) < μ s) (stepF : ∀ s Γ, E s Γ → t s = false → c Γ (S s) = .ok false (S s)) :
    ∀ (n : Nat) (s : σ) (Γ : Env), μ s < n → E s Γ → ∃ Γ' s' k, whileL c body n Γ (S s) = .nx Γ' (S s') ∧ E s' Γ' ∧ t s' = false ∧ s' = Nat.repeat f k s ∧ ∀ j, j < k → t (Nat.repeat f j s) = true
  | 0, s, Γ, h, _ => absurd h (Nat.not_lt_zero _)
  | n + 1, s, Γ, h, hE => by
    cases ht : t s with
    | false =>
      refine ⟨Γ, s, 0, ?_, hE, ht, rfl, fun j hj => absurd hj (Nat.not_lt_zero _)⟩
      unfold whileL
      rw [stepF s Γ hE ht]
      rfl
    | true =>
      obtain ⟨h1, Γ2, h2, h3, h4⟩ := stepT s Γ hE ht
      obtain ⟨Γ', s', k, i1, i2, i3, i4, i5⟩ := whileL_run E S t f μ stepT stepF n (f s) Γ2 (by omega) h3
      have rep : ∀ j, Nat.repeat f j (f s) = Nat.repeat f (j + 1) s := fun j => by
        induction j with
        | zero => rfl
        | succ j ih => show f (Nat.repeat f j (f s)) = f (Nat.repeat f (j + 1) s); rw [ih]
      refine ⟨Γ', s', k + 1, ?_, i2, i3, by rw [i4, rep], fun j hj => ?_⟩
      · unfold whileL
        rw [h1]
        show (match body Γ (S s) with | .nx Γ2 st2 => whileL c body n Γ2 st2 | .cnt Γ2 st2 => whileL c body n Γ2 st2 | .brk Γ2 st2 => .nx Γ2 st2 | o => o) = _
        rcases h2 with h2 | h2
        · rw [h2]; exact i1
        · rw [h2]; exact i1
      · cases j with
        | zero => exact ht
        | succ j =>
          rw [← rep]
          exact i5 j (by omega)
end
/-! ### a def's answer -/
section
variable {P : Prg} {fns : List Fn} {F n k : Nat} {f : Fn} {args : List D} {st st' : Sto}
theorem callF_of (h : fns[k]? = some f) (hl : args.length = f.np) : callF P fns F n k args st = (execs P (runsF P fns F n) F f.body (startE f.nl args) st).toR := by
  unfold callF
  rw [h]
  show (if args.length = f.np then _ else _) = _
  rw [if_pos hl]
theorem Cl.ret {d : D} {Γ : Env} (h : fns[k]? = some f) (hl : args.length = f.np) (hs : startE f.nl args = Γ) (hx : Xs P (runsF P fns F n) F Γ st f.body (.ret d st')) : Cl (callF P fns F n) k args st d st' := ⟨by
  subst hs
  rw [callF_of h hl, hx.h]
  rfl⟩
theorem Cl.nx {Γ Γ' : Env} (h : fns[k]? = some f) (hl : args.length = f.np) (hs : startE f.nl args = Γ) (hx : Xs P (runsF P fns F n) F Γ st f.body (.nx Γ' st')) : Cl (callF P fns F n) k args st .non st' := ⟨by
  subst hs
  rw [callF_of h hl, hx.h]
  rfl⟩
theorem ClX.of {c : Nat} {Γ Γ' : Env} (h : fns[k]? = some f) (hl : args.length = f.np) (hs : startE f.nl args = Γ) (hx : Xs P (runsF P fns F n) F Γ st f.body (.er c Γ' st')) : ClX (callF P fns F n) k args st c st' := ⟨by
  subst hs
  rw [callF_of h hl, hx.h]
  rfl⟩
end
end Eng
/-! Eng.X: shares, the law's own sums, dice. -/
namespace Eng
open PySem (Str)

local macro_rules | `(tactic| walk_at "ev") => `(tactic| repeat' (first
  | exact Ev.int | exact Ev.var rfl | exact Ev.own rfl | exact Ev.bl | exact Ev.non | exact Ev.str | exact Ev.lamv | exact Ev.glob rfl
  | refine' Ev.add ?_ ?_ | refine' Ev.sub ?_ ?_ | refine' Ev.mul ?_ ?_ ?_ | refine' Ev.fdiv ?_ ?_ ?_ | refine' Ev.mod ?_ ?_ ?_ | refine' Ev.neg ?_
  | refine' Ev.ix ?_ ?_ ?_ | refine' Ev.lt ?_ ?_ | refine' Ev.le ?_ ?_ | refine' Ev.gt ?_ ?_ | refine' Ev.ge ?_ ?_ | refine' Ev.eq ?_ ?_ ?_ | refine' Ev.ne ?_ ?_ ?_
  | refine' Ev.not ?_ ?_ | refine' Ev.b1 ?_ ?_ | refine' Ev.b2 ?_ ?_ ?_ | refine' Ev.tup ?_ ?_ | refine' Ev.lst ?_ ?_ | exact Evs.nil | refine' Evs.cons ?_ ?_
  | refine' EvT.of ?_ ?_ | refine' Ev.and ?_ | refine' Ev.or ?_ | refine' EvA.one ?_ | refine' EvO.one ?_ | refine' EvA.cons ?_ (fun _ => ?_) | refine' EvO.cons ?_ (fun _ => ?_)
  | refine' Ev.call (runsF_succ _ _ _ _) ?_ ?_ | exact EvF.nil | refine' EvF.val ?_ ?_ | refine' EvF.own ?_ ?_
  | rfl))

/-- a share -/
def sh (q : Rat) : D := .tup [.int q.num, .int (q.den : Int)]
/-- sizes -/
def Iz (b : Nat) (i : Int) : Prop := i.natAbs < 2 ^ b
def Sz (b : Nat) (q : Rat) : Prop := q.num.natAbs < 2 ^ b ∧ q.den < 2 ^ b
theorem Iz.mono {b c : Nat} {i : Int} (h : Iz b i) (l : b ≤ c) : Iz c i := Nat.lt_of_lt_of_le h (Nat.pow_le_pow_right (by decide) l)
theorem Sz.mono {b c : Nat} {q : Rat} (h : Sz b q) (l : b ≤ c) : Sz c q := ⟨Nat.lt_of_lt_of_le h.1 (Nat.pow_le_pow_right (by decide) l), Nat.lt_of_lt_of_le h.2 (Nat.pow_le_pow_right (by decide) l)⟩
theorem Iz.mul {b c : Nat} {i j : Int} (h : Iz b i) (k : Iz c j) : Iz (b + c) (i * j) := by
  unfold Iz at *
  rw [Int.natAbs_mul, Nat.pow_add]
  exact Nat.mul_lt_mul'' h k
theorem Iz.neg {b : Nat} {i : Int} (h : Iz b i) : Iz b (-i) := by
  unfold Iz at *
  rw [Int.natAbs_neg]
  exact h
theorem Iz.add {b c : Nat} {i j : Int} (h : Iz b i) (k : Iz c j) : Iz (max b c + 1) (i + j) := by
  have h1 := h.mono (Nat.le_max_left b c)
  have h2 := k.mono (Nat.le_max_right b c)
  unfold Iz at *
  rw [Nat.pow_succ]
  have := Int.natAbs_add_le i j
  omega
theorem Iz.sub {b c : Nat} {i j : Int} (h : Iz b i) (k : Iz c j) : Iz (max b c + 1) (i - j) := by
  rw [Int.sub_eq_add_neg]
  exact h.add k.neg
theorem Sz.num {b : Nat} {q : Rat} (h : Sz b q) : Iz b q.num := h.1
theorem Sz.den {b : Nat} {q : Rat} (h : Sz b q) : Iz b (q.den : Int) := by
  show ((q.den : Int)).natAbs < 2 ^ b
  rw [Int.natAbs_natCast]
  exact h.2
theorem log_le {n b : Nat} (h : n < 2 ^ b) : n.log2 ≤ b := by
  by_cases hn : n = 0
  · rw [hn]
    exact Nat.zero_le _
  · exact Nat.le_of_lt ((Nat.log2_lt hn).mpr h)
theorem mulOk_of {b c : Nat} {i j : Int} (h : Iz b i) (k : Iz c j) (l : b + c < 1000000 := by decide) : mulOk i j = true := by
  unfold mulOk
  have h1 := log_le h
  have h2 := log_le k
  simp only [Bool.or_eq_true, decide_eq_true_eq]
  omega
theorem divOk_of {b : Nat} {j : Int} (h : Iz b j) (h0 : j ≠ 0) (l : b < 9000 := by decide) : divOk j = true := by
  unfold divOk
  have h1 := log_le h
  simp only [Bool.and_eq_true, decide_eq_true_eq]
  exact ⟨h0, by omega⟩
/-- a share's size, by any way to write it -/
theorem Sz.divInt {b : Nat} {i j : Int} (hi : Iz b i) (hj : Iz b j) (h0 : j ≠ 0) : Sz b (Rat.divInt i j) := by
  have hg : 0 < j.gcd i := Int.gcd_pos_of_ne_zero_left _ h0
  refine ⟨?_, ?_⟩
  · rw [Rat.num_divInt]
    have e : (j.sign * i).natAbs ≤ i.natAbs := by
      rw [Int.natAbs_mul]
      have : j.sign.natAbs ≤ 1 := by
        rcases Int.lt_trichotomy j 0 with h | h | h
        · rw [Int.sign_eq_neg_one_of_neg h]; decide
        · exact absurd h h0
        · rw [Int.sign_eq_one_of_pos h]; decide
      calc j.sign.natAbs * i.natAbs ≤ 1 * i.natAbs := Nat.mul_le_mul_right _ this
        _ = i.natAbs := Nat.one_mul _
    have e2 : (j.sign * i / (j.gcd i : Int)).natAbs ≤ (j.sign * i).natAbs := by
      exact Int.natAbs_ediv_le_natAbs _ _
    exact Nat.lt_of_le_of_lt (Nat.le_trans e2 e) hi
  · rw [Rat.den_divInt, if_neg h0]
    exact Nat.lt_of_le_of_lt (Nat.div_le_self _ _) hj
theorem rat_self (q : Rat) : q = Rat.divInt q.num (q.den : Int) := (Rat.num_divInt_den q).symm
theorem den_ne (q : Rat) : (q.den : Int) ≠ 0 := Int.natCast_ne_zero.mpr q.den_nz
theorem add_di (p q : Rat) : p + q = Rat.divInt (p.num * q.den + q.num * p.den) (p.den * q.den) := by
  conv => lhs; rw [rat_self p, rat_self q]
  rw [Rat.divInt_add_divInt _ _ (den_ne p) (den_ne q)]
theorem sub_di (p q : Rat) : p - q = Rat.divInt (p.num * q.den - q.num * p.den) (p.den * q.den) := by
  conv => lhs; rw [rat_self p, rat_self q]
  rw [Rat.divInt_sub_divInt _ _ (den_ne p) (den_ne q)]
theorem mul_di (p q : Rat) : p * q = Rat.divInt (p.num * q.num) (p.den * q.den) := by
  conv => lhs; rw [rat_self p, rat_self q]
  rw [Rat.divInt_mul_divInt]
theorem div_di (p q : Rat) : p / q = Rat.divInt (p.num * q.den) (p.den * q.num) := by
  conv => lhs; rw [rat_self p, rat_self q]
  rw [Rat.div_def, Rat.inv_divInt, Rat.divInt_mul_divInt]
theorem neg_di (p : Rat) : -p = Rat.divInt (-p.num) p.den := by
  conv => lhs; rw [rat_self p]
  rw [Rat.neg_divInt]
theorem num_neg' (p : Rat) : (-p).num = -p.num := rfl
theorem den_neg' (p : Rat) : (-p).den = p.den := rfl
section
variable {b c : Nat} {p q : Rat}
theorem Iz.natMul {i j : Nat} (h : Iz b (i : Int)) (k : Iz c (j : Int)) : Iz (b + c) ((i : Int) * (j : Int)) := h.mul k
theorem Sz.add (h : Sz b p) (k : Sz c q) : Sz (b + c + 1) (p + q) := by
  rw [add_di]
  refine Sz.divInt ?_ ((h.den.mul k.den).mono (by omega)) (Int.mul_ne_zero (den_ne p) (den_ne q))
  exact ((h.num.mul k.den).add (k.num.mul h.den)).mono (by omega)
theorem Sz.sub (h : Sz b p) (k : Sz c q) : Sz (b + c + 1) (p - q) := by
  rw [sub_di]
  refine Sz.divInt ?_ ((h.den.mul k.den).mono (by omega)) (Int.mul_ne_zero (den_ne p) (den_ne q))
  exact ((h.num.mul k.den).sub (k.num.mul h.den)).mono (by omega)
theorem Sz.mul (h : Sz b p) (k : Sz c q) : Sz (b + c) (p * q) := by
  rw [mul_di]
  exact Sz.divInt (h.num.mul k.num) (h.den.mul k.den) (Int.mul_ne_zero (den_ne p) (den_ne q))
theorem Sz.neg (h : Sz b p) : Sz b (-p) := ⟨by rw [num_neg', Int.natAbs_neg]; exact h.1, h.2⟩
theorem Sz.div (h : Sz b p) (k : Sz c q) : Sz (b + c) (p / q) := by
  by_cases hq : q = 0
  · subst hq
    rw [Rat.div_def, Rat.inv_zero, Rat.mul_zero]
    refine ⟨?_, ?_⟩
    · show (0 : Nat) < _
      exact Nat.two_pow_pos _
    · have := k.2
      have z : (0 : Rat).den = 1 := rfl
      rw [z] at this ⊢
      have h3 : 2 ^ c ≤ 2 ^ (b + c) := Nat.pow_le_pow_right (by decide) (by omega)
      omega
  · rw [div_di]
    have hn : q.num ≠ 0 := fun e => hq (Rat.num_eq_zero.mp e)
    exact Sz.divInt (h.num.mul k.den) (h.den.mul k.num) (Int.mul_ne_zero (den_ne p) hn)
theorem Sz.inv (h : Sz b p) (h1 : 0 < b) : Sz b p⁻¹ := by
  by_cases hq : p = 0
  · subst hq
    rw [Rat.inv_zero]
    exact h
  · rw [Rat.inv_def]
    exact Sz.divInt h.den h.num fun e => hq (Rat.num_eq_zero.mp e)
theorem Sz.int {i : Int} (h : Iz b i) (h1 : 0 < b) : Sz b (i : Rat) := by
  refine ⟨by rw [Rat.num_intCast]; exact h, ?_⟩
  rw [Rat.den_intCast]
  exact Nat.one_lt_two_pow (by omega)
end

/-! ### Euclid -/
def eSteps (l r : Nat) : Nat := if h : r = 0 then 0 else 1 + eSteps r (l % r)
termination_by r
decreasing_by exact Nat.mod_lt _ (Nat.pos_of_ne_zero h)
theorem eSteps_zero (l : Nat) : eSteps l 0 = 0 := by
  unfold eSteps
  rw [dif_pos rfl]
theorem eSteps_pos {l r : Nat} (h : r ≠ 0) : eSteps l r = 1 + eSteps r (l % r) := by
  conv => lhs; unfold eSteps
  rw [dif_neg h]
def fb : Nat → Nat
  | 0 => 1
  | 1 => 2
  | n + 2 => fb n + fb (n + 1)
theorem eSteps_fb : ∀ (k l r : Nat), r < fb k → eSteps l r ≤ k
  | 0, l, r, h => by
    have : r = 0 := by
      unfold fb at h
      omega
    rw [this, eSteps_zero]
    exact Nat.le_refl _
  | 1, l, r, h => by
    unfold fb at h
    by_cases hr : r = 0
    · rw [hr, eSteps_zero]
      omega
    · have : r = 1 := by omega
      rw [this, eSteps_pos (by decide), Nat.mod_one, eSteps_zero]
      exact Nat.le_refl _
  | k + 2, l, r, h => by
    have h : r < fb k + fb (k + 1) := h
    by_cases hr : r = 0
    · rw [hr, eSteps_zero]
      omega
    · rw [eSteps_pos hr]
      have h1 : l % r < r := Nat.mod_lt _ (Nat.pos_of_ne_zero hr)
      by_cases h2 : l % r < fb (k + 1)
      · have := eSteps_fb (k + 1) r (l % r) h2
        omega
      · have h3 : l % r ≠ 0 := by
          intro e
          rw [e] at h2
          have : 0 < fb (k + 1) := by
            have pos : ∀ n, 0 < fb n := by
              intro n
              induction n using Nat.strongRecOn with
              | _ n ih =>
                match n with
                | 0 => decide
                | 1 => decide
                | n + 2 => exact Nat.lt_of_lt_of_le (ih n (by omega)) (Nat.le_add_right _ _)
            exact pos _
          omega
        rw [eSteps_pos h3]
        have h4 : r % (l % r) + l % r ≤ r := by
          have e := Nat.div_add_mod r (l % r)
          have : 1 ≤ r / (l % r) := (Nat.one_le_div_iff (Nat.pos_of_ne_zero h3)).mpr (Nat.le_of_lt h1)
          have : l % r * 1 ≤ l % r * (r / (l % r)) := Nat.mul_le_mul_left _ this
          omega
        have := eSteps_fb k (l % r) (r % (l % r)) (by omega)
        omega
theorem fb_two : ∀ (b : Nat), 2 ^ b ≤ fb (2 * b)
  | 0 => by decide
  | b + 1 => by
    show 2 ^ b * 2 ≤ fb (2 * b) + fb (2 * b + 1)
    have h := fb_two b
    have mono : ∀ n, fb n ≤ fb (n + 1) := by
      intro n
      induction n using Nat.strongRecOn with
      | _ n ih =>
        match n with
        | 0 => decide
        | 1 => decide
        | n + 2 => exact Nat.add_le_add (ih n (by omega)) (ih (n + 1) (by omega))
    have := mono (2 * b)
    omega
theorem eSteps_two {b l r : Nat} (h : r < 2 ^ b) : eSteps l r ≤ 2 * b := eSteps_fb (2 * b) l r (Nat.lt_of_lt_of_le h (fb_two b))

section
variable {P : Prg} {fns : List Fn} {F n k kp : Nat} {st : Sto}
/-! ### plain -/
def plainB (c : Nat) : ISs := (.cons (.iff (.cmp .eq (.var 1) (.int 0)) (.cons (.rais c) .nil) .nil) (.cons (.par [(2, false), (3, false)] (.cons (.b1 .abs (.var 0)) (.cons (.b1 .abs (.var 1)) .nil))) (.cons (.whil (.cmp .ne (.var 3) (.int 0)) (.cons (.par [(2, false), (3, false)] (.cons (.var 3) (.cons (.bop .mod (.var 2) (.var 3)) .nil))) .nil)) (.cons (.asg (.name 4) (.ite (.cmp .gt (.var 1) (.int 0)) (.int 1) (.bop .sub (.int 0) (.int 1)))) (.cons (.ret (.ite (.cmp .gt (.var 2) (.int 0)) (.tup (.cons (.bop .fdiv (.bop .mul (.var 4) (.var 0)) (.var 2)) (.cons (.bop .fdiv (.b1 .abs (.var 1)) (.var 2)) .nil))) (.tup (.cons (.int 0) (.cons (.int 1) .nil))))) .nil)))))
theorem abs_D (a : Int) : (if a < 0 then -a else a) = (a.natAbs : Int) := by omega
theorem eqb_int (i j : Int) : D.eqb (.int i) (.int j) = decide (i = j) := by
  unfold D.eqb
  rfl
theorem plain_X {c : Nat} {a : Int} (h : fns[k]? = some ⟨2, 5, plainB c⟩) : ClX (callF P fns F n) k [.int a, .int 0] st c st := by
  refine ClX.of h rfl rfl ?_ (Γ' := [.val (.int a), .val (.int 0), .no, .no, .no])
  exact Xs.leave (Xe.ifT (EvT.is (EvT.bl (Ev.eqI (Ev.var rfl) Ev.int)) rfl) (Xs.leave Xe.rais rfl)) rfl
theorem plain_S {c : Nat} {a b : Int} (h : fns[k]? = some ⟨2, 5, plainB c⟩) (h0 : b ≠ 0) (za : Iz 8000 a) (zb : Iz 8000 b) (hF : 16000 < F) : Cl (callF P fns F n) k [.int a, .int b] st (sh (Rat.divInt a b)) st := by
  have e0 : D.eqb (.int b) (.int 0) = false := by rw [eqb_int]; exact decide_eq_false h0
  have hg : 0 < b.gcd a := Int.gcd_pos_of_ne_zero_left _ h0
  obtain ⟨Γ', ⟨l, r⟩, kk, w1, w2, w3, _⟩ := whileL_run (σ := Nat × Nat) (c := fun Γ st => tst (ev P (runsF P fns F n) (.cmp .ne (.var 3) (.int 0)) Γ st)) (body := execs P (runsF P fns F n) F (.cons (.par [(2, false), (3, false)] (.cons (.var 3) (.cons (.bop .mod (.var 2) (.var 3)) .nil))) .nil))
    (fun s Γ => Γ = [.val (.int a), .val (.int b), .val (.int (s.1 : Int)), .val (.int (s.2 : Int)), .no] ∧ Nat.gcd s.1 s.2 = b.gcd a) (fun _ => st) (fun s => s.2 != 0) (fun s => (s.2, s.1 % s.2)) (fun s => eSteps s.1 s.2)
    (by
      rintro ⟨l, r⟩ Γ ⟨rfl, hg⟩ ht
      have hr : r ≠ 0 := by simpa using ht
      refine ⟨?_, _, .inl (Xs.cons (Xe.par (EvF.val (Ev.var rfl) (EvF.val (Ev.mod (Ev.var rfl) (Ev.var rfl) (Int.natCast_ne_zero.mpr hr)) EvF.nil)) rfl) Xs.nil).h, ⟨?_, ?_⟩, ?_⟩
      · have e : D.eqb (.int (r : Int)) (.int 0) = false := by rw [eqb_int]; exact decide_eq_false (Int.natCast_ne_zero.mpr hr)
        have q : EvT P (runsF P fns F n) [.val (.int a), .val (.int b), .val (.int (l : Int)), .val (.int (r : Int)), .no] st (.cmp .ne (.var 3) (.int 0)) _ st := EvT.bl (Ev.ne (Ev.var rfl) Ev.int rfl)
        rw [e] at q
        exact q.h
      · show [Sl.val (D.int a), .val (.int b), .val (.int (r : Int)), .val (.int ((l : Int).fmod (r : Int))), .no] = _
        rw [Int.fmod_eq_emod_of_nonneg _ (Int.natCast_nonneg r)]
        rfl
      · show Nat.gcd r (l % r) = _
        rw [← hg, Nat.gcd_comm l r, Nat.gcd_rec r l, Nat.gcd_comm]
      · show eSteps r (l % r) < eSteps l r
        rw [eSteps_pos hr]
        omega)
    (by
      rintro ⟨l, r⟩ Γ ⟨rfl, hg⟩ ht
      have hr : r = 0 := by simpa using ht
      subst hr
      exact (EvT.bl (Ev.ne (Ev.var rfl) Ev.int rfl) : EvT P (runsF P fns F n) [.val (.int a), .val (.int b), .val (.int (l : Int)), .val (.int ((0 : Nat) : Int)), .no] st (.cmp .ne (.var 3) (.int 0)) _ st).h)
    F (a.natAbs, b.natAbs) [.val (.int a), .val (.int b), .val (.int (a.natAbs : Int)), .val (.int (b.natAbs : Int)), .no]
    (Nat.lt_of_le_of_lt (eSteps_two zb) hF) ⟨rfl, by rw [Nat.gcd_comm]; rfl⟩
  obtain ⟨rfl, w2⟩ := w2
  have hr : r = 0 := by simpa using w3
  subst hr
  have hl : l = b.gcd a := by
    have e : Nat.gcd l 0 = b.gcd a := w2
    rwa [Nat.gcd_zero_right] at e
  have hl0 : (l : Int) ≠ 0 := Int.natCast_ne_zero.mpr (by omega)
  have zl : Iz 8000 (l : Int) := by
    show ((l : Int)).natAbs < _
    rw [Int.natAbs_natCast, hl]
    refine Nat.lt_of_le_of_lt (Nat.le_of_dvd (Nat.pos_of_ne_zero fun e => h0 (Int.natAbs_eq_zero.mp e)) ?_) zb
    exact Nat.gcd_dvd_left _ _
  let sg : Int := if 0 < b then 1 else 0 - 1
  have hsg : sg = b.sign := by
    show (if 0 < b then (1 : Int) else 0 - 1) = b.sign
    by_cases hb : 0 < b
    · rw [if_pos hb, Int.sign_eq_one_of_pos hb]
    · rw [if_neg hb, Int.sign_eq_neg_one_of_neg (by omega)]
      rfl
  have zs : Iz 1 sg := by
    show (if 0 < b then (1 : Int) else 0 - 1).natAbs < 2 ^ 1
    by_cases hb : 0 < b
    · rw [if_pos hb]; decide
    · rw [if_neg hb]; decide
  have fin : sh (Rat.divInt a b) = .tup [.int ((sg * a).fdiv (l : Int)), .int ((if b < 0 then -b else b).fdiv (l : Int))] := by
    unfold sh
    rw [Rat.num_divInt, Rat.den_divInt, if_neg h0, Int.fdiv_eq_ediv_of_nonneg _ (Int.natCast_nonneg l), Int.fdiv_eq_ediv_of_nonneg _ (Int.natCast_nonneg l), hsg, hl, abs_D]
    rfl
  rw [fin]
  refine Cl.ret h rfl rfl ?_
  refine Xs.cons (Xe.ifN (a := .cons (.rais c) .nil) (e0 ▸ EvT.bl (Ev.eq (Ev.var rfl) Ev.int rfl))) ?_
  refine Xs.cons (Xe.par (EvF.val (Ev.b1 (Ev.var rfl) rfl) (EvF.val (Ev.b1 (Ev.var rfl) rfl) EvF.nil)) rfl) ?_
  have w1 := w1
  refine Xs.cons (Xe.whil (o := .nx [.val (.int a), .val (.int b), .val (.int (l : Int)), .val (.int ((0 : Nat) : Int)), .no] st) ?_) ?_
  · show whileL _ _ F [.val (.int a), .val (.int b), .val (.int (if a < 0 then -a else a)), .val (.int (if b < 0 then -b else b)), .no] st = _
    rw [abs_D, abs_D]
    exact w1
  refine Xs.cons (Xe.asg (st1 := st) (d := .int sg) ?_ rfl rfl) ?_
  · have q : Ev P (runsF P fns F n) [.val (.int a), .val (.int b), .val (.int (l : Int)), .val (.int ((0 : Nat) : Int)), .no] st (.ite (.cmp .gt (.var 1) (.int 0)) (.int 1) (.bop .sub (.int 0) (.int 1))) (.int (if decide (0 < b) = true then 1 else 0 - 1)) st :=
      Ev.iteI (EvT.bl (Ev.gt (Ev.var rfl) Ev.int)) (fun _ => Ev.int) (fun _ => Ev.sub Ev.int Ev.int)
    simp only [decide_eq_true_eq] at q
    exact q
  refine Xs.leave (Xe.ret (Ev.iteT (st1 := st) ?_ (Ev.tup (Evs.cons (Ev.fdiv (Ev.mul (Ev.var rfl) (Ev.var rfl) ?_) (Ev.var rfl) ?_) (Evs.cons (Ev.fdiv (Ev.b1 (Ev.var rfl) rfl) (Ev.var rfl) ?_) Evs.nil)) rfl))) rfl
  · have q : EvT P (runsF P fns F n) [.val (.int a), .val (.int b), .val (.int (l : Int)), .val (.int ((0 : Nat) : Int)), .val (.int sg)] st (.cmp .gt (.var 2) (.int 0)) (decide ((0 : Int) < (l : Int))) st := EvT.bl (Ev.gt (Ev.var rfl) Ev.int)
    rw [decide_eq_true (by omega : (0 : Int) < (l : Int))] at q
    exact q
  · exact mulOk_of zs za
  · exact divOk_of zl hl0
  · exact divOk_of zl hl0
end

section
variable {P : Prg} {fns : List Fn} {F n k kp c : Nat} {st : Sto} {p q : Rat}
/-! ### the program's sums -/
def addedB (kp : Nat) : ISs := (.cons (.ret (.call kp (.cons (.bop .add (.bop .mul (.ix (.var 0) (.int 0)) (.ix (.var 1) (.int 1))) (.bop .mul (.ix (.var 1) (.int 0)) (.ix (.var 0) (.int 1)))) (.cons (.bop .mul (.ix (.var 0) (.int 1)) (.ix (.var 1) (.int 1))) .nil)))) .nil)
def lessB (kp : Nat) : ISs := (.cons (.ret (.call kp (.cons (.bop .sub (.bop .mul (.ix (.var 0) (.int 0)) (.ix (.var 1) (.int 1))) (.bop .mul (.ix (.var 1) (.int 0)) (.ix (.var 0) (.int 1)))) (.cons (.bop .mul (.ix (.var 0) (.int 1)) (.ix (.var 1) (.int 1))) .nil)))) .nil)
def timesB (kp : Nat) : ISs := (.cons (.ret (.call kp (.cons (.bop .mul (.ix (.var 0) (.int 0)) (.ix (.var 1) (.int 0))) (.cons (.bop .mul (.ix (.var 0) (.int 1)) (.ix (.var 1) (.int 1))) .nil)))) .nil)
def partedB (kp c : Nat) : ISs := (.cons (.iff (.cmp .eq (.ix (.var 1) (.int 0)) (.int 0)) (.cons (.rais c) .nil) .nil) (.cons (.ret (.call kp (.cons (.bop .mul (.ix (.var 0) (.int 0)) (.ix (.var 1) (.int 1))) (.cons (.bop .mul (.ix (.var 0) (.int 1)) (.ix (.var 1) (.int 0))) .nil)))) .nil))
def isLessB : ISs := (.cons (.ret (.cmp .lt (.bop .mul (.ix (.var 0) (.int 0)) (.ix (.var 1) (.int 1))) (.bop .mul (.ix (.var 1) (.int 0)) (.ix (.var 0) (.int 1))))) .nil)
theorem added_S (h : fns[k]? = some ⟨2, 2, addedB kp⟩) (hp : fns[kp]? = some ⟨2, 5, plainB c⟩) (hF : 16000 < F) (zp : Sz 2000 p) (zq : Sz 2000 q) : Cl (callF P fns F (n + 1)) k [sh p, sh q] st (sh (p + q)) st := by
  refine Cl.ret h rfl rfl ?_
  refine Xs.leave (Xe.ret (Ev.call (st1 := st) (l := [.int (p.num * q.den + q.num * p.den), .int ((p.den : Int) * (q.den : Int))]) (runsF_succ _ _ _ _) ?_ ?_)) rfl
  · walk_at "ev"
    · exact mulOk_of zp.num zq.den
    · exact mulOk_of zq.num zp.den
    · exact mulOk_of zp.den zq.den
  · rw [add_di]
    exact plain_S hp (Int.mul_ne_zero (den_ne p) (den_ne q)) (((zp.num.mul zq.den).add (zq.num.mul zp.den)).mono (by decide)) ((zp.den.mul zq.den).mono (by decide)) hF
theorem less_S (h : fns[k]? = some ⟨2, 2, lessB kp⟩) (hp : fns[kp]? = some ⟨2, 5, plainB c⟩) (hF : 16000 < F) (zp : Sz 2000 p) (zq : Sz 2000 q) : Cl (callF P fns F (n + 1)) k [sh p, sh q] st (sh (p - q)) st := by
  refine Cl.ret h rfl rfl ?_
  refine Xs.leave (Xe.ret (Ev.call (st1 := st) (l := [.int (p.num * q.den - q.num * p.den), .int ((p.den : Int) * (q.den : Int))]) (runsF_succ _ _ _ _) ?_ ?_)) rfl
  · walk_at "ev"
    · exact mulOk_of zp.num zq.den
    · exact mulOk_of zq.num zp.den
    · exact mulOk_of zp.den zq.den
  · rw [sub_di]
    exact plain_S hp (Int.mul_ne_zero (den_ne p) (den_ne q)) (((zp.num.mul zq.den).sub (zq.num.mul zp.den)).mono (by decide)) ((zp.den.mul zq.den).mono (by decide)) hF
theorem times_S (h : fns[k]? = some ⟨2, 2, timesB kp⟩) (hp : fns[kp]? = some ⟨2, 5, plainB c⟩) (hF : 16000 < F) (zp : Sz 3000 p) (zq : Sz 3000 q) : Cl (callF P fns F (n + 1)) k [sh p, sh q] st (sh (p * q)) st := by
  refine Cl.ret h rfl rfl ?_
  refine Xs.leave (Xe.ret (Ev.call (st1 := st) (l := [.int (p.num * q.num), .int ((p.den : Int) * (q.den : Int))]) (runsF_succ _ _ _ _) ?_ ?_)) rfl
  · walk_at "ev"
    · exact mulOk_of zp.num zq.num
    · exact mulOk_of zp.den zq.den
  · rw [mul_di]
    exact plain_S hp (Int.mul_ne_zero (den_ne p) (den_ne q)) ((zp.num.mul zq.num).mono (by decide)) ((zp.den.mul zq.den).mono (by decide)) hF
theorem num_ne {q : Rat} (h : q ≠ 0) : q.num ≠ 0 := fun e => h (Rat.num_eq_zero.mp e)
theorem parted_S {c2 : Nat} (h : fns[k]? = some ⟨2, 2, partedB kp c2⟩) (hp : fns[kp]? = some ⟨2, 5, plainB c⟩) (hF : 16000 < F) (h0 : q ≠ 0) (zp : Sz 3000 p) (zq : Sz 3000 q) : Cl (callF P fns F (n + 1)) k [sh p, sh q] st (sh (p / q)) st := by
  refine Cl.ret h rfl rfl ?_
  have h1 := num_ne h0
  refine Xs.cons (Γ1 := [.val (sh p), .val (sh q)]) (st1 := st) (Xe.ifN (EvT.is (b := decide (q.num = 0)) (EvT.bl (Ev.eqI ?_ Ev.int)) (decide_eq_false h1))) ?_
  · walk_at "ev"
  refine Xs.leave (Xe.ret (Ev.call (st1 := st) (l := [.int (p.num * q.den), .int ((p.den : Int) * q.num)]) (runsF_succ _ _ _ _) ?_ ?_)) rfl
  · walk_at "ev"
    · exact mulOk_of zp.num zq.den
    · exact mulOk_of zp.den zq.num
  · rw [div_di]
    exact plain_S hp (Int.mul_ne_zero (den_ne p) h1) ((zp.num.mul zq.den).mono (by decide)) ((zp.den.mul zq.num).mono (by decide)) hF
theorem parted_X {c2 : Nat} (h : fns[k]? = some ⟨2, 2, partedB kp c2⟩) : ClX (callF P fns F n) k [sh p, sh 0] st c2 st := by
  refine ClX.of h rfl rfl ?_ (Γ' := [.val (sh p), .val (sh 0)])
  refine Xs.leave (Xe.ifT (st1 := st) (EvT.is (b := decide ((0 : Rat).num = 0)) (EvT.bl (Ev.eqI ?_ Ev.int)) rfl) (Xs.leave Xe.rais rfl)) rfl
  walk_at "ev"
theorem lt_num (p q : Rat) : decide (p.num * (q.den : Int) < q.num * (p.den : Int)) = decide (p < q) := by
  congr 1
  exact propext (Rat.lt_iff p q).symm
theorem isLess_S (h : fns[k]? = some ⟨2, 2, isLessB⟩) (zp : Sz 3000 p) (zq : Sz 3000 q) : Cl (callF P fns F n) k [sh p, sh q] st (.bl (decide (p < q))) st := by
  refine Cl.ret h rfl rfl ?_
  rw [← lt_num]
  refine Xs.leave (Xe.ret ?_) rfl
  walk_at "ev"
  · exact mulOk_of zp.num zq.den
  · exact mulOk_of zq.num zp.den
/-! ### the law's own sums -/
def gcdB (k : Nat) : ISs := (.cons (.ret (.ite (.cmp .eq (.var 1) (.int 0)) (.b1 .abs (.var 0)) (.call k (.cons (.var 1) (.cons (.bop .mod (.var 0) (.var 1)) .nil))))) .nil)
theorem gcd_nat (h : fns[k]? = some ⟨2, 2, gcdB k⟩) : ∀ (n l r : Nat), eSteps l r ≤ n → Cl (callF P fns F n) k [.int l, .int r] st (.int (Nat.gcd l r : Int)) st := by
  intro n
  induction n with
  | zero =>
    intro l r hs
    have hr : r = 0 := by
      by_cases h0 : r = 0
      · exact h0
      · rw [eSteps_pos h0] at hs
        omega
    subst hr
    refine Cl.ret h rfl rfl ?_
    refine Xs.leave (Xe.ret (Ev.iteT (st1 := st) (EvT.is (EvT.bl (Ev.eqI (Ev.var rfl) Ev.int)) rfl) (Ev.b1 (Ev.var rfl) ?_))) rfl
    rw [Nat.gcd_zero_right]
    show some (D.int (if (l : Int) < 0 then -(l : Int) else l)) = _
    rw [if_neg (by omega)]
  | succ n ih =>
    intro l r hs
    by_cases h0 : r = 0
    · subst h0
      refine Cl.ret h rfl rfl ?_
      refine Xs.leave (Xe.ret (Ev.iteT (st1 := st) (EvT.is (EvT.bl (Ev.eqI (Ev.var rfl) Ev.int)) rfl) (Ev.b1 (Ev.var rfl) ?_))) rfl
      rw [Nat.gcd_zero_right]
      show some (D.int (if (l : Int) < 0 then -(l : Int) else l)) = _
      rw [if_neg (by omega)]
    · have hr : (r : Int) ≠ 0 := Int.natCast_ne_zero.mpr h0
      have i := ih r (l % r) (by rw [eSteps_pos h0] at hs; omega)
      refine Cl.ret h rfl rfl ?_
      refine Xs.leave (Xe.ret (Ev.iteF (st1 := st) (EvT.is (b := decide ((r : Int) = 0)) (EvT.bl (Ev.eqI (Ev.var rfl) Ev.int)) (decide_eq_false hr)) (Ev.call (st1 := st) (l := [.int r, .int ((l % r : Nat) : Int)]) (runsF_succ _ _ _ _) ?_ ?_))) rfl
      · refine Evs.cons (Ev.var rfl) (Evs.cons (Ev.is (Ev.mod (Ev.var rfl) (Ev.var rfl) hr) ?_) Evs.nil)
        rw [Int.fmod_eq_emod_of_nonneg _ (Int.natCast_nonneg r)]
        rfl
      · rw [Nat.gcd_comm l r, Nat.gcd_rec r l, Nat.gcd_comm (l % r) r]
        exact i
/-- of any two, the second not below 0 -/
theorem gcd_S (h : fns[k]? = some ⟨2, 2, gcdB k⟩) {a : Int} {r : Nat} (hr : r < fb 200) : Cl (callF P fns F (n + 201)) k [.int a, .int r] st (.int ((r : Int).gcd a : Int)) st := by
  refine Cl.ret h rfl rfl ?_
  by_cases h0 : r = 0
  · subst h0
    refine Xs.leave (Xe.ret (Ev.iteT (st1 := st) (EvT.is (EvT.bl (Ev.eqI (Ev.var rfl) Ev.int)) rfl) (Ev.b1 (Ev.var rfl) ?_))) rfl
    show some (D.int (if a < 0 then -a else a)) = _
    rw [abs_D]
    show some (D.int (a.natAbs : Int)) = some (D.int ((Int.gcd ((0 : Nat) : Int) a : Nat) : Int))
    rw [show ((0 : Nat) : Int) = 0 from rfl, Int.gcd_zero_left]
  · have hr' : (r : Int) ≠ 0 := Int.natCast_ne_zero.mpr h0
    have e : a.fmod (r : Int) = (((a % (r : Int)).toNat : Nat) : Int) := by
      rw [Int.fmod_eq_emod_of_nonneg _ (Int.natCast_nonneg r)]
      have := Int.emod_nonneg a hr'
      omega
    have hlt : (a % (r : Int)).toNat < r := by
      have := Int.emod_lt_of_pos a (by omega : (0 : Int) < (r : Int))
      have := Int.emod_nonneg a hr'
      omega
    have i := gcd_nat (P := P) (F := F) (st := st) h (n + 200) r (a % (r : Int)).toNat (Nat.le_trans (eSteps_fb 200 _ _ (Nat.lt_trans hlt hr)) (by omega))
    refine Xs.leave (Xe.ret (Ev.iteF (st1 := st) (EvT.is (b := decide ((r : Int) = 0)) (EvT.bl (Ev.eqI (Ev.var rfl) Ev.int)) (decide_eq_false hr')) (Ev.call (st1 := st) (l := [.int r, .int (((a % (r : Int)).toNat : Nat) : Int)]) (runsF_succ _ _ _ _) ?_ ?_))) rfl
    · exact Evs.cons (Ev.var rfl) (Evs.cons (Ev.is (Ev.mod (Ev.var rfl) (Ev.var rfl) hr') (by rw [e])) Evs.nil)
    · have e2 : Nat.gcd r (a % (r : Int)).toNat = (r : Int).gcd a := by
        have q : Int.gcd (r : Int) (a % (r : Int)) = Nat.gcd r (a % (r : Int)).toNat := by
          have z : (a % (r : Int)) = (((a % (r : Int)).toNat : Nat) : Int) := by
            have := Int.emod_nonneg a hr'
            omega
          conv => lhs; rw [z]
          exact Int.gcd_natCast_natCast _ _
        rw [← q, Int.emod_def, Int.gcd_sub_mul_left_right]
      rw [← e2]
      exact i
def shareB (kg : Nat) : ISs := (.cons (.asg (.name 2) (.call kg (.cons (.var 0) (.cons (.var 1) .nil)))) (.cons (.ret (.tup (.cons (.bop .fdiv (.var 0) (.var 2)) (.cons (.bop .fdiv (.var 1) (.var 2)) .nil)))) .nil))
theorem share_S {kg : Nat} (h : fns[k]? = some ⟨2, 3, shareB kg⟩) (hg : fns[kg]? = some ⟨2, 2, gcdB kg⟩) {a : Int} {r : Nat} (h0 : 0 < r) (hr : r < fb 200) : Cl (callF P fns F (n + 202)) k [.int a, .int r] st (sh (Rat.divInt a r)) st := by
  have hr' : (r : Int) ≠ 0 := Int.natCast_ne_zero.mpr (by omega)
  have gp : 0 < (r : Int).gcd a := Int.gcd_pos_of_ne_zero_left _ hr'
  have zg : Iz 200 (((r : Int).gcd a : Nat) : Int) := by
    show ((((r : Int).gcd a : Nat) : Int)).natAbs < _
    rw [Int.natAbs_natCast]
    refine Nat.lt_of_le_of_lt (Nat.le_of_dvd h0 (Nat.gcd_dvd_left _ _)) (Nat.lt_of_lt_of_le hr ?_)
    decide +kernel
  refine Cl.ret h rfl rfl ?_
  refine Xs.cons (Xe.asg (Ev.call (runsF_succ _ _ _ _) (Evs.cons (Ev.var rfl) (Evs.cons (Ev.var rfl) Evs.nil)) (gcd_S hg hr)) rfl rfl) ?_
  refine Xs.leave (Xe.ret (Ev.is (Ev.tup (Evs.cons (Ev.fdiv (Ev.var rfl) (Ev.var rfl) (divOk_of zg (by omega))) (Evs.cons (Ev.fdiv (Ev.var rfl) (Ev.var rfl) (divOk_of zg (by omega))) Evs.nil)) rfl) ?_)) rfl
  unfold sh
  rw [Rat.num_divInt, Rat.den_divInt, if_neg hr', Int.fdiv_eq_ediv_of_nonneg _ (Int.natCast_nonneg _), Int.fdiv_eq_ediv_of_nonneg _ (Int.natCast_nonneg _), Int.sign_eq_one_of_pos (by omega), Int.one_mul, Int.natAbs_natCast]
  rfl

def ladB (ks : Nat) : ISs := (.cons (.ret (.call ks (.cons (.bop .add (.bop .mul (.ix (.var 0) (.int 0)) (.ix (.var 1) (.int 1))) (.bop .mul (.ix (.var 1) (.int 0)) (.ix (.var 0) (.int 1)))) (.cons (.bop .mul (.ix (.var 0) (.int 1)) (.ix (.var 1) (.int 1))) .nil)))) .nil)
def lmulB (ks : Nat) : ISs := (.cons (.ret (.call ks (.cons (.bop .mul (.ix (.var 0) (.int 0)) (.ix (.var 1) (.int 0))) (.cons (.bop .mul (.ix (.var 0) (.int 1)) (.ix (.var 1) (.int 1))) .nil)))) .nil)
def lminusB (ka : Nat) : ISs := (.cons (.ret (.call ka (.cons (.var 0) (.cons (.tup (.cons (.neg (.ix (.var 1) (.int 0))) (.cons (.ix (.var 1) (.int 1)) .nil))) .nil)))) .nil)
def lbyB (km : Nat) : ISs := (.cons (.ret (.call km (.cons (.var 0) (.cons (.ite (.cmp .gt (.ix (.var 1) (.int 0)) (.int 0)) (.tup (.cons (.ix (.var 1) (.int 1)) (.cons (.ix (.var 1) (.int 0)) .nil))) (.tup (.cons (.neg (.ix (.var 1) (.int 1))) (.cons (.neg (.ix (.var 1) (.int 0))) .nil)))) .nil)))) .nil)
theorem fb_big : 2 ^ 138 ≤ fb 200 := by decide +kernel
theorem den_mul (p q : Rat) : (p.den : Int) * (q.den : Int) = ((p.den * q.den : Nat) : Int) := (Int.natCast_mul _ _).symm
theorem den_pos (q : Rat) : 0 < q.den := Nat.pos_of_ne_zero q.den_nz
theorem den_fb {b c : Nat} (hp : Sz b p) (hq : Sz c q) (h : b + c ≤ 138) : p.den * q.den < fb 200 :=
  Nat.lt_of_lt_of_le (Nat.lt_of_lt_of_le (Nat.mul_lt_mul'' hp.2 hq.2) (by rw [← Nat.pow_add]; exact Nat.pow_le_pow_right (by decide) h)) fb_big
theorem lad_S {ks kg b d : Nat} (h : fns[k]? = some ⟨2, 2, ladB ks⟩) (hs : fns[ks]? = some ⟨2, 3, shareB kg⟩) (hg : fns[kg]? = some ⟨2, 2, gcdB kg⟩) (zp : Sz b p) (zq : Sz d q) (hz : b + d ≤ 138) : Cl (callF P fns F (n + 203)) k [sh p, sh q] st (sh (p + q)) st := by
  refine Cl.ret h rfl rfl ?_
  refine Xs.leave (Xe.ret (Ev.call (st1 := st) (l := [.int (p.num * q.den + q.num * p.den), .int ((p.den : Int) * (q.den : Int))]) (runsF_succ _ _ _ _) ?_ ?_)) rfl
  · walk_at "ev"
    · exact mulOk_of zp.num zq.den (by omega)
    · exact mulOk_of zq.num zp.den (by omega)
    · exact mulOk_of zp.den zq.den (by omega)
  · rw [add_di, den_mul]
    exact share_S hs hg (Nat.mul_pos (den_pos p) (den_pos q)) (den_fb zp zq hz)
theorem lmul_S {ks kg b d : Nat} (h : fns[k]? = some ⟨2, 2, lmulB ks⟩) (hs : fns[ks]? = some ⟨2, 3, shareB kg⟩) (hg : fns[kg]? = some ⟨2, 2, gcdB kg⟩) (zp : Sz b p) (zq : Sz d q) (hz : b + d ≤ 138) : Cl (callF P fns F (n + 203)) k [sh p, sh q] st (sh (p * q)) st := by
  refine Cl.ret h rfl rfl ?_
  refine Xs.leave (Xe.ret (Ev.call (st1 := st) (l := [.int (p.num * q.num), .int ((p.den : Int) * (q.den : Int))]) (runsF_succ _ _ _ _) ?_ ?_)) rfl
  · walk_at "ev"
    · exact mulOk_of zp.num zq.num (by omega)
    · exact mulOk_of zp.den zq.den (by omega)
  · rw [mul_di, den_mul]
    exact share_S hs hg (Nat.mul_pos (den_pos p) (den_pos q)) (den_fb zp zq hz)
theorem sh_neg (q : Rat) : .tup [.int (-q.num), .int (q.den : Int)] = sh (-q) := rfl
theorem lminus_S {ka ks kg b d : Nat} (h : fns[k]? = some ⟨2, 2, lminusB ka⟩) (ha : fns[ka]? = some ⟨2, 2, ladB ks⟩) (hs : fns[ks]? = some ⟨2, 3, shareB kg⟩) (hg : fns[kg]? = some ⟨2, 2, gcdB kg⟩) (zp : Sz b p) (zq : Sz d q) (hz : b + d ≤ 138) : Cl (callF P fns F (n + 204)) k [sh p, sh q] st (sh (p - q)) st := by
  refine Cl.ret h rfl rfl ?_
  refine Xs.leave (Xe.ret (Ev.call (st1 := st) (l := [sh p, sh (-q)]) (runsF_succ _ _ _ _) ?_ ?_)) rfl
  · rw [← sh_neg]
    walk_at "ev"
  · rw [Rat.sub_eq_add_neg]
    exact lad_S ha hs hg zp zq.neg hz
theorem inv_sh {q : Rat} (h : q ≠ 0) : sh q⁻¹ = if 0 < q.num then .tup [.int (q.den : Int), .int q.num] else .tup [.int (-(q.den : Int)), .int (-q.num)] := by
  have h1 := num_ne h
  unfold sh
  rw [Rat.num_inv, Rat.den_inv, if_neg h1]
  by_cases hp : 0 < q.num
  · rw [if_pos hp, Int.sign_eq_one_of_pos hp, Int.one_mul]
    congr 3
    congr 1
    omega
  · rw [if_neg hp, Int.sign_eq_neg_one_of_neg (by omega)]
    congr 2
    · congr 1
      omega
    · congr 2
      omega
theorem lby_S {km ks kg b d : Nat} (h : fns[k]? = some ⟨2, 2, lbyB km⟩) (hm : fns[km]? = some ⟨2, 2, lmulB ks⟩) (hs : fns[ks]? = some ⟨2, 3, shareB kg⟩) (hg : fns[kg]? = some ⟨2, 2, gcdB kg⟩) (h0 : q ≠ 0) (zp : Sz b p) (zq : Sz d q) (hd : 0 < d) (hz : b + d ≤ 138) : Cl (callF P fns F (n + 204)) k [sh p, sh q] st (sh (p / q)) st := by
  refine Cl.ret h rfl rfl ?_
  refine Xs.leave (Xe.ret (Ev.call (st1 := st) (l := [sh p, sh q⁻¹]) (runsF_succ _ _ _ _) ?_ ?_)) rfl
  · rw [inv_sh h0]
    refine Evs.cons (Ev.var rfl) (Evs.cons (Ev.is (Ev.ite (t := decide (0 < q.num)) (st1 := st) (EvT.bl (Ev.gt ?_ Ev.int)) (fun _ => Ev.tup (st1 := st) (l := [.int (q.den : Int), .int q.num]) ?_ rfl) (fun _ => Ev.tup (st1 := st) (l := [.int (-(q.den : Int)), .int (-q.num)]) ?_ rfl)) ?_) Evs.nil)
    · walk_at "ev"
    · walk_at "ev"
    · walk_at "ev"
    · simp only [decide_eq_true_eq]
  · rw [Rat.div_def]
    exact lmul_S hm hs hg zp (zq.inv hd) hz
/-! ### dice -/
def diceB : ISs := (.cons (.iff (.cmp2 .lt .lt (.bop .sub (.int 0) (.int 10)) (.var 0) (.int 10)) (.cons (.ret (.newl (.cons (.b1 .abs (.var 0)) (.cons (.int 0) (.cons (.int 2) .nil))))) .nil) .nil) (.cons (.ret (.newl (.cons (.var 0) (.cons (.bop .add (.int 1) (.bop .mod (.b1 .int (.var 0)) (.int 1009))) (.cons (.b1 .int (.cmp .ge (.var 0) (.bop .pow (.int 10) (.int 18)))) .nil))))) .nil))
def rollB (k : Nat) : ISs := (.cons (.iff (.or (.cons (.cmp .eq (.ix (.var 0) (.int 2)) (.int 2)) (.cons (.and (.cons (.cmp .eq (.ix (.var 0) (.int 2)) (.int 1)) (.cons (.cmp .gt (.ix (.var 0) (.int 0)) (.int 0)) .nil))) .nil))) (.cons (.asg (.name 2) (.bop .mod (.b1 .int (.ix (.var 0) (.int 0))) (.var 1))) (.cons (.asg (.rix (.var 0) (.int 0)) (.bop .fdiv (.ix (.var 0) (.int 0)) (.var 1))) (.cons (.ret (.var 2)) .nil))) .nil) (.cons (.asg (.rix (.var 0) (.int 2)) (.int 0)) (.cons (.iff (.cmp .gt (.var 1) (.int 100000000)) (.cons (.ret (.bop .mod (.b1 .int (.bop .add (.bop .mul (.call k (.cons (.var 0) (.cons (.bop .add (.bop .fdiv (.var 1) (.int 100000000)) (.int 1)) .nil))) (.int 100000000)) (.call k (.cons (.var 0) (.cons (.int 100000000) .nil))))) (.var 1))) .nil) .nil) (.cons (.asg (.rix (.var 0) (.int 0)) (.bop .mod (.b1 .int (.bop .add (.bop .add (.bop .mul (.ix (.var 0) (.int 0)) (.int 48271)) (.bop .mul (.ix (.var 0) (.int 1)) (.int 69621))) (.int 11))) (.int 2147483647))) (.cons (.asg (.rix (.var 0) (.int 1)) (.bop .add (.ix (.var 0) (.int 1)) (.int 1))) (.cons (.ret (.bop .mod (.b1 .int (.bop .fdiv (.ix (.var 0) (.int 0)) (.int 7))) (.var 1))) .nil))))))
structure Dc where
  a : Int
  b : Int
  c : Int
def Dc.ob (d : Dc) : Ob := .lst [.int d.a, .int d.b, .int d.c]
def Dc.luck (d : Dc) : Bool := decide (d.c = 2) || (decide (d.c = 1) && decide (0 < d.a))
def Dc.nx (d : Dc) : Int := (d.a * 48271 + d.b * 69621 + 11).fmod 2147483647
/-- the number rolled, the dice behind it -/
def Dc.num (d : Dc) (m : Int) : Int := if d.luck = true then d.a.fmod m else (d.nx.fdiv 7).fmod m
def Dc.go (d : Dc) (m : Int) : Dc := if d.luck = true then ⟨d.a.fdiv m, d.b, d.c⟩ else ⟨d.nx, d.b + 1, 0⟩
theorem Dc.num_nn {m : Int} (d : Dc) (h : 0 < m) : 0 ≤ d.num m := by
  unfold Dc.num
  split
  · rw [Int.fmod_eq_emod_of_nonneg _ (Int.le_of_lt h)]
    exact Int.emod_nonneg _ (by omega)
  · rw [Int.fmod_eq_emod_of_nonneg _ (Int.le_of_lt h)]
    exact Int.emod_nonneg _ (by omega)
theorem Dc.num_lt {m : Int} (d : Dc) (h : 0 < m) : d.num m < m := by
  unfold Dc.num
  split
  · rw [Int.fmod_eq_emod_of_nonneg _ (Int.le_of_lt h)]
    exact Int.emod_lt_of_pos _ h
  · rw [Int.fmod_eq_emod_of_nonneg _ (Int.le_of_lt h)]
    exact Int.emod_lt_of_pos _ h
theorem mulOk_r {i j : Int} (h : j.natAbs < 2 ^ 64 := by decide) : mulOk i j = true := by
  unfold mulOk
  simp only [Bool.or_eq_true, decide_eq_true_eq]
  exact .inl (.inr h)
theorem roll_S {m : Int} {d : Dc} {rest : Sto} (h : fns[k]? = some ⟨2, 3, rollB k⟩) (h0 : 0 < m) (h1 : m ≤ 100000000) : Cl (callF P fns F n) k [.ref 0, .int m] (d.ob :: rest) (.int (d.num m)) ((d.go m).ob :: rest) := by
  refine Cl.ret h rfl rfl ?_
  have hd : divOk m = true := divOk_of (b := 30) (by show m.natAbs < 2 ^ 30; omega) (by omega)
  have hm : m ≠ 0 := by omega
  have ix : ∀ {d : Dc} {j : Nat} {v : Int} {s : Sl}, ([.int d.a, .int d.b, .int d.c] : List D)[j]? = some (.int v) → Ev P (runsF P fns F n) [.val (.ref 0), .val (.int m), s] (d.ob :: rest) (.ix (.var 0) (.int (j : Int))) (.int v) (d.ob :: rest) := fun {d j v s} e => by
    refine Ev.ix (Ev.var rfl) Ev.int ?_
    show L2.atI [D.int d.a, .int d.b, .int d.c] (j : Int) = _
    unfold L2.atI L2.ixN
    have hj := (List.getElem?_eq_some_iff.mp e).1
    rw [if_pos (by omega), if_pos (by omega)]
    exact e
  have hc : EvT P (runsF P fns F n) [.val (.ref 0), .val (.int m), .no] (d.ob :: rest) (.or (.cons (.cmp .eq (.ix (.var 0) (.int 2)) (.int 2)) (.cons (.and (.cons (.cmp .eq (.ix (.var 0) (.int 2)) (.int 1)) (.cons (.cmp .gt (.ix (.var 0) (.int 0)) (.int 0)) .nil))) .nil))) d.luck (d.ob :: rest) := by
    refine EvT.bl (Ev.or (EvO.cons (Ev.eqI (ix (j := 2) rfl) Ev.int) fun _ => EvO.one (Ev.and (EvA.cons (Ev.eqI (ix (j := 2) rfl) Ev.int) fun _ => EvA.one (Ev.gt (ix (j := 0) rfl) Ev.int)))))
  unfold Dc.num Dc.go
  by_cases hl : d.luck = true
  · rw [if_pos hl, if_pos hl]
    rw [hl] at hc
    refine Xs.leave (Xe.ifT hc ?_) rfl
    refine Xs.cons (Xe.asg (Ev.mod (Ev.b1 (ix (j := 0) rfl) rfl) (Ev.var rfl) hm) rfl rfl) ?_
    refine Xs.cons (Xe.asgT (o := .nx [.val (.ref 0), .val (.int m), .val (.int (d.a.fmod m))] ((Dc.ob ⟨d.a.fdiv m, d.b, d.c⟩) :: rest)) (Ev.fdiv (ix (j := 0) rfl) (Ev.var rfl) hd) rfl) ?_
    exact Xs.leave (Xe.ret (Ev.var rfl)) rfl
  · rw [if_neg hl, if_neg hl]
    rw [show d.luck = false from by simpa using hl] at hc
    refine Xs.cons (Xe.ifN hc) ?_
    refine Xs.cons (Xe.asgT (o := .nx [.val (.ref 0), .val (.int m), .no] ((Dc.ob ⟨d.a, d.b, 0⟩) :: rest)) Ev.int rfl) ?_
    refine Xs.cons (Xe.ifN (EvT.is (EvT.bl (Ev.gt (Ev.var rfl) Ev.int)) (decide_eq_false (by omega)))) ?_
    refine Xs.cons (Xe.asgT (o := .nx [.val (.ref 0), .val (.int m), .no] ((Dc.ob ⟨d.nx, d.b, 0⟩) :: rest)) (Ev.mod (Ev.b1 (Ev.add (Ev.add (Ev.mul (ix (d := ⟨d.a, d.b, 0⟩) (j := 0) rfl) Ev.int mulOk_r) (Ev.mul (ix (d := ⟨d.a, d.b, 0⟩) (j := 1) rfl) Ev.int mulOk_r)) Ev.int) rfl) Ev.int (by decide)) rfl) ?_
    refine Xs.cons (Xe.asgT (o := .nx [.val (.ref 0), .val (.int m), .no] ((Dc.ob ⟨d.nx, d.b + 1, 0⟩) :: rest)) (Ev.add (ix (d := ⟨d.nx, d.b, 0⟩) (j := 1) rfl) Ev.int) rfl) ?_
    exact Xs.leave (Xe.ret (Ev.mod (Ev.b1 (Ev.fdiv (ix (d := ⟨d.nx, d.b + 1, 0⟩) (j := 0) rfl) Ev.int (by decide)) rfl) (Ev.var rfl) hm)) rfl
theorem dice_S {z : Int} (h : fns[k]? = some ⟨1, 1, diceB⟩) : ∃ d : Dc, Cl (callF P fns F n) k [.int z] [] (.ref 0) [d.ob] := by
  by_cases hz : -10 < z ∧ z < 10
  · refine ⟨⟨if z < 0 then -z else z, 0, 2⟩, Cl.ret h rfl rfl ?_⟩
    refine Xs.leave (Xe.ifT (st1 := []) (EvT.is (b := decide (-10 < z) && decide (z < 10)) (EvT.bl (Ev.cmp2 (Ev.sub Ev.int Ev.int) (Ev.var rfl) rfl (fun _ => Ev.int) (fun _ => rfl))) (by simp [hz])) ?_) rfl
    exact Xs.leave (Xe.ret (Ev.newl (Evs.cons (Ev.b1 (Ev.var rfl) rfl) (Evs.cons Ev.int (Evs.cons Ev.int Evs.nil))) rfl)) rfl
  · refine ⟨⟨z, 1 + z.fmod 1009, if decide ((10 : Int) ^ (18 : Int).toNat ≤ z) = true then 1 else 0⟩, Cl.ret h rfl rfl ?_⟩
    refine Xs.cons (st1 := []) (Xe.ifN (EvT.is (b := decide (-10 < z) && decide (z < 10)) (EvT.bl (Ev.cmp2 (Ev.sub Ev.int Ev.int) (Ev.var rfl) rfl (fun _ => Ev.int) (fun _ => rfl))) (by simpa using hz))) ?_
    refine Xs.leave (Xe.ret (Ev.newl (Evs.cons (Ev.var rfl) (Evs.cons (Ev.add Ev.int (Ev.mod (Ev.b1 (Ev.var rfl) rfl) Ev.int (by decide))) (Evs.cons (Ev.b1 (Ev.ge (Ev.var rfl) (Ev.bop Ev.int Ev.int ?_)) rfl) Evs.nil))) rfl)) rfl
    exact (if_pos (show powOk 10 18 = true by decide) : (if powOk 10 18 = true then some (D.int ((10 : Int) ^ (18 : Int).toNat)) else none) = _)
def roundsB (kd : Nat) : ISs := (.cons (.asg (.name 2) (.sl (.var 0) .no (.var 1))) (.cons (.iff (.cmp .eq (.var 2) (.lst .nil)) (.cons (.asg (.name 2) (.lst (.cons (.int 0) .nil))) .nil) .nil) (.cons (.ret (.lc [3] (.name 3) (.seq (.var 2)) .nil (.call kd (.cons (.var 3) .nil)))) .nil)))
theorem eqb_nil (l : List D) : D.eqb (.lst l) (.lst []) = l.isEmpty := by
  unfold D.eqb
  cases l <;> rfl
theorem rounds_S {kd : Nat} {ns : List Int} (h : fns[k]? = some ⟨2, 4, roundsB kd⟩) (hd : fns[kd]? = some ⟨1, 1, diceB⟩) : ∃ d : Dc, Cl (callF P fns F (n + 1)) k [.scr (ns.map .int), .int 1] [] (.lst [.ref 0]) [d.ob] := by
  have one : ∀ z : Int, ∃ d : Dc, Xs P (runsF P fns F (n + 1)) F [.val (.scr (ns.map .int)), .val (.int 1), .val (.lst [.int z]), .no] [] (.cons (.ret (.lc [3] (.name 3) (.seq (.var 2)) .nil (.call kd (.cons (.var 3) .nil)))) .nil) (.ret (.lst [.ref 0]) [d.ob]) := fun z => by
    obtain ⟨d, hc⟩ := dice_S (P := P) (F := F) (n := n) (z := z) hd
    refine ⟨d, Xs.leave (Xe.ret (Ev.lc (EvI.seqL (Ev.var rfl)) ?_ rfl)) rfl⟩
    show compL (bindP (.name 3)) _ _ [D.int z] _ [] = _
    unfold compL
    have q : ev P (runsF P fns F (n + 1)) (.call kd (.cons (.var 3) .nil)) [.val (.scr (ns.map .int)), .val (.int 1), .val (.lst [.int z]), .val (.int z)] [] = .ok (.ref 0) [d.ob] := (Ev.call (runsF_succ _ _ _ _) (Evs.cons (Ev.var rfl) Evs.nil) hc).h
    show (ev P (runsF P fns F (n + 1)) (.call kd (.cons (.var 3) .nil)) [.val (.scr (ns.map .int)), .val (.int 1), .val (.lst [.int z]), .val (.int z)] []).bind _ = _
    rw [q]
    rfl
  have cut : cutOf none (some 1) (.scr (ns.map .int)) = some (.lst ((ns.map D.int).take 1)) := by
    show some (D.lst (cutD (ns.map .int) none (some 1))) = _
    unfold cutD
    have e0 : HT.sIx (ns.map D.int).length 0 none = 0 := rfl
    rw [e0, List.drop_zero, Nat.sub_zero]
    congr 2
    cases ns with
    | nil => rfl
    | cons z ns =>
      have : HT.sIx ((z :: ns).map D.int).length ((z :: ns).map D.int).length (some 1) = 1 := by
        rw [List.length_map, List.length_cons]
        unfold HT.sIx
        simp
      rw [this]
  have first : ∀ {l : List D}, (ns.map D.int).take 1 = l → Xe P (runsF P fns F (n + 1)) F [.val (.scr (ns.map .int)), .val (.int 1), .no, .no] [] (.asg (.name 2) (.sl (.var 0) .no (.var 1))) (.nx [.val (.scr (ns.map .int)), .val (.int 1), .val (.lst l), .no] []) := fun {l} e => by
    rw [e] at cut
    exact Xe.asg (Ev.sl (Ev.var rfl) part_no (part_int rfl (Ev.var rfl)) cut) rfl rfl
  cases ns with
  | nil =>
    obtain ⟨d, hd⟩ := one 0
    refine ⟨d, Cl.ret h rfl rfl ?_⟩
    refine Xs.cons (first (l := []) rfl) ?_
    refine Xs.cons (Xe.ifT (EvT.is (EvT.bl (Ev.eq (Ev.var rfl) (Ev.lst Evs.nil rfl) rfl)) rfl) (Xs.cons (Xe.asg (Ev.lst (Evs.cons Ev.int Evs.nil) rfl) rfl rfl) Xs.nil)) ?_
    exact hd
  | cons z ns =>
    obtain ⟨d, hd⟩ := one z
    refine ⟨d, Cl.ret h rfl rfl ?_⟩
    refine Xs.cons (first (l := [.int z]) rfl) ?_
    refine Xs.cons (Xe.ifN (EvT.is (EvT.bl (Ev.eq (Ev.var rfl) (Ev.lst Evs.nil rfl) rfl)) rfl)) ?_
    exact hd
end
end Eng
/-! Eng.Y: shorter rules: calls, constants, equal sides. -/
namespace Eng
open PySem (Str)
section
variable {P : Prg} {fns : List Fn} {F n k : Nat} {Γ : Env} {st st1 st2 st3 st4 st5 : Sto} {a b c e : IE} {x y z w d : D}
theorem Ev.c0 (h : Cl (callF P fns F n) k [] st d st1) : Ev P (runsF P fns F (n + 1)) Γ st (.call k .nil) d st1 := .call (runsF_succ _ _ _ _) .nil h
theorem Ev.c1 (ha : Ev P (runsF P fns F (n + 1)) Γ st a x st1) (h : Cl (callF P fns F n) k [x] st1 d st2) : Ev P (runsF P fns F (n + 1)) Γ st (.call k (.cons a .nil)) d st2 := .call (runsF_succ _ _ _ _) (.cons ha .nil) h
theorem Ev.c2 (ha : Ev P (runsF P fns F (n + 1)) Γ st a x st1) (hb : Ev P (runsF P fns F (n + 1)) Γ st1 b y st2) (h : Cl (callF P fns F n) k [x, y] st2 d st3) : Ev P (runsF P fns F (n + 1)) Γ st (.call k (.cons a (.cons b .nil))) d st3 := .call (runsF_succ _ _ _ _) (.cons ha (.cons hb .nil)) h
theorem Ev.c3 (ha : Ev P (runsF P fns F (n + 1)) Γ st a x st1) (hb : Ev P (runsF P fns F (n + 1)) Γ st1 b y st2) (hc : Ev P (runsF P fns F (n + 1)) Γ st2 c z st3) (h : Cl (callF P fns F n) k [x, y, z] st3 d st4) : Ev P (runsF P fns F (n + 1)) Γ st (.call k (.cons a (.cons b (.cons c .nil)))) d st4 := .call (runsF_succ _ _ _ _) (.cons ha (.cons hb (.cons hc .nil))) h
theorem Ev.c4 (ha : Ev P (runsF P fns F (n + 1)) Γ st a x st1) (hb : Ev P (runsF P fns F (n + 1)) Γ st1 b y st2) (hc : Ev P (runsF P fns F (n + 1)) Γ st2 c z st3) (he : Ev P (runsF P fns F (n + 1)) Γ st3 e w st4) (h : Cl (callF P fns F n) k [x, y, z, w] st4 d st5) : Ev P (runsF P fns F (n + 1)) Γ st (.call k (.cons a (.cons b (.cons c (.cons e .nil))))) d st5 := .call (runsF_succ _ _ _ _) (.cons ha (.cons hb (.cons hc (.cons he .nil)))) h
end
section
variable {P : Prg} {cs : List CallT} {Γ : Env} {st st1 st2 st3 : Sto} {a b c : IE} {x y d : D} {q : Rat}
theorem sh_half : D.tup [.int 1, .int 2] = sh (1 / 2) := by
  unfold sh
  rw [show (1 / 2 : Rat).num = 1 from by decide +kernel, show (1 / 2 : Rat).den = 2 from by decide +kernel]
  rfl
theorem sh_int (i : Int) : D.tup [.int i, .int 1] = sh (i : Rat) := rfl
theorem Ev.half : Ev P cs Γ st (.tup (.cons (.int 1) (.cons (.int 2) .nil))) (sh (1 / 2)) st := sh_half ▸ .tup (.cons .int (.cons .int .nil)) rfl
theorem Ev.zero : Ev P cs Γ st (.tup (.cons (.int 0) (.cons (.int 1) .nil))) (sh 0) st := .tup (.cons .int (.cons .int .nil)) rfl
theorem Ev.unit : Ev P cs Γ st (.tup (.cons (.int 1) (.cons (.int 1) .nil))) (sh 1) st := .tup (.cons .int (.cons .int .nil)) rfl
theorem Ev.whole {i : Int} (h : Ev P cs Γ st a (.int i) st1) : Ev P cs Γ st (.tup (.cons a (.cons (.int 1) .nil))) (sh (i : Rat)) st1 := .tup (.cons h (.cons .int .nil)) rfl
theorem Ev.pair (h : Ev P cs Γ st a x st1) (h2 : Ev P cs Γ st1 b y st2) : Ev P cs Γ st (.tup (.cons a (.cons b .nil))) (.tup [x, y]) st2 := .tup (.cons h (.cons h2 .nil)) rfl
/-- its parts -/
theorem Ev.top (h : Ev P cs Γ st a (sh q) st1) : Ev P cs Γ st (.ix a (.int 0)) (.int q.num) st1 := .ix h .int rfl
theorem Ev.bot (h : Ev P cs Γ st a (sh q) st1) : Ev P cs Γ st (.ix a (.int 1)) (.int (q.den : Int)) st1 := .ix h .int rfl
theorem Ev.iteP {p : Prop} [Decidable p] {α : Type} {f : α → D} {u v : α} (hc : EvT P cs Γ st c (decide p) st1) (ha : p → Ev P cs Γ st1 a (f u) st1) (hb : ¬p → Ev P cs Γ st1 b (f v) st1) : Ev P cs Γ st (.ite c a b) (f (if p then u else v)) st1 := by
  by_cases h : p
  · rw [if_pos h]
    exact .iteT (.is hc (decide_eq_true h)) (ha h)
  · rw [if_neg h]
    exact .iteF (.is hc (decide_eq_false h)) (hb h)
/-! ### both sides alike -/
mutual
theorem eqb_refl : ∀ (n : Nat) (d : D), D.shp n d = true → D.eqb d d = true
  | n, .non, _ => by unfold D.eqb; rfl
  | n, .bl b, _ => by unfold D.eqb; exact beq_self_eq_true b
  | n, .int i, _ => by unfold D.eqb; exact beq_self_eq_true i
  | n, .str s, _ => by unfold D.eqb; exact beq_self_eq_true s
  | 0, .tup l, h => by unfold D.shp at h; cases h
  | 0, .lst l, h => by unfold D.shp at h; cases h
  | n + 1, .tup l, h => by unfold D.eqb; unfold D.shp at h; exact eqbs_refl n l h
  | n + 1, .lst l, h => by unfold D.eqb; unfold D.shp at h; exact eqbs_refl n l h
  | n, .dic _ _, h => by cases n <;> (unfold D.shp at h; cases h)
  | n, .ref _, h => by cases n <;> (unfold D.shp at h; cases h)
  | n, .lam _, h => by cases n <;> (unfold D.shp at h; cases h)
  | n, .scr _, h => by cases n <;> (unfold D.shp at h; cases h)
theorem eqbs_refl : ∀ (n : Nat) (l : List D), D.shps n l = true → D.eqbs l l = true
  | n, [], _ => by unfold D.eqbs; rfl
  | n, d :: l, h => by
    unfold D.shps at h
    rw [Bool.and_eq_true] at h
    unfold D.eqbs
    rw [eqb_refl n d h.1, eqbs_refl n l h.2]
    rfl
end
theorem Ev.neF (ha : Ev P cs Γ st a d st1) (hb : Ev P cs Γ st1 b d st2) (h : D.shp 60 d = true) : Ev P cs Γ st (.cmp .ne a b) (.bl false) st2 :=
  .is (.ne ha hb (by rw [h]; rfl)) (by rw [eqb_refl 60 d h]; rfl)
theorem Ev.eqT (ha : Ev P cs Γ st a d st1) (hb : Ev P cs Γ st1 b d st2) (h : D.shp 60 d = true) : Ev P cs Γ st (.cmp .eq a b) (.bl true) st2 :=
  .is (.eq ha hb (by rw [h]; rfl)) (by rw [eqb_refl 60 d h])
theorem shps_all : ∀ (n : Nat) (l : List D), (∀ d ∈ l, D.shp n d = true) → D.shps n l = true
  | n, [], _ => by unfold D.shps; rfl
  | n, d :: l, h => by unfold D.shps; rw [h d (by simp), shps_all n l fun x hx => h x (by simp [hx])]; rfl
theorem shp_map {α : Type} {f : α → D} {l : List α} {n : Nat} (h : ∀ a ∈ l, D.shp n (f a) = true) : D.shp (n + 1) (.lst (l.map f)) = true := by
  unfold D.shp
  exact shps_all n _ fun d hd => by
    obtain ⟨a, ha, rfl⟩ := List.mem_map.mp hd
    exact h a ha
theorem shp_mapT {α : Type} {f : α → D} {l : List α} {n : Nat} (h : ∀ a ∈ l, D.shp n (f a) = true) : D.shp (n + 1) (.tup (l.map f)) = true := by
  unfold D.shp
  exact shps_all n _ fun d hd => by
    obtain ⟨a, ha, rfl⟩ := List.mem_map.mp hd
    exact h a ha
theorem shp_ints {l : List Int} : D.shp 60 (.lst (l.map .int)) = true := shp_map fun _ _ => rfl
theorem shp_shs {l : List Rat} : D.shp 60 (.lst (l.map sh)) = true := shp_map fun _ _ => rfl
theorem eqs_ints {l m : List Int} (h : l = m) : D.lst (l.map .int) = D.lst (m.map .int) := by rw [h]
/-! ### or / and chains -/
theorem EvO.consT {e e2 : IE} {r : IEs} (h : Ev P cs Γ st e (.bl true) st1) : EvO P cs Γ st (.cons e (.cons e2 r)) (.bl true) st1 := ⟨by
  unfold evOr
  rw [h.h]
  rfl⟩
/-! ### an item -/
theorem Ev.ixL {l : List D} {k : Nat} {i : Int} {d : D} (ha : Ev P cs Γ st a (.lst l) st1) (hi : Ev P cs Γ st1 b (.int i) st2) (e : i = (k : Int)) (h : l[k]? = some d) : Ev P cs Γ st (.ix a b) d st2 := .ix ha hi (ixV_lst e h)
theorem Ev.len {l : List D} (ha : Ev P cs Γ st a (.lst l) st1) : Ev P cs Γ st (.b1 .len a) (.int (l.length : Int)) st1 := .b1 ha rfl
theorem Ev.lenM {α : Type} {f : α → D} {l : List α} (ha : Ev P cs Γ st a (.lst (l.map f)) st1) : Ev P cs Γ st (.b1 .len a) (.int (l.length : Int)) st1 := .b1 ha (by
  show some (D.int ((l.map f).length : Int)) = _
  rw [List.length_map])
theorem Ev.lenT {l : List D} (ha : Ev P cs Γ st a (.tup l) st1) : Ev P cs Γ st (.b1 .len a) (.int (l.length : Int)) st1 := .b1 ha rfl
theorem mulOk_l {i j : Int} (h : i.natAbs < 2 ^ 64 := by decide) : mulOk i j = true := by
  unfold mulOk
  rw [decide_eq_true h]
  rfl
theorem zipD_map {α β : Type} (f : α → D) (g : β → D) : ∀ (l : List α) (m : List β), zipD (l.map f) (m.map g) = (List.zip l m).map fun p => D.tup [f p.1, g p.2]
  | [], _ => by unfold zipD; simp
  | _ :: _, [] => by unfold zipD; simp
  | x :: l, y :: m => by
    rw [List.map_cons, List.map_cons, List.zip_cons_cons, List.map_cons, ← zipD_map f g l m]
    rfl
theorem EvI.zipM {α β : Type} {f : α → D} {g : β → D} {l : List α} {m : List β} (ha : Ev P cs Γ st a (.lst (l.map f)) st1) (hb : Ev P cs Γ st1 b (.lst (m.map g)) st2) : EvI P cs Γ st (.zip a b) ((List.zip l m).map fun p => D.tup [f p.1, g p.2]) st2 := zipD_map f g l m ▸ EvI.zipL ha hb
theorem num_pos {q : Rat} : 0 < q.num ↔ 0 < q := by
  have h := Rat.lt_iff 0 q
  have e : (0 : Rat).num * (q.den : Int) < q.num * ((0 : Rat).den : Int) ↔ 0 < q.num := by
    rw [show (0 : Rat).num = 0 from rfl, show (0 : Rat).den = 1 from rfl, Int.zero_mul]
    show 0 < q.num * 1 ↔ _
    rw [Int.mul_one]
  exact (h.trans e).symm
theorem num_le {q : Rat} (h : 0 < q) : decide (q.num ≤ 0) = false := by
  apply decide_eq_false
  have := num_pos.mpr h
  omega
theorem num_lt {q : Rat} (h : 0 ≤ q) : decide (q.num < 0) = false := by
  apply decide_eq_false
  have := Rat.num_nonneg.mpr h
  omega
theorem forL_one {bind : D → Env → Option Env} {body : Env → Sto → O} {d : D} {Γ1 Γ2 : Env} (h : bind d Γ = some Γ1) (h2 : body Γ1 st = .nx Γ2 st2) : forL bind body [d] Γ st = .nx Γ2 st2 := by
  unfold forL
  rw [h]
  show (match body Γ1 st with | .nx Γ2 st2 => forL bind body [] Γ2 st2 | .cnt Γ2 st2 => forL bind body [] Γ2 st2 | .brk Γ2 st2 => .nx Γ2 st2 | o => o) = _
  rw [h2]
  rfl
/-- a part of a text -/
def ISs.drop : Nat → ISs → ISs
  | 0, s => s
  | n + 1, .cons _ s => ISs.drop n s
  | _ + 1, s => s
def ISs.forBody : ISs → ISs
  | .cons (.forr _ _ b) _ => b
  | _ => .nil
def ISs.thenB : ISs → ISs
  | .cons (.iff _ a _) _ => a
  | _ => .nil
theorem rangeD_nat (m : Nat) : rangeD 0 (m : Int) = (List.range m).map fun (k : Nat) => D.int (k : Int) := by
  unfold rangeD
  rw [Int.sub_zero, Int.toNat_natCast]
  apply List.map_congr_left
  intro k _
  rw [Int.zero_add]
theorem rng_small {m : Nat} (h : m < 100000) : rngOk (m : Int) = true := by
  unfold rngOk
  simp only [Bool.and_eq_true, decide_eq_true_eq]
  omega
theorem EvI.rng {m : Nat} (h : Ev P cs Γ st a (.int (m : Int)) st1) (hm : m < 100000) : EvI P cs Γ st (.range1 a) ((List.range m).map fun (k : Nat) => D.int (k : Int)) st1 := rangeD_nat m ▸ EvI.range1 h (rng_small hm)
/-- range(1, m + 1) -/
theorem rangeD_one (m : Nat) : rangeD 1 ((m : Int) + 1) = (List.range m).map fun (k : Nat) => D.int ((k : Int) + 1) := by
  unfold rangeD
  rw [show ((m : Int) + 1 - 1).toNat = m by omega]
  apply List.map_congr_left
  intro k _
  rw [Int.add_comm]
theorem EvI.rng1 {m : Nat} {i : Int} (hl : Ev P cs Γ st a (.int 1) st1) (h : Ev P cs Γ st1 b (.int i) st2) (e : i = (m : Int) + 1) (hm : m < 100000) : EvI P cs Γ st (.range2 a b) ((List.range m).map fun (k : Nat) => D.int ((k : Int) + 1)) st2 := by
  subst e
  rw [← rangeD_one]
  refine EvI.range2 hl h ?_
  unfold rngOk
  simp only [Bool.and_eq_true, decide_eq_true_eq]
  omega
theorem big_map {α : Type} {l : List α} {f : α → D} (h : l.length ≤ 1000) : bigOk (l.map f) = true := by
  unfold bigOk lim
  rw [List.length_map]
  exact decide_eq_true (by omega)
theorem big_rng {f : Nat → D} {m : Nat} (h : m ≤ 1000) : bigOk ((List.range m).map f) = true := big_map (by rw [List.length_range]; exact h)
theorem big_len {l : List D} (h : l.length ≤ 1000) : bigOk l = true := by
  unfold bigOk lim
  exact decide_eq_true (by omega)
theorem big_zip {α β : Type} {l : List α} {m : List β} {f : α × β → D} (h : l.length ≤ 1000) : bigOk ((List.zip l m).map f) = true := big_map (by rw [List.length_zip]; omega)
/-- the last item -/
theorem ixV_last {l : List D} {d : D} (h : l.getLast? = some d) : ixV st (.lst l) (.int (-1)) = some d := by
  show L2.atI l (-1) = some d
  unfold L2.atI L2.ixN
  cases l with
  | nil => cases h
  | cons x r =>
    rw [if_neg (by decide), if_pos (by rw [List.length_cons]; omega)]
    rw [List.getLast?_eq_getElem?] at h
    show (x :: r)[((-1) + ((x :: r).length : Int)).toNat]? = _
    rw [show ((-1) + ((x :: r).length : Int)).toNat = (x :: r).length - 1 by rw [List.length_cons]; omega]
    exact h
/-- all but the first -/
theorem cut_tail (l : List D) : cutOf (some 1) none (.lst l) = some (.lst l.tail) := by
  show some (D.lst ((l.drop (HT.sIx l.length 0 (some 1))).take (HT.sIx l.length l.length none - HT.sIx l.length 0 (some 1)))) = _
  rw [HT.sIx_none, show (HT.sIx l.length 0 (some 1)) = min 1 l.length from HT.sIx_nat l.length 0 1]
  cases l with
  | nil => rfl
  | cons x r =>
    rw [List.length_cons, Nat.min_eq_left (by omega), List.drop_one, List.tail_cons, List.take_of_length_le (by omega)]
theorem Ev.tail {l : List D} (ha : Ev P cs Γ st a (.lst l) st1) : Ev P cs Γ st (.sl a (.int 1) .no) (.lst l.tail) st1 := .sl ha (part_int rfl .int) part_no (cut_tail l)
theorem Ev.tailM {α : Type} {f : α → D} {l : List α} (ha : Ev P cs Γ st a (.lst (l.map f)) st1) : Ev P cs Γ st (.sl a (.int 1) .no) (.lst (l.tail.map f)) st1 := List.map_tail ▸ .tail ha
theorem sh_inv {i : Int} (h : 0 < i) : D.tup [.int 1, .int i] = sh (1 / (i : Rat)) := by
  unfold sh
  have e : (1 : Rat) / (i : Rat) = (i : Rat)⁻¹ := by rw [Rat.div_def, Rat.one_mul]
  have e1 : (i : Rat)⁻¹.num = 1 := by
    rw [Rat.num_inv, Rat.num_intCast, Rat.den_intCast, Int.sign_eq_one_of_pos h]
    rfl
  have e2 : ((i : Rat)⁻¹.den : Int) = i := by
    rw [Rat.den_inv, Rat.num_intCast, if_neg (by omega)]
    omega
  rw [e, e1, e2]
theorem Ev.inv {i : Int} (ha : Ev P cs Γ st a (.int i) st1) (h : 0 < i) : Ev P cs Γ st (.tup (.cons (.int 1) (.cons a .nil))) (sh (1 / (i : Rat))) st1 := sh_inv h ▸ .tup (.cons .int (.cons ha .nil)) rfl
theorem inv_sz {b : Nat} {i : Int} (h : Iz b i) (hb : 0 < b) : Sz (b + 1) (1 / (i : Rat)) := Sz.mono (Sz.div (b := 1) ⟨by decide, by decide⟩ (Sz.int h hb)) (by omega)
/-- the greater -/
def mx (p q : Rat) : Rat := if p < q then q else p
theorem mx_sz {b : Nat} {p q : Rat} (h : Sz b p) (k : Sz b q) : Sz b (mx p q) := by
  unfold mx
  split
  · exact k
  · exact h
theorem fold_mx {α : Type} (g : α → Rat) {b : Nat} : ∀ (l : List α) (s : Rat), Sz b s → (∀ x ∈ l, Sz b (g x)) → Sz b (l.foldl (fun a x => mx a (g x)) s)
  | [], _, h, _ => h
  | x :: l, s, h, k => fold_mx g l _ (mx_sz h (k x (by simp))) fun y hy => k y (by simp [hy])
theorem intsOf_map {α : Type} (f : α → Int) : ∀ (l : List α), intsOf (l.map fun x => D.int (f x)) = some (l.map f)
  | [] => rfl
  | x :: l => by
    rw [List.map_cons, List.map_cons]
    unfold intsOf
    rw [intsOf_map f l]
    rfl
theorem Ev.sum {α : Type} {f : α → Int} {l : List α} (ha : Ev P cs Γ st a (.lst (l.map fun x => D.int (f x))) st1) : Ev P cs Γ st (.b1 .sum a) (.int (l.map f).sum) st1 := .b1 ha (by
  show (intsOf (l.map fun x => D.int (f x))).map _ = _
  rw [intsOf_map]
  rfl)
theorem Ev.eqNil {α : Type} {f : α → D} {l : List α} (ha : Ev P cs Γ st a (.lst (l.map f)) st1) (h : ∀ x ∈ l, D.shp 59 (f x) = true) : Ev P cs Γ st (.cmp .eq a (.lst .nil)) (.bl l.isEmpty) st1 :=
  .is (.eq ha (.lst .nil rfl) (by rw [shp_map h]; rfl)) (by rw [eqb_nil, List.isEmpty_map])
theorem Ev.neNil {α : Type} {f : α → D} {l : List α} (ha : Ev P cs Γ st a (.lst (l.map f)) st1) (h : ∀ x ∈ l, D.shp 59 (f x) = true) : Ev P cs Γ st (.cmp .ne a (.lst .nil)) (.bl (!l.isEmpty)) st1 :=
  .is (.ne ha (.lst .nil rfl) (by rw [shp_map h]; rfl)) (by rw [eqb_nil, List.isEmpty_map])
/-- the head of those that nothing is above -/
theorem fold_mx_le : ∀ (l : List Rat) (s : Rat), s ≤ l.foldl mx s ∧ (∀ x ∈ l, x ≤ l.foldl mx s) ∧ (l.foldl mx s = s ∨ l.foldl mx s ∈ l)
  | [], s => ⟨by show s ≤ s; grind, by simp, .inl rfl⟩
  | x :: l, s => by
    obtain ⟨h1, h2, h3⟩ := fold_mx_le l (mx s x)
    have hm : s ≤ mx s x ∧ x ≤ mx s x ∧ (mx s x = s ∨ mx s x = x) := by
      unfold mx
      split <;> grind
    rw [List.foldl_cons]
    refine ⟨by grind, fun y hy => ?_, ?_⟩
    · rcases List.mem_cons.mp hy with e | hy
      · rw [e]; grind
      · exact h2 y hy
    · rcases h3 with h3 | h3
      · rw [h3]
        rcases hm.2.2 with e | e
        · exact .inl e
        · rw [e]; exact .inr (by simp)
      · exact .inr (by simp [h3])
theorem max_head (l : List Rat) (s : Rat) : ((s :: l).filter fun x => ((s :: l).filter fun y => decide (x < y)).isEmpty)[0]? = some (l.foldl mx s) := by
  obtain ⟨h1, h2, h3⟩ := fold_mx_le l s
  have hall : ∀ x ∈ s :: l, x ≤ l.foldl mx s := fun x hx => by
    rcases List.mem_cons.mp hx with e | hx
    · rw [e]; exact h1
    · exact h2 x hx
  have hmem : l.foldl mx s ∈ s :: l := by
    rcases h3 with e | h
    · rw [e]; simp
    · simp [h]
  generalize l.foldl mx s = M at *
  generalize s :: l = R at *
  have hp : (R.filter fun y => decide (M < y)).isEmpty = true := by
    rw [List.isEmpty_iff, List.filter_eq_nil_iff]
    intro y hy
    have := hall y hy
    simp
    grind
  have hin : M ∈ R.filter fun x => (R.filter fun y => decide (x < y)).isEmpty := List.mem_filter.mpr ⟨hmem, hp⟩
  cases hc : R.filter fun x => (R.filter fun y => decide (x < y)).isEmpty with
  | nil => rw [hc] at hin; cases hin
  | cons z zs =>
    have hz : z ∈ R.filter fun x => (R.filter fun y => decide (x < y)).isEmpty := by rw [hc]; simp
    obtain ⟨hz1, hz2⟩ := List.mem_filter.mp hz
    rw [List.isEmpty_iff, List.filter_eq_nil_iff] at hz2
    have a := hz2 M hmem
    have b := hall z hz1
    simp at a
    show some z = some M
    congr 1
    grind
/-! ### floors -/
theorem floor_sh (q : Rat) : q.num.fdiv (q.den : Int) = q.floor := by
  rw [Rat.floor_def, Int.fdiv_eq_ediv_of_nonneg _ (by omega)]
theorem den_div {b : Nat} {q : Rat} (h : Sz b q) (l : b < 9000 := by decide) : divOk (q.den : Int) = true := divOk_of h.den (den_ne q) l
theorem Ev.floor {q : Rat} (h : Ev P cs Γ st a (sh q) st1) (h2 : Ev P cs Γ st1 a (sh q) st1) {b : Nat} (z : Sz b q) (l : b < 9000 := by decide) : Ev P cs Γ st (.bop .fdiv (.ix a (.int 0)) (.ix a (.int 1))) (.int q.floor) st1 := floor_sh q ▸ .fdiv h.top h2.bot (den_div z l)
/-! ### the greater part of a share, whatever side -/
def rabs (q : Rat) : Rat := if q < 0 then -q else q
theorem rabs_sh (q : Rat) : D.tup [.int (if q.num < 0 then -q.num else q.num), .int (q.den : Int)] = sh (rabs q) := by
  unfold rabs
  by_cases h : q < 0
  · have hn : q.num < 0 := by
      rcases Int.lt_or_le q.num 0 with h1 | h1
      · exact h1
      · have := Rat.num_nonneg.mp h1
        grind
    rw [if_pos h, if_pos hn]
    rfl
  · have hn : ¬ q.num < 0 := by
      have := Rat.num_nonneg.mpr (show 0 ≤ q by grind)
      omega
    rw [if_neg h, if_neg hn]
    rfl
theorem rabs_sz {b : Nat} {q : Rat} (h : Sz b q) : Sz b (rabs q) := by
  unfold rabs
  split
  · exact h.neg
  · exact h
theorem Ev.absS {q : Rat} (h : Ev P cs Γ st a (sh q) st1) (h2 : Ev P cs Γ st1 a (sh q) st1) : Ev P cs Γ st (.tup (.cons (.b1 .abs (.ix a (.int 0))) (.cons (.ix a (.int 1)) .nil))) (sh (rabs q)) st1 := rabs_sh q ▸ .tup (.cons (.b1 h.top rfl) (.cons h2.bot .nil)) rfl
/-! ### while, by what is left -/
theorem whileL_dn {c : Env → Sto → R Bool} {body : Env → Sto → O} (I : Nat → Env → Sto → Prop) (stepT : ∀ j Γ st, I (j + 1) Γ st → c Γ st = .ok true st ∧ ∃ Γ2 st2, (body Γ st = .nx Γ2 st2 ∨ body Γ st = .cnt Γ2 st2) ∧ I j Γ2 st2) (stepF : ∀ Γ st, I 0 Γ st → c Γ st = .ok false st) :
    ∀ (j n : Nat) (Γ : Env) (st : Sto), j < n → I j Γ st → ∃ Γ' st', whileL c body n Γ st = .nx Γ' st' ∧ I 0 Γ' st'
  | _, 0, _, _, h, _ => absurd h (Nat.not_lt_zero _)
  | 0, n + 1, Γ, st, h, hI => by
    refine ⟨Γ, st, ?_, hI⟩
    unfold whileL
    rw [stepF Γ st hI]
    rfl
  | j + 1, n + 1, Γ, st, h, hI => by
    obtain ⟨h1, Γ2, st2, h2, h3⟩ := stepT j Γ st hI
    obtain ⟨Γ', st', h4, h5⟩ := whileL_dn I stepT stepF j n Γ2 st2 (by omega) h3
    refine ⟨Γ', st', ?_, h5⟩
    unfold whileL
    rw [h1]
    show (match body Γ st with | .nx Γ2 st2 => whileL c body n Γ2 st2 | .cnt Γ2 st2 => whileL c body n Γ2 st2 | .brk Γ2 st2 => .nx Γ2 st2 | o => o) = _
    rcases h2 with h2 | h2
    · rw [h2]; exact h4
    · rw [h2]; exact h4
theorem whileL_mu {c : Env → Sto → R Bool} {body : Env → Sto → O} (I : Nat → Env → Sto → Prop) (Q : Env → Sto → Prop) (step : ∀ j Γ st, I j Γ st → (c Γ st = .ok false st ∧ Q Γ st) ∨ (c Γ st = .ok true st ∧ ∃ Γ2 st2 j', (body Γ st = .nx Γ2 st2 ∨ body Γ st = .cnt Γ2 st2) ∧ j' < j ∧ I j' Γ2 st2)) :
    ∀ (n j : Nat) (Γ : Env) (st : Sto), j < n → I j Γ st → ∃ Γ' st', whileL c body n Γ st = .nx Γ' st' ∧ Q Γ' st'
  | 0, _, _, _, h, _ => absurd h (Nat.not_lt_zero _)
  | n + 1, j, Γ, st, h, hI => by
    rcases step j Γ st hI with ⟨h1, h2⟩ | ⟨h1, Γ2, st2, j', h2, h3, h4⟩
    · refine ⟨Γ, st, ?_, h2⟩
      unfold whileL
      rw [h1]
      rfl
    · obtain ⟨Γ', st', h5, h6⟩ := whileL_mu I Q step n j' Γ2 st2 (by omega) h4
      refine ⟨Γ', st', ?_, h6⟩
      unfold whileL
      rw [h1]
      show (match body Γ st with | .nx Γ2 st2 => whileL c body n Γ2 st2 | .cnt Γ2 st2 => whileL c body n Γ2 st2 | .brk Γ2 st2 => .nx Γ2 st2 | o => o) = _
      rcases h2 with h2 | h2
      · rw [h2]; exact h5
      · rw [h2]; exact h5
end
end Eng
namespace Eng.circuitstack_k14_values_told_as_bits
open PySem
def topS (i : Nat) : Stmt := PySem.Challenge.pw_circuitstack_k14_values_told_as_bits.main.body.getD i (.Pass ⟨0, 0, 0, 0⟩)
def b0 : ISs := (.cons (.iff (.cmp .eq (.var 1) (.int 0)) (.cons (.rais 1) .nil) .nil) (.cons (.par [(2, false), (3, false)] (.cons (.b1 .abs (.var 0)) (.cons (.b1 .abs (.var 1)) .nil))) (.cons (.whil (.cmp .ne (.var 3) (.int 0)) (.cons (.par [(2, false), (3, false)] (.cons (.var 3) (.cons (.bop .mod (.var 2) (.var 3)) .nil))) .nil)) (.cons (.asg (.name 4) (.ite (.cmp .gt (.var 1) (.int 0)) (.int 1) (.bop .sub (.int 0) (.int 1)))) (.cons (.ret (.ite (.cmp .gt (.var 2) (.int 0)) (.tup (.cons (.bop .fdiv (.bop .mul (.var 4) (.var 0)) (.var 2)) (.cons (.bop .fdiv (.b1 .abs (.var 1)) (.var 2)) .nil))) (.tup (.cons (.int 0) (.cons (.int 1) .nil))))) .nil)))))
def n0 : List Str := [("one" : Str), ("under" : Str), ("left" : Str), ("right" : Str), ("sign" : Str)]
abbrev s0 : Stmt := topS 5
def f0 : Fn := ⟨2, 5, b0⟩
def b1 : ISs := (.cons (.ret (.call 0 (.cons (.bop .add (.bop .mul (.ix (.var 0) (.int 0)) (.ix (.var 1) (.int 1))) (.bop .mul (.ix (.var 1) (.int 0)) (.ix (.var 0) (.int 1)))) (.cons (.bop .mul (.ix (.var 0) (.int 1)) (.ix (.var 1) (.int 1))) .nil)))) .nil)
def n1 : List Str := [("one" : Str), ("other" : Str)]
abbrev s1 : Stmt := topS 6
def f1 : Fn := ⟨2, 2, b1⟩
def b2 : ISs := (.cons (.ret (.call 0 (.cons (.bop .sub (.bop .mul (.ix (.var 0) (.int 0)) (.ix (.var 1) (.int 1))) (.bop .mul (.ix (.var 1) (.int 0)) (.ix (.var 0) (.int 1)))) (.cons (.bop .mul (.ix (.var 0) (.int 1)) (.ix (.var 1) (.int 1))) .nil)))) .nil)
def n2 : List Str := [("one" : Str), ("other" : Str)]
abbrev s2 : Stmt := topS 7
def f2 : Fn := ⟨2, 2, b2⟩
def b3 : ISs := (.cons (.ret (.call 0 (.cons (.bop .mul (.ix (.var 0) (.int 0)) (.ix (.var 1) (.int 0))) (.cons (.bop .mul (.ix (.var 0) (.int 1)) (.ix (.var 1) (.int 1))) .nil)))) .nil)
def n3 : List Str := [("one" : Str), ("other" : Str)]
abbrev s3 : Stmt := topS 8
def f3 : Fn := ⟨2, 2, b3⟩
def b4 : ISs := (.cons (.iff (.cmp .eq (.ix (.var 1) (.int 0)) (.int 0)) (.cons (.rais 1) .nil) .nil) (.cons (.ret (.call 0 (.cons (.bop .mul (.ix (.var 0) (.int 0)) (.ix (.var 1) (.int 1))) (.cons (.bop .mul (.ix (.var 0) (.int 1)) (.ix (.var 1) (.int 0))) .nil)))) .nil))
def n4 : List Str := [("one" : Str), ("other" : Str)]
abbrev s4 : Stmt := topS 9
def f4 : Fn := ⟨2, 2, b4⟩
def b5 : ISs := (.cons (.ret (.cmp .lt (.bop .mul (.ix (.var 0) (.int 0)) (.ix (.var 1) (.int 1))) (.bop .mul (.ix (.var 1) (.int 0)) (.ix (.var 0) (.int 1))))) .nil)
def n5 : List Str := [("one" : Str), ("other" : Str)]
abbrev s5 : Stmt := topS 10
def f5 : Fn := ⟨2, 2, b5⟩
def b6 : ISs := (.cons (.iff (.not (.cmp2 .le .le (.int 1) (.var 0) (.glob 0))) (.cons (.rais 2) .nil) .nil) .nil)
def n6 : List Str := [("many" : Str)]
abbrev s6 : Stmt := topS 13
def f6 : Fn := ⟨1, 1, b6⟩
def b7 : ISs := (.cons (.expr (.call 6 (.cons (.var 0) .nil))) (.cons (.asg (.name 1) (.int 1)) (.cons (.forr (.name 2) (.range1 (.var 0)) (.cons (.aug 1 .mul (.int 2)) .nil)) (.cons (.ret (.var 1)) .nil))))
def n7 : List Str := [("many" : Str), ("found" : Str), ("turn" : Str)]
abbrev s7 : Stmt := topS 14
def f7 : Fn := ⟨1, 3, b7⟩
def b8 : ISs := (.cons (.iff (.not (.cmp2 .le .lt (.int 0) (.var 0) (.call 7 (.cons (.var 1) .nil)))) (.cons (.rais 2) .nil) .nil) (.cons (.setN 2 (.lst .nil)) (.cons (.forr (.name 3) (.range1 (.var 1)) (.cons (.ins 2 (.int 0) (.bop .mod (.var 0) (.int 2))) (.cons (.aug 0 .fdiv (.int 2)) .nil))) (.cons (.ret (.b1 .tuple (.own 2))) .nil))))
def n8 : List Str := [("value" : Str), ("many" : Str), ("found" : Str), ("turn" : Str)]
abbrev s8 : Stmt := topS 15
def f8 : Fn := ⟨2, 4, b8⟩
def b9 : ISs := (.cons (.expr (.call 6 (.cons (.b1 .len (.var 0)) .nil))) (.cons (.asg (.name 1) (.int 0)) (.cons (.forr (.name 2) (.seq (.var 0)) (.cons (.iff (.cmp .nin (.var 2) (.tup (.cons (.int 0) (.cons (.int 1) .nil)))) (.cons (.rais 2) .nil) .nil) (.cons (.asg (.name 1) (.bop .add (.bop .mul (.int 2) (.var 1)) (.var 2))) .nil))) (.cons (.ret (.var 1)) .nil))))
def n9 : List Str := [("bits" : Str), ("found" : Str), ("bit" : Str)]
abbrev s9 : Stmt := topS 16
def f9 : Fn := ⟨1, 3, b9⟩
def b10 : ISs := (.cons (.expr (.call 8 (.cons (.var 0) (.cons (.var 1) .nil)))) (.cons (.ret (.call 3 (.cons (.var 2) (.cons (.call 0 (.cons (.var 0) (.cons (.call 7 (.cons (.var 1) .nil)) .nil))) .nil)))) .nil))
def n10 : List Str := [("value" : Str), ("many" : Str), ("top" : Str)]
abbrev s10 : Stmt := topS 17
def f10 : Fn := ⟨3, 3, b10⟩
def b11 : ISs := (.cons (.expr (.call 9 (.cons (.var 0) .nil))) (.cons (.asg (.name 2) (.tup (.cons (.int 0) (.cons (.int 1) .nil)))) (.cons (.forr (.name 3) (.seq (.rev (.var 0))) (.cons (.asg (.name 2) (.call 3 (.cons (.call 1 (.cons (.var 2) (.cons (.ite (.cmp .eq (.var 3) (.int 1)) (.var 1) (.tup (.cons (.int 0) (.cons (.int 1) .nil)))) .nil))) (.cons (.tup (.cons (.int 1) (.cons (.int 2) .nil))) .nil)))) .nil)) (.cons (.ret (.var 2)) .nil))))
def n11 : List Str := [("bits" : Str), ("top" : Str), ("here" : Str), ("bit" : Str)]
abbrev s11 : Stmt := topS 18
def f11 : Fn := ⟨2, 4, b11⟩
def b12 : ISs := (.cons (.expr (.call 9 (.cons (.var 0) .nil))) (.cons (.iff (.or (.cons (.cmp .ne (.b1 .len (.var 1)) (.b1 .len (.var 0))) (.cons (.gen .any [3] (.name 3) (.seq (.var 1)) .nil (.cmp .le (.ix (.var 3) (.int 0)) (.int 0))) .nil))) (.cons (.rais 2) .nil) .nil) (.cons (.par [(4, false), (5, false)] (.cons (.tup (.cons (.int 0) (.cons (.int 1) .nil))) (.cons (.tup (.cons (.int 0) (.cons (.int 1) .nil))) .nil))) (.cons (.forr (.pair (.name 6) (.name 3)) (.zip (.var 0) (.var 1)) (.cons (.asg (.name 7) (.call 4 (.cons (.tup (.cons (.int 1) (.cons (.int 1) .nil))) (.cons (.var 3) .nil)))) (.cons (.asg (.name 5) (.call 1 (.cons (.var 5) (.cons (.var 7) .nil)))) (.cons (.asg (.name 4) (.ite (.cmp .eq (.var 6) (.int 1)) (.call 1 (.cons (.var 4) (.cons (.var 7) .nil))) (.var 4))) .nil)))) (.cons (.ret (.call 3 (.cons (.var 2) (.cons (.call 4 (.cons (.var 4) (.cons (.var 5) .nil))) .nil)))) .nil)))))
def n12 : List Str := [("bits" : Str), ("values" : Str), ("top" : Str), ("value" : Str), ("up" : Str), ("whole" : Str), ("bit" : Str), ("back" : Str)]
abbrev s12 : Stmt := topS 19
def f12 : Fn := ⟨3, 8, b12⟩
def b13 : ISs := (.cons (.asg (.name 3) (.call 7 (.cons (.var 1) .nil))) (.cons (.iff (.cmp .le (.ix (.var 2) (.int 0)) (.int 0)) (.cons (.rais 2) .nil) .nil) (.cons (.asg (.name 4) (.call 3 (.cons (.call 4 (.cons (.var 0) (.cons (.var 2) .nil))) (.cons (.tup (.cons (.var 3) (.cons (.int 1) .nil))) .nil)))) (.cons (.ret (.b2 .min (.bop .sub (.var 3) (.int 1)) (.b2 .max (.int 0) (.bop .fdiv (.ix (.var 4) (.int 0)) (.ix (.var 4) (.int 1)))))) .nil))))
def n13 : List Str := [("volts" : Str), ("many" : Str), ("top" : Str), ("whole" : Str), ("part" : Str)]
abbrev s13 : Stmt := topS 20
def f13 : Fn := ⟨3, 5, b13⟩
def b14 : ISs := (.cons (.iff (.cmp .le (.ix (.var 2) (.int 0)) (.int 0)) (.cons (.rais 2) .nil) .nil) (.cons (.par [(3, false), (4, false), (5, true)] (.cons (.call 7 (.cons (.var 1) .nil)) (.cons (.int 0) (.cons (.lst .nil) .nil)))) (.cons (.asg (.name 6) (.bop .fdiv (.var 3) (.int 2))) (.cons (.whil (.cmp .gt (.var 6) (.int 0)) (.cons (.asg (.name 7) (.not (.call 5 (.cons (.var 0) (.cons (.call 3 (.cons (.var 2) (.cons (.call 0 (.cons (.bop .add (.var 4) (.var 6)) (.cons (.var 3) .nil))) .nil))) .nil))))) (.cons (.app 5 (.tup (.cons (.bop .add (.var 4) (.var 6)) (.cons (.ite (.var 7) (.int 1) (.int 0)) .nil)))) (.cons (.aug 4 .add (.ite (.var 7) (.var 6) (.int 0))) (.cons (.aug 6 .fdiv (.int 2)) .nil))))) (.cons (.ret (.b1 .tuple (.own 5))) .nil)))))
def n14 : List Str := [("volts" : Str), ("many" : Str), ("top" : Str), ("whole" : Str), ("here" : Str), ("found" : Str), ("step" : Str), ("is_kept" : Str)]
abbrev s14 : Stmt := topS 21
def f14 : Fn := ⟨3, 8, b14⟩
def b15 : ISs := (.cons (.asg (.name 3) (.call 7 (.cons (.var 1) .nil))) (.cons (.iff (.cmp .le (.ix (.var 2) (.int 0)) (.int 0)) (.cons (.rais 2) .nil) .nil) (.cons (.forr (.name 4) (.range1 (.var 3)) (.cons (.iff (.call 5 (.cons (.var 0) (.cons (.call 3 (.cons (.var 2) (.cons (.call 0 (.cons (.var 4) (.cons (.var 3) .nil))) .nil))) .nil))) (.cons (.ret (.var 4)) .nil) .nil) .nil)) (.cons (.ret (.var 3)) .nil))))
def n15 : List Str := [("volts" : Str), ("many" : Str), ("top" : Str), ("whole" : Str), ("count" : Str)]
abbrev s15 : Stmt := topS 22
def f15 : Fn := ⟨3, 5, b15⟩
def b16 : ISs := (.cons (.iff (.cmp .gt (.var 0) (.int 8)) (.cons (.rais 2) .nil) .nil) (.cons (.ret (.gen .tuple [2] (.name 2) (.range2 (.int 1) (.call 7 (.cons (.var 0) .nil))) .nil (.call 3 (.cons (.var 1) (.cons (.call 0 (.cons (.var 2) (.cons (.call 7 (.cons (.var 0) .nil)) .nil))) .nil))))) .nil))
def n16 : List Str := [("many" : Str), ("top" : Str), ("count" : Str)]
abbrev s16 : Stmt := topS 23
def f16 : Fn := ⟨2, 3, b16⟩
def b17 : ISs := (.cons (.iff (.gen .any [2, 3] (.pair (.name 2) (.name 3)) (.zip (.var 1) (.sl (.var 1) (.int 1) .no)) .nil (.not (.call 5 (.cons (.var 2) (.cons (.var 3) .nil))))) (.cons (.rais 2) .nil) .nil) (.cons (.ret (.b1 .len (.lc [4] (.name 4) (.seq (.var 1)) (.cons (.not (.call 5 (.cons (.var 0) (.cons (.var 4) .nil)))) .nil) (.var 4)))) .nil))
def n17 : List Str := [("volts" : Str), ("levels" : Str), ("one" : Str), ("other" : Str), ("level" : Str)]
abbrev s17 : Stmt := topS 24
def f17 : Fn := ⟨2, 5, b17⟩
def b18 : ISs := (.cons (.asg (.name 3) (.call 3 (.cons (.var 2) (.cons (.call 0 (.cons (.bop .add (.bop .mul (.int 2) (.call 13 (.cons (.var 0) (.cons (.var 1) (.cons (.var 2) .nil))))) (.int 1)) (.cons (.bop .mul (.int 2) (.call 7 (.cons (.var 1) .nil))) .nil))) .nil)))) (.cons (.ret (.call 2 (.cons (.var 0) (.cons (.var 3) .nil)))) .nil))
def n18 : List Str := [("volts" : Str), ("many" : Str), ("top" : Str), ("middle" : Str)]
abbrev s18 : Stmt := topS 25
def f18 : Fn := ⟨3, 4, b18⟩
def b19 : ISs := (.cons (.iff (.or (.cons (.cmp .lt (.b1 .len (.var 0)) (.int 2)) (.cons (.cmp .le (.ix (.var 1) (.int 0)) (.int 0)) .nil))) (.cons (.rais 2) .nil) .nil) (.cons (.asg (.name 2) (.call 3 (.cons (.call 2 (.cons (.ix (.var 0) (.neg (.int 1))) (.cons (.ix (.var 0) (.int 0)) .nil))) (.cons (.tup (.cons (.int 1) (.cons (.bop .sub (.b1 .len (.var 0)) (.int 1)) .nil))) .nil)))) (.cons (.iff (.cmp .eq (.ix (.var 2) (.int 0)) (.int 0)) (.cons (.rais 2) .nil) .nil) (.cons (.par [(3, false), (4, false)] (.cons (.tup (.cons (.int 0) (.cons (.int 1) .nil))) (.cons (.tup (.cons (.int 0) (.cons (.int 1) .nil))) .nil))) (.cons (.forr (.name 5) (.range2 (.int 1) (.b1 .len (.var 0))) (.cons (.asg (.name 6) (.call 4 (.cons (.call 2 (.cons (.call 2 (.cons (.ix (.var 0) (.var 5)) (.cons (.ix (.var 0) (.bop .sub (.var 5) (.int 1))) .nil))) (.cons (.var 2) .nil))) (.cons (.var 2) .nil)))) (.cons (.asg (.name 3) (.call 20 (.cons (.var 3) (.cons (.var 6) .nil)))) (.cons (.asg (.name 7) (.call 1 (.cons (.ix (.var 0) (.int 0)) (.cons (.call 3 (.cons (.var 2) (.cons (.tup (.cons (.var 5) (.cons (.int 1) .nil))) .nil))) .nil)))) (.cons (.asg (.name 4) (.call 20 (.cons (.var 4) (.cons (.call 4 (.cons (.call 2 (.cons (.ix (.var 0) (.var 5)) (.cons (.var 7) .nil))) (.cons (.var 2) .nil))) .nil)))) .nil))))) (.cons (.ret (.tup (.cons (.var 3) (.cons (.var 4) .nil)))) .nil))))))
def n19 : List Str := [("made" : Str), ("top" : Str), ("step" : Str), ("worst" : Str), ("far" : Str), ("place" : Str), ("gap" : Str), ("line" : Str)]
abbrev s19 : Stmt := topS 26
def f19 : Fn := ⟨2, 8, b19⟩
def b20 : ISs := (.cons (.asg (.name 2) (.tup (.cons (.b1 .abs (.ix (.var 1) (.int 0))) (.cons (.ix (.var 1) (.int 1)) .nil)))) (.cons (.ret (.ite (.call 5 (.cons (.var 0) (.cons (.var 2) .nil))) (.var 2) (.var 0))) .nil))
def n20 : List Str := [("one" : Str), ("other" : Str), ("mine" : Str)]
abbrev s20 : Stmt := topS 27
def f20 : Fn := ⟨2, 3, b20⟩
def b21 : ISs := (.cons (.ret (.gen .all [1, 2] (.pair (.name 1) (.name 2)) (.zip (.var 0) (.sl (.var 0) (.int 1) .no)) .nil (.not (.call 5 (.cons (.var 2) (.cons (.var 1) .nil)))))) .nil)
def n21 : List Str := [("made" : Str), ("one" : Str), ("other" : Str)]
abbrev s21 : Stmt := topS 28
def f21 : Fn := ⟨1, 3, b21⟩
def b22 : ISs := (.cons (.iff (.cmp .lt (.var 0) (.int 0)) (.cons (.rais 2) .nil) .nil) (.cons (.ret (.call 23 (.cons (.var 0) (.cons (.bop .fdiv (.var 0) (.int 2)) .nil)))) .nil))
def n22 : List Str := [("value" : Str)]
abbrev s22 : Stmt := topS 29
def f22 : Fn := ⟨1, 1, b22⟩
def b23 : ISs := (.cons (.par [(2, false), (3, false)] (.cons (.int 0) (.cons (.int 1) .nil))) (.cons (.whil (.or (.cons (.cmp .gt (.var 0) (.int 0)) (.cons (.cmp .gt (.var 1) (.int 0)) .nil))) (.cons (.aug 2 .add (.ite (.cmp .ne (.bop .mod (.var 0) (.int 2)) (.bop .mod (.var 1) (.int 2))) (.var 3) (.int 0))) (.cons (.par [(0, false), (1, false), (3, false)] (.cons (.bop .fdiv (.var 0) (.int 2)) (.cons (.bop .fdiv (.var 1) (.int 2)) (.cons (.bop .mul (.var 3) (.int 2)) .nil)))) .nil))) (.cons (.ret (.var 2)) .nil)))
def n23 : List Str := [("one" : Str), ("other" : Str), ("found" : Str), ("step" : Str)]
abbrev s23 : Stmt := topS 30
def f23 : Fn := ⟨2, 4, b23⟩
def b24 : ISs := (.cons (.iff (.cmp .lt (.var 0) (.int 0)) (.cons (.rais 2) .nil) .nil) (.cons (.asg (.name 1) (.int 0)) (.cons (.whil (.cmp .gt (.var 0) (.int 0)) (.cons (.asg (.name 1) (.call 23 (.cons (.var 1) (.cons (.var 0) .nil)))) (.cons (.aug 0 .fdiv (.int 2)) .nil))) (.cons (.ret (.var 1)) .nil))))
def n24 : List Str := [("code" : Str), ("found" : Str)]
abbrev s24 : Stmt := topS 31
def f24 : Fn := ⟨1, 2, b24⟩
def b25 : ISs := (.cons (.expr (.call 8 (.cons (.var 0) (.cons (.var 1) .nil)))) (.cons (.asg (.name 2) (.call 7 (.cons (.var 1) .nil))) (.cons (.ret (.ite (.cmp .ge (.var 0) (.bop .fdiv (.var 2) (.int 2))) (.bop .sub (.var 0) (.var 2)) (.var 0))) .nil)))
def n25 : List Str := [("value" : Str), ("many" : Str), ("whole" : Str)]
abbrev s25 : Stmt := topS 32
def f25 : Fn := ⟨2, 3, b25⟩
def b26 : ISs := (.cons (.iff (.or (.cons (.cmp .le (.ix (.var 1) (.int 0)) (.int 0)) (.cons (.cmp .lt (.ix (.var 0) (.int 0)) (.int 0)) (.cons (.call 5 (.cons (.var 1) (.cons (.var 0) .nil))) (.cons (.not (.cmp2 .le .le (.int 0) (.var 2) (.int 200))) .nil))))) (.cons (.rais 2) .nil) .nil) (.cons (.par [(3, false), (4, true)] (.cons (.tup (.cons (.int 0) (.cons (.int 1) .nil))) (.cons (.lst .nil) .nil))) (.cons (.forr (.name 5) (.range1 (.var 2)) (.cons (.asg (.name 3) (.call 1 (.cons (.var 3) (.cons (.var 0) .nil)))) (.cons (.asg (.name 6) (.not (.call 5 (.cons (.var 3) (.cons (.var 1) .nil))))) (.cons (.asg (.name 3) (.ite (.var 6) (.call 2 (.cons (.var 3) (.cons (.var 1) .nil))) (.var 3))) (.cons (.app 4 (.ite (.var 6) (.int 1) (.int 0))) .nil))))) (.cons (.ret (.b1 .tuple (.own 4))) .nil))))
def n26 : List Str := [("volts" : Str), ("top" : Str), ("steps" : Str), ("here" : Str), ("found" : Str), ("turn" : Str), ("is_over" : Str)]
abbrev s26 : Stmt := topS 33
def f26 : Fn := ⟨3, 7, b26⟩
def b27 : ISs := (.cons (.iff (.or (.cons (.cmp .le (.ix (.var 1) (.int 0)) (.int 0)) (.cons (.cmp .lt (.ix (.var 0) (.int 0)) (.int 0)) (.cons (.cmp .lt (.var 2) (.int 1)) (.cons (.cmp .lt (.var 3) (.int 1)) .nil))))) (.cons (.rais 2) .nil) .nil) (.cons (.asg (.name 4) (.call 3 (.cons (.call 4 (.cons (.var 0) (.cons (.var 1) .nil))) (.cons (.tup (.cons (.bop .mul (.var 2) (.var 3)) (.cons (.int 1) .nil))) .nil)))) (.cons (.ret (.bop .fdiv (.ix (.var 4) (.int 0)) (.bop .mul (.ix (.var 4) (.int 1)) (.var 3)))) .nil)))
def n27 : List Str := [("volts" : Str), ("top" : Str), ("up" : Str), ("clock" : Str), ("part" : Str)]
abbrev s27 : Stmt := topS 34
def f27 : Fn := ⟨4, 5, b27⟩
def b28 : ISs := (.cons (.iff (.cmp2 .lt .lt (.bop .sub (.int 0) (.int 10)) (.var 0) (.int 10)) (.cons (.ret (.newl (.cons (.b1 .abs (.var 0)) (.cons (.int 0) (.cons (.int 2) .nil))))) .nil) .nil) (.cons (.ret (.newl (.cons (.var 0) (.cons (.bop .add (.int 1) (.bop .mod (.b1 .int (.var 0)) (.int 1009))) (.cons (.b1 .int (.cmp .ge (.var 0) (.bop .pow (.int 10) (.int 18)))) .nil))))) .nil))
def n28 : List Str := [("cell" : Str)]
abbrev s28 : Stmt := topS 36
def f28 : Fn := ⟨1, 1, b28⟩
def b29 : ISs := (.cons (.iff (.or (.cons (.cmp .eq (.ix (.var 0) (.int 2)) (.int 2)) (.cons (.and (.cons (.cmp .eq (.ix (.var 0) (.int 2)) (.int 1)) (.cons (.cmp .gt (.ix (.var 0) (.int 0)) (.int 0)) .nil))) .nil))) (.cons (.asg (.name 2) (.bop .mod (.b1 .int (.ix (.var 0) (.int 0))) (.var 1))) (.cons (.asg (.rix (.var 0) (.int 0)) (.bop .fdiv (.ix (.var 0) (.int 0)) (.var 1))) (.cons (.ret (.var 2)) .nil))) .nil) (.cons (.asg (.rix (.var 0) (.int 2)) (.int 0)) (.cons (.iff (.cmp .gt (.var 1) (.int 100000000)) (.cons (.ret (.bop .mod (.b1 .int (.bop .add (.bop .mul (.call 29 (.cons (.var 0) (.cons (.bop .add (.bop .fdiv (.var 1) (.int 100000000)) (.int 1)) .nil))) (.int 100000000)) (.call 29 (.cons (.var 0) (.cons (.int 100000000) .nil))))) (.var 1))) .nil) .nil) (.cons (.asg (.rix (.var 0) (.int 0)) (.bop .mod (.b1 .int (.bop .add (.bop .add (.bop .mul (.ix (.var 0) (.int 0)) (.int 48271)) (.bop .mul (.ix (.var 0) (.int 1)) (.int 69621))) (.int 11))) (.int 2147483647))) (.cons (.asg (.rix (.var 0) (.int 1)) (.bop .add (.ix (.var 0) (.int 1)) (.int 1))) (.cons (.ret (.bop .mod (.b1 .int (.bop .fdiv (.ix (.var 0) (.int 0)) (.int 7))) (.var 1))) .nil))))))
def n29 : List Str := [("dice" : Str), ("many" : Str), ("found" : Str)]
abbrev s29 : Stmt := topS 37
def f29 : Fn := ⟨2, 3, b29⟩
def b30 : ISs := (.cons (.asg (.name 2) (.sl (.var 0) .no (.var 1))) (.cons (.iff (.cmp .eq (.var 2) (.lst .nil)) (.cons (.asg (.name 2) (.lst (.cons (.int 0) .nil))) .nil) .nil) (.cons (.ret (.lc [3] (.name 3) (.seq (.var 2)) .nil (.call 28 (.cons (.var 3) .nil)))) .nil)))
def n30 : List Str := [("script" : Str), ("most" : Str), ("cells" : Str), ("cell" : Str)]
abbrev s30 : Stmt := topS 38
def f30 : Fn := ⟨2, 4, b30⟩
def b31 : ISs := (.cons (.ret (.ite (.cmp .eq (.var 1) (.int 0)) (.b1 .abs (.var 0)) (.call 31 (.cons (.var 1) (.cons (.bop .mod (.var 0) (.var 1)) .nil))))) .nil)
def n31 : List Str := [("one" : Str), ("other" : Str)]
abbrev s31 : Stmt := topS 40
def f31 : Fn := ⟨2, 2, b31⟩
def b32 : ISs := (.cons (.asg (.name 2) (.call 31 (.cons (.var 0) (.cons (.var 1) .nil)))) (.cons (.ret (.tup (.cons (.bop .fdiv (.var 0) (.var 2)) (.cons (.bop .fdiv (.var 1) (.var 2)) .nil)))) .nil))
def n32 : List Str := [("one" : Str), ("under" : Str), ("by" : Str)]
abbrev s32 : Stmt := topS 41
def f32 : Fn := ⟨2, 3, b32⟩
def b33 : ISs := (.cons (.ret (.call 32 (.cons (.bop .add (.bop .mul (.ix (.var 0) (.int 0)) (.ix (.var 1) (.int 1))) (.bop .mul (.ix (.var 1) (.int 0)) (.ix (.var 0) (.int 1)))) (.cons (.bop .mul (.ix (.var 0) (.int 1)) (.ix (.var 1) (.int 1))) .nil)))) .nil)
def n33 : List Str := [("one" : Str), ("other" : Str)]
abbrev s33 : Stmt := topS 42
def f33 : Fn := ⟨2, 2, b33⟩
def b34 : ISs := (.cons (.ret (.call 32 (.cons (.bop .mul (.ix (.var 0) (.int 0)) (.ix (.var 1) (.int 0))) (.cons (.bop .mul (.ix (.var 0) (.int 1)) (.ix (.var 1) (.int 1))) .nil)))) .nil)
def n34 : List Str := [("one" : Str), ("other" : Str)]
abbrev s34 : Stmt := topS 43
def f34 : Fn := ⟨2, 2, b34⟩
def b35 : ISs := (.cons (.ret (.cmp .lt (.bop .mul (.ix (.var 0) (.int 0)) (.ix (.var 1) (.int 1))) (.bop .mul (.ix (.var 1) (.int 0)) (.ix (.var 0) (.int 1))))) .nil)
def n35 : List Str := [("one" : Str), ("other" : Str)]
abbrev s35 : Stmt := topS 44
def f35 : Fn := ⟨2, 2, b35⟩
def b36 : ISs := (.cons (.ret (.call 32 (.cons (.bop .add (.int 1) (.call 29 (.cons (.var 0) (.cons (.int 20) .nil)))) (.cons (.bop .add (.int 1) (.call 29 (.cons (.var 0) (.cons (.int 3) .nil)))) .nil)))) .nil)
def n36 : List Str := [("dice" : Str)]
abbrev s36 : Stmt := topS 45
def f36 : Fn := ⟨1, 1, b36⟩
def b37 : ISs := (.cons (.ret (.call 33 (.cons (.var 0) (.cons (.tup (.cons (.neg (.ix (.var 1) (.int 0))) (.cons (.ix (.var 1) (.int 1)) .nil))) .nil)))) .nil)
def n37 : List Str := [("one" : Str), ("other" : Str)]
abbrev s37 : Stmt := topS 46
def f37 : Fn := ⟨2, 2, b37⟩
def b38 : ISs := (.cons (.ret (.call 34 (.cons (.var 0) (.cons (.ite (.cmp .gt (.ix (.var 1) (.int 0)) (.int 0)) (.tup (.cons (.ix (.var 1) (.int 1)) (.cons (.ix (.var 1) (.int 0)) .nil))) (.tup (.cons (.neg (.ix (.var 1) (.int 1))) (.cons (.neg (.ix (.var 1) (.int 0))) .nil)))) .nil)))) .nil)
def n38 : List Str := [("one" : Str), ("other" : Str)]
abbrev s38 : Stmt := topS 47
def f38 : Fn := ⟨2, 2, b38⟩
def b39 : ISs := (.cons (.ret (.ite (.cmp .gt (.var 0) (.int 0)) (.bop .mul (.int 2) (.call 39 (.cons (.bop .sub (.var 0) (.int 1)) .nil))) (.int 1))) .nil)
def n39 : List Str := [("many" : Str)]
abbrev s39 : Stmt := topS 48
def f39 : Fn := ⟨1, 1, b39⟩
def b40 : ISs := (.cons (.ret (.lc [2] (.name 2) (.range1 (.var 1)) .nil (.bop .mod (.bop .fdiv (.var 0) (.call 39 (.cons (.bop .sub (.bop .sub (.var 1) (.int 1)) (.var 2)) .nil))) (.int 2)))) .nil)
def n40 : List Str := [("value" : Str), ("many" : Str), ("k" : Str)]
abbrev s40 : Stmt := topS 49
def f40 : Fn := ⟨2, 3, b40⟩
def b41 : ISs := (.cons (.asg (.name 0) (.lst (.cons (.call 8 (.cons (.int 5) (.cons (.int 4) .nil))) (.cons (.call 9 (.cons (.tup (.cons (.int 1) (.cons (.int 0) (.cons (.int 1) .nil)))) .nil)) (.cons (.call 7 (.cons (.int 8) .nil)) (.cons (.call 10 (.cons (.int 5) (.cons (.int 3) (.cons (.tup (.cons (.int 8) (.cons (.int 1) .nil))) .nil)))) (.cons (.call 11 (.cons (.tup (.cons (.int 1) (.cons (.int 0) (.cons (.int 1) .nil)))) (.cons (.tup (.cons (.int 8) (.cons (.int 1) .nil))) .nil))) .nil))))))) (.cons (.asg (.name 0) (.bop .add (.var 0) (.lst (.cons (.call 12 (.cons (.tup (.cons (.int 1) (.cons (.int 0) .nil))) (.cons (.tup (.cons (.tup (.cons (.int 1) (.cons (.int 1) .nil))) (.cons (.tup (.cons (.int 2) (.cons (.int 1) .nil))) .nil))) (.cons (.tup (.cons (.int 6) (.cons (.int 1) .nil))) .nil)))) (.cons (.call 13 (.cons (.tup (.cons (.int 5) (.cons (.int 2) .nil))) (.cons (.int 3) (.cons (.tup (.cons (.int 8) (.cons (.int 1) .nil))) .nil)))) (.cons (.call 13 (.cons (.tup (.cons (.neg (.int 1)) (.cons (.int 1) .nil))) (.cons (.int 3) (.cons (.tup (.cons (.int 8) (.cons (.int 1) .nil))) .nil)))) .nil)))))) (.cons (.asg (.name 0) (.bop .add (.var 0) (.lst (.cons (.call 13 (.cons (.tup (.cons (.int 99) (.cons (.int 1) .nil))) (.cons (.int 3) (.cons (.tup (.cons (.int 8) (.cons (.int 1) .nil))) .nil)))) (.cons (.call 14 (.cons (.tup (.cons (.int 5) (.cons (.int 2) .nil))) (.cons (.int 3) (.cons (.tup (.cons (.int 8) (.cons (.int 1) .nil))) .nil)))) (.cons (.call 15 (.cons (.tup (.cons (.int 5) (.cons (.int 2) .nil))) (.cons (.int 3) (.cons (.tup (.cons (.int 8) (.cons (.int 1) .nil))) .nil)))) (.cons (.call 15 (.cons (.tup (.cons (.int 99) (.cons (.int 1) .nil))) (.cons (.int 3) (.cons (.tup (.cons (.int 8) (.cons (.int 1) .nil))) .nil)))) .nil))))))) (.cons (.asg (.name 0) (.bop .add (.var 0) (.lst (.cons (.call 15 (.cons (.tup (.cons (.neg (.int 1)) (.cons (.int 1) .nil))) (.cons (.int 3) (.cons (.tup (.cons (.int 8) (.cons (.int 1) .nil))) .nil)))) (.cons (.call 16 (.cons (.int 2) (.cons (.tup (.cons (.int 8) (.cons (.int 1) .nil))) .nil))) (.cons (.call 17 (.cons (.tup (.cons (.int 5) (.cons (.int 1) .nil))) (.cons (.tup (.cons (.tup (.cons (.int 2) (.cons (.int 1) .nil))) (.cons (.tup (.cons (.int 4) (.cons (.int 1) .nil))) (.cons (.tup (.cons (.int 6) (.cons (.int 1) .nil))) .nil)))) .nil))) (.cons (.call 18 (.cons (.tup (.cons (.int 5) (.cons (.int 2) .nil))) (.cons (.int 3) (.cons (.tup (.cons (.int 8) (.cons (.int 1) .nil))) .nil)))) .nil))))))) (.cons (.asg (.name 0) (.bop .add (.var 0) (.lst (.cons (.call 19 (.cons (.tup (.cons (.tup (.cons (.int 0) (.cons (.int 1) .nil))) (.cons (.tup (.cons (.int 1) (.cons (.int 1) .nil))) (.cons (.tup (.cons (.int 3) (.cons (.int 1) .nil))) (.cons (.tup (.cons (.int 4) (.cons (.int 1) .nil))) .nil))))) (.cons (.tup (.cons (.int 4) (.cons (.int 1) .nil))) .nil))) (.cons (.call 20 (.cons (.tup (.cons (.int 1) (.cons (.int 2) .nil))) (.cons (.tup (.cons (.neg (.int 2)) (.cons (.int 3) .nil))) .nil))) (.cons (.call 21 (.cons (.tup (.cons (.tup (.cons (.int 0) (.cons (.int 1) .nil))) (.cons (.tup (.cons (.int 1) (.cons (.int 1) .nil))) .nil))) .nil)) (.cons (.call 21 (.cons (.tup (.cons (.tup (.cons (.int 1) (.cons (.int 1) .nil))) (.cons (.tup (.cons (.int 0) (.cons (.int 1) .nil))) .nil))) .nil)) .nil))))))) (.cons (.asg (.name 0) (.bop .add (.var 0) (.lst (.cons (.call 22 (.cons (.int 6) .nil)) (.cons (.call 24 (.cons (.int 5) .nil)) (.cons (.call 23 (.cons (.int 6) (.cons (.int 3) .nil))) (.cons (.call 25 (.cons (.int 5) (.cons (.int 3) .nil))) (.cons (.call 25 (.cons (.int 3) (.cons (.int 3) .nil))) (.cons (.call 26 (.cons (.tup (.cons (.int 3) (.cons (.int 1) .nil))) (.cons (.tup (.cons (.int 8) (.cons (.int 1) .nil))) (.cons (.int 8) .nil)))) .nil))))))))) (.cons (.asg (.name 0) (.bop .add (.var 0) (.lst (.cons (.call 27 (.cons (.tup (.cons (.int 3) (.cons (.int 1) .nil))) (.cons (.tup (.cons (.int 8) (.cons (.int 1) .nil))) (.cons (.int 16) (.cons (.int 2) .nil))))) (.cons (.call 6 (.cons (.int 3) .nil)) .nil))))) (.cons (.asg (.name 1) (.lst (.cons (.lamv 4) (.cons (.lamv 3) (.cons (.lamv 2) (.cons (.lamv 1) (.cons (.lamv 0) .nil))))))) (.cons (.asg (.name 1) (.bop .add (.var 1) (.lst (.cons (.lamv 9) (.cons (.lamv 8) (.cons (.lamv 7) (.cons (.lamv 6) (.cons (.lamv 5) .nil)))))))) (.cons (.asg (.name 1) (.bop .add (.var 1) (.lst (.cons (.lamv 14) (.cons (.lamv 13) (.cons (.lamv 12) (.cons (.lamv 11) (.cons (.lamv 10) .nil)))))))) (.cons (.asg (.name 1) (.bop .add (.var 1) (.lst (.cons (.lamv 19) (.cons (.lamv 18) (.cons (.lamv 17) (.cons (.lamv 16) (.cons (.lamv 15) .nil)))))))) (.cons (.asg (.name 1) (.bop .add (.var 1) (.lst (.cons (.lamv 24) (.cons (.lamv 23) (.cons (.lamv 22) (.cons (.lamv 21) (.cons (.lamv 20) .nil)))))))) (.cons (.iff (.or (.cons (.cmp .ne (.lc [2, 3] (.pair (.name 2) (.name 3)) (.enum (.var 1)) (.cons (.cmp .ne (.toldv 0 (.var 3)) (.str (PySem.Str.ofString "TurnError"))) .nil) (.var 2)) (.lst .nil)) (.cons (.cmp .ne (.glob 0) (.int 16)) .nil))) (.cons (.ret (.bl false)) .nil) .nil) (.cons (.asg (.name 4) (.lst (.cons (.tup (.cons (.int 0) (.cons (.int 1) (.cons (.int 0) (.cons (.int 1) .nil))))) (.cons (.int 5) (.cons (.int 256) (.cons (.tup (.cons (.int 5) (.cons (.int 1) .nil))) (.cons (.tup (.cons (.int 5) (.cons (.int 1) .nil))) (.cons (.tup (.cons (.int 4) (.cons (.int 1) .nil))) (.cons (.int 2) (.cons (.int 0) (.cons (.int 7) (.cons (.tup (.cons (.tup (.cons (.int 4) (.cons (.int 0) .nil))) (.cons (.tup (.cons (.int 2) (.cons (.int 1) .nil))) (.cons (.tup (.cons (.int 3) (.cons (.int 0) .nil))) .nil)))) (.cons (.int 3) (.cons (.int 8) (.cons (.int 0) (.cons (.tup (.cons (.tup (.cons (.int 2) (.cons (.int 1) .nil))) (.cons (.tup (.cons (.int 4) (.cons (.int 1) .nil))) (.cons (.tup (.cons (.int 6) (.cons (.int 1) .nil))) .nil)))) (.cons (.int 2) (.cons (.tup (.cons (.int 0) (.cons (.int 1) .nil))) (.cons (.tup (.cons (.tup (.cons (.int 1) (.cons (.int 2) .nil))) (.cons (.tup (.cons (.int 1) (.cons (.int 4) .nil))) .nil))) (.cons (.tup (.cons (.int 2) (.cons (.int 3) .nil))) (.cons (.bl true) (.cons (.bl false) (.cons (.int 5) (.cons (.int 6) (.cons (.int 5) (.cons (.neg (.int 3)) (.cons (.int 3) (.cons (.tup (.cons (.int 0) (.cons (.int 0) (.cons (.int 1) (.cons (.int 0) (.cons (.int 0) (.cons (.int 1) (.cons (.int 0) (.cons (.int 1) .nil))))))))) (.cons (.int 6) (.cons .non .nil)))))))))))))))))))))))))))))) (.cons (.ret (.cmp .eq (.var 0) (.var 4))) .nil)))))))))))))))
def n41 : List Str := [("told" : Str), ("bad" : Str), ("k" : Str), ("f" : Str), ("due" : Str)]
abbrev s41 : Stmt := topS 50
def f41 : Fn := ⟨0, 5, b41⟩
def b42 : ISs := (.cons (.par [(2, false), (3, false)] (.cons (.call 29 (.cons (.var 0) (.cons (.int 5000) .nil))) (.cons (.call 29 (.cons (.var 0) (.cons (.int 5000) .nil))) .nil))) (.cons (.par [(4, false), (5, false)] (.cons (.call 40 (.cons (.var 2) (.cons (.int 13) .nil))) (.cons (.call 40 (.cons (.var 3) (.cons (.int 13) .nil))) .nil))) (.cons (.asg (.name 6) (.b1 .sum (.lc [7] (.name 7) (.range1 (.int 13)) (.cons (.cmp .ne (.ix (.var 4) (.var 7)) (.ix (.var 5) (.var 7))) .nil) (.call 39 (.cons (.bop .sub (.int 12) (.var 7)) .nil))))) (.cons (.asg (.name 8) (.lc [7] (.name 7) (.range1 (.int 14)) (.cons (.cmp .ne (.ix (.call 40 (.cons (.call 22 (.cons (.var 2) .nil)) (.cons (.int 14) .nil))) (.var 7)) (.ix (.call 40 (.cons (.call 22 (.cons (.bop .add (.var 2) (.int 1)) .nil)) (.cons (.int 14) .nil))) (.var 7))) .nil) (.var 7))) (.cons (.iff (.or (.cons (.cmp .ne (.call 23 (.cons (.var 2) (.cons (.var 3) .nil))) (.var 6)) (.cons (.cmp .ne (.b1 .len (.var 8)) (.int 1)) (.cons (.cmp .ne (.call 24 (.cons (.call 22 (.cons (.var 2) .nil)) .nil)) (.var 2)) (.cons (.cmp .ne (.call 22 (.cons (.call 24 (.cons (.var 3) .nil)) .nil)) (.var 3)) .nil))))) (.cons (.ret (.bl false)) .nil) .nil) (.cons (.par [(9, false), (10, false)] (.cons (.call 29 (.cons (.var 0) (.cons (.int 30) .nil))) (.cons (.call 34 (.cons (.var 1) (.cons (.call 32 (.cons (.call 29 (.cons (.var 0) (.cons (.int 9) .nil))) (.cons (.int 8) .nil))) .nil))) .nil))) (.cons (.asg (.name 11) (.lc [7] (.name 7) (.range1 (.bop .add (.var 9) (.int 1))) .nil (.call 34 (.cons (.var 10) (.cons (.tup (.cons (.var 7) (.cons (.int 1) .nil))) .nil))))) (.cons (.asg (.name 12) (.lc [13] (.name 13) (.seq (.var 11)) .nil (.bop .fdiv (.ix (.call 38 (.cons (.var 13) (.cons (.var 1) .nil))) (.int 0)) (.ix (.call 38 (.cons (.var 13) (.cons (.var 1) .nil))) (.int 1))))) (.cons (.par [(14, false), (15, false)] (.cons (.bop .add (.int 1) (.call 29 (.cons (.var 0) (.cons (.int 60) .nil)))) (.cons (.bop .add (.int 1) (.call 29 (.cons (.var 0) (.cons (.int 5) .nil)))) .nil))) (.cons (.asg (.name 16) (.call 34 (.cons (.call 38 (.cons (.var 10) (.cons (.var 1) .nil))) (.cons (.tup (.cons (.var 14) (.cons (.int 1) .nil))) .nil)))) (.cons (.iff (.or (.cons (.cmp .ne (.b1 .list (.call 26 (.cons (.var 10) (.cons (.var 1) (.cons (.var 9) .nil))))) (.lc [7] (.name 7) (.range1 (.var 9)) .nil (.bop .sub (.ix (.var 12) (.bop .add (.var 7) (.int 1))) (.ix (.var 12) (.var 7))))) (.cons (.cmp .ne (.call 27 (.cons (.var 10) (.cons (.var 1) (.cons (.var 14) (.cons (.var 15) .nil))))) (.bop .fdiv (.ix (.var 16) (.int 0)) (.ix (.var 16) (.int 1)))) .nil))) (.cons (.ret (.bl false)) .nil) .nil) (.cons (.ret (.bl true)) .nil))))))))))))
def n42 : List Str := [("dice" : Str), ("top" : Str), ("number" : Str), ("other" : Str), ("left" : Str), ("right" : Str), ("mixed" : Str), ("k" : Str), ("change" : Str), ("steps" : Str), ("part" : Str), ("ones" : Str), ("counts" : Str), ("one" : Str), ("up" : Str), ("clock" : Str), ("down" : Str)]
abbrev s42 : Stmt := topS 51
def f42 : Fn := ⟨2, 17, b42⟩
def b43 : ISs := (.cons (.forr (.name 1) (.seq (.call 30 (.cons (.var 0) (.cons (.int 1) .nil)))) (.cons (.asg (.name 2) (.bop .add (.int 1) (.call 29 (.cons (.var 1) (.cons (.int 7) .nil))))) (.cons (.asg (.name 3) (.call 39 (.cons (.var 2) .nil))) (.cons (.par [(17, false), (18, false)] (.cons (.call 29 (.cons (.var 1) (.cons (.var 3) .nil))) (.cons (.call 36 (.cons (.var 1) .nil)) .nil))) (.cons (.asg (.name 4) (.call 40 (.cons (.var 17) (.cons (.var 2) .nil)))) (.cons (.asg (.name 5) (.call 34 (.cons (.var 18) (.cons (.tup (.cons (.int 1) (.cons (.var 3) .nil))) .nil)))) (.cons (.iff (.or (.cons (.cmp .ne (.b1 .list (.call 8 (.cons (.var 17) (.cons (.var 2) .nil)))) (.var 4)) (.cons (.cmp .ne (.call 9 (.cons (.var 4) .nil)) (.var 17)) (.cons (.cmp .ne (.call 7 (.cons (.var 2) .nil)) (.var 3)) (.cons (.cmp .ne (.call 10 (.cons (.var 17) (.cons (.var 2) (.cons (.var 18) .nil)))) (.call 34 (.cons (.var 5) (.cons (.tup (.cons (.var 17) (.cons (.int 1) .nil))) .nil)))) (.cons (.cmp .ne (.call 11 (.cons (.var 4) (.cons (.var 18) .nil))) (.call 34 (.cons (.var 5) (.cons (.tup (.cons (.var 17) (.cons (.int 1) .nil))) .nil)))) (.cons (.cmp .ne (.call 25 (.cons (.var 17) (.cons (.var 2) .nil))) (.bop .sub (.var 17) (.bop .mul (.var 3) (.ix (.var 4) (.int 0))))) .nil))))))) (.cons (.ret (.bl false)) .nil) .nil) (.cons (.par [(19, false), (20, false), (21, false)] (.cons (.lc [31] (.name 31) (.seq (.var 4)) .nil (.call 36 (.cons (.var 1) .nil))) (.cons (.tup (.cons (.int 0) (.cons (.int 1) .nil))) (.cons (.tup (.cons (.int 0) (.cons (.int 1) .nil))) .nil)))) (.cons (.forr (.name 6) (.range1 (.var 2)) (.cons (.asg (.name 21) (.call 33 (.cons (.var 21) (.cons (.tup (.cons (.ix (.ix (.var 19) (.var 6)) (.int 1)) (.cons (.ix (.ix (.var 19) (.var 6)) (.int 0)) .nil))) .nil)))) (.cons (.asg (.name 20) (.ite (.cmp .eq (.ix (.var 4) (.var 6)) (.int 1)) (.call 33 (.cons (.var 20) (.cons (.tup (.cons (.ix (.ix (.var 19) (.var 6)) (.int 1)) (.cons (.ix (.ix (.var 19) (.var 6)) (.int 0)) .nil))) .nil))) (.var 20))) .nil))) (.cons (.asg (.name 7) (.lc [6] (.name 6) (.range1 (.var 2)) .nil (.call 32 (.cons (.call 39 (.cons (.var 6) .nil)) (.cons (.int 1) .nil))))) (.cons (.iff (.or (.cons (.cmp .ne (.call 12 (.cons (.var 4) (.cons (.var 19) (.cons (.var 18) .nil)))) (.call 34 (.cons (.var 18) (.cons (.call 38 (.cons (.var 20) (.cons (.var 21) .nil))) .nil)))) (.cons (.cmp .ne (.call 12 (.cons (.var 4) (.cons (.var 7) (.cons (.var 18) .nil)))) (.call 34 (.cons (.var 18) (.cons (.call 32 (.cons (.var 17) (.cons (.bop .sub (.var 3) (.int 1)) .nil))) .nil)))) .nil))) (.cons (.ret (.bl false)) .nil) .nil) (.cons (.asg (.name 8) (.call 34 (.cons (.var 18) (.cons (.call 32 (.cons (.bop .sub (.call 29 (.cons (.var 1) (.cons (.int 60) .nil))) (.int 10)) (.cons (.int 40) .nil))) .nil)))) (.cons (.asg (.name 9) (.lc [6] (.name 6) (.range1 (.var 3)) (.cons (.not (.call 35 (.cons (.var 8) (.cons (.call 34 (.cons (.var 5) (.cons (.tup (.cons (.var 6) (.cons (.int 1) .nil))) .nil))) .nil)))) .nil) (.var 6))) (.cons (.asg (.name 10) (.ite (.cmp .ne (.var 9) (.lst .nil)) (.ix (.var 9) (.neg (.int 1))) (.int 0))) (.cons (.par [(22, false), (23, false)] (.cons (.lst .nil) (.cons (.int 0) .nil))) (.cons (.forr (.name 6) (.range1 (.var 2)) (.cons (.asg (.name 24) (.bop .add (.var 23) (.call 39 (.cons (.bop .sub (.bop .sub (.var 2) (.int 1)) (.var 6)) .nil)))) (.cons (.asg (.name 25) (.not (.call 35 (.cons (.var 8) (.cons (.call 34 (.cons (.var 5) (.cons (.tup (.cons (.var 24) (.cons (.int 1) .nil))) .nil))) .nil))))) (.cons (.par [(22, false), (23, false)] (.cons (.bop .add (.var 22) (.lst (.cons (.tup (.cons (.var 24) (.cons (.b1 .int (.var 25)) .nil))) .nil))) (.cons (.ite (.var 25) (.var 24) (.var 23)) .nil))) .nil)))) (.cons (.asg (.name 11) (.lc [6] (.name 6) (.range1 (.var 3)) (.cons (.call 35 (.cons (.var 8) (.cons (.call 34 (.cons (.var 5) (.cons (.tup (.cons (.var 6) (.cons (.int 1) .nil))) .nil))) .nil))) .nil) (.var 6))) (.cons (.asg (.name 12) (.call 34 (.cons (.var 5) (.cons (.tup (.cons (.bop .add (.bop .mul (.int 2) (.var 10)) (.int 1)) (.cons (.int 2) .nil))) .nil)))) (.cons (.iff (.or (.cons (.cmp .ne (.call 13 (.cons (.var 8) (.cons (.var 2) (.cons (.var 18) .nil)))) (.var 10)) (.cons (.cmp .ne (.b1 .list (.call 14 (.cons (.var 8) (.cons (.var 2) (.cons (.var 18) .nil))))) (.var 22)) (.cons (.cmp .ne (.var 23) (.var 10)) (.cons (.cmp .ne (.call 15 (.cons (.var 8) (.cons (.var 2) (.cons (.var 18) .nil)))) (.ix (.bop .add (.var 11) (.lst (.cons (.var 3) .nil))) (.int 0))) (.cons (.cmp .ne (.call 18 (.cons (.var 8) (.cons (.var 2) (.cons (.var 18) .nil)))) (.call 37 (.cons (.var 8) (.cons (.var 12) .nil)))) .nil)))))) (.cons (.ret (.bl false)) .nil) .nil) (.cons (.asg (.name 13) (.lc [6] (.name 6) (.range2 (.int 1) (.var 3)) .nil (.call 34 (.cons (.var 5) (.cons (.tup (.cons (.var 6) (.cons (.int 1) .nil))) .nil))))) (.cons (.iff (.or (.cons (.cmp .ne (.b1 .list (.call 16 (.cons (.var 2) (.cons (.var 18) .nil)))) (.var 13)) (.cons (.cmp .ne (.call 17 (.cons (.var 8) (.cons (.var 13) .nil))) (.b1 .len (.lc [32] (.name 32) (.seq (.var 13)) (.cons (.not (.call 35 (.cons (.var 8) (.cons (.var 32) .nil)))) .nil) (.var 32)))) .nil))) (.cons (.ret (.bl false)) .nil) .nil) (.cons (.par [(26, false), (23, false)] (.cons (.lst (.cons (.tup (.cons (.int 0) (.cons (.int 1) .nil))) .nil)) (.cons (.tup (.cons (.int 0) (.cons (.int 1) .nil))) .nil))) (.cons (.forr (.name 6) (.range1 (.bop .add (.int 1) (.call 29 (.cons (.var 1) (.cons (.int 5) .nil))))) (.cons (.asg (.name 23) (.call 33 (.cons (.var 23) (.cons (.call 32 (.cons (.bop .sub (.call 29 (.cons (.var 1) (.cons (.int 7) .nil))) (.int 1)) (.cons (.int 2) .nil))) .nil)))) (.cons (.asg (.name 26) (.bop .add (.var 26) (.lst (.cons (.var 23) .nil)))) .nil))) (.cons (.asg (.name 14) (.call 34 (.cons (.call 37 (.cons (.ix (.var 26) (.neg (.int 1))) (.cons (.ix (.var 26) (.int 0)) .nil))) (.cons (.tup (.cons (.int 1) (.cons (.bop .sub (.b1 .len (.var 26)) (.int 1)) .nil))) .nil)))) (.cons (.asg (.name 15) (.cmp .eq (.lc [6] (.name 6) (.range1 (.bop .sub (.b1 .len (.var 26)) (.int 1))) (.cons (.call 35 (.cons (.ix (.var 26) (.bop .add (.var 6) (.int 1))) (.cons (.ix (.var 26) (.var 6)) .nil))) .nil) (.var 6)) (.lst .nil))) (.cons (.asg (.name 16) (.told 0 (.call 19 (.cons (.var 26) (.cons (.var 18) .nil))))) (.cons (.iff (.or (.cons (.cmp .ne (.call 21 (.cons (.var 26) .nil)) (.var 15)) (.cons (.cmp .ne (.cmp .eq (.var 16) (.str (PySem.Str.ofString "TurnError"))) (.cmp .eq (.ix (.var 14) (.int 0)) (.int 0))) .nil))) (.cons (.ret (.bl false)) .nil) .nil) (.cons (.iff (.cmp .ne (.ix (.var 14) (.int 0)) (.int 0)) (.cons (.par [(27, false), (28, false)] (.cons (.lst (.cons (.tup (.cons (.int 0) (.cons (.int 1) .nil))) .nil)) (.cons (.lst (.cons (.tup (.cons (.int 0) (.cons (.int 1) .nil))) .nil)) .nil))) (.cons (.forr (.name 6) (.range2 (.int 1) (.b1 .len (.var 26))) (.cons (.asg (.name 29) (.call 38 (.cons (.call 37 (.cons (.call 37 (.cons (.ix (.var 26) (.var 6)) (.cons (.ix (.var 26) (.bop .sub (.var 6) (.int 1))) .nil))) (.cons (.var 14) .nil))) (.cons (.var 14) .nil)))) (.cons (.asg (.name 30) (.call 38 (.cons (.call 37 (.cons (.ix (.var 26) (.var 6)) (.cons (.call 33 (.cons (.ix (.var 26) (.int 0)) (.cons (.call 34 (.cons (.var 14) (.cons (.tup (.cons (.var 6) (.cons (.int 1) .nil))) .nil))) .nil))) .nil))) (.cons (.var 14) .nil)))) (.cons (.par [(27, false), (28, false)] (.cons (.bop .add (.var 27) (.lst (.cons (.tup (.cons (.b1 .abs (.ix (.var 29) (.int 0))) (.cons (.ix (.var 29) (.int 1)) .nil))) .nil))) (.cons (.bop .add (.var 28) (.lst (.cons (.tup (.cons (.b1 .abs (.ix (.var 30) (.int 0))) (.cons (.ix (.var 30) (.int 1)) .nil))) .nil))) .nil))) .nil)))) (.cons (.iff (.cmp .ne (.var 16) (.b1 .tuple (.lc [33] (.name 33) (.seq (.lst (.cons (.var 27) (.cons (.var 28) .nil)))) .nil (.ix (.lc [34] (.name 34) (.seq (.var 33)) (.cons (.cmp .eq (.lc [35] (.name 35) (.seq (.var 33)) (.cons (.call 35 (.cons (.var 34) (.cons (.var 35) .nil))) .nil) (.var 35)) (.lst .nil)) .nil) (.var 34)) (.int 0))))) (.cons (.ret (.bl false)) .nil) .nil) .nil))) .nil) (.cons (.iff (.not (.call 42 (.cons (.var 1) (.cons (.var 18) .nil)))) (.cons (.ret (.bl false)) .nil) .nil) .nil))))))))))))))))))))))))))))) (.cons (.ret (.call 41 .nil)) .nil))
def n43 : List Str := [("script" : Str), ("dice" : Str), ("many" : Str), ("whole" : Str), ("bits" : Str), ("step" : Str), ("k" : Str), ("even" : Str), ("volts" : Str), ("fits" : Str), ("read" : Str), ("over" : Str), ("middle" : Str), ("levels" : Str), ("gap" : Str), ("rises" : Str), ("told" : Str), ("value" : Str), ("top" : Str), ("parts" : Str), ("ups" : Str), ("alls" : Str), ("tries" : Str), ("here" : Str), ("more" : Str), ("good" : Str), ("made" : Str), ("offs" : Str), ("fars" : Str), ("off" : Str), ("far" : Str), ("bit" : Str), ("level" : Str), ("row" : Str), ("one" : Str), ("two" : Str)]
abbrev s43 : Stmt := topS 52
def f43 : Fn := ⟨1, 36, b43⟩
def fns : List Fn := [f0, f1, f2, f3, f4, f5, f6, f7, f8, f9, f10, f11, f12, f13, f14, f15, f16, f17, f18, f19, f20, f21, f22, f23, f24, f25, f26, f27, f28, f29, f30, f31, f32, f33, f34, f35, f36, f37, f38, f39, f40, f41, f42, f43]
def nm : Nm := ⟨[("MOST_BITS" : Str)], [("plain" : Str), ("added" : Str), ("less" : Str), ("times" : Str), ("parted" : Str), ("is_less" : Str), ("check_bits" : Str), ("steps_of" : Str), ("bits_of" : Str), ("value_of_bits" : Str), ("made_volts" : Str), ("ladder_volts" : Str), ("weighted_volts" : Str), ("read_volts" : Str), ("searched" : Str), ("counted" : Str), ("marks" : Str), ("flash" : Str), ("off_by" : Str), ("worst_steps" : Str), ("greater" : Str), ("is_rising" : Str), ("one_change" : Str), ("crossed" : Str), ("from_one_change" : Str), ("two_sided" : Str), ("summed_bits" : Str), ("two_slopes" : Str), ("_law_dice" : Str), ("_law_roll" : Str), ("_law_rounds" : Str), ("_law_gcd" : Str), ("_law_share" : Str), ("_law_add" : Str), ("_law_mul" : Str), ("_law_less" : Str), ("_law_one" : Str), ("_law_minus" : Str), ("_law_by" : Str), ("_law_two" : Str), ("_law_bits" : Str), ("_law_plain" : Str), ("_law_rest" : Str), ("law" : Str)], [("CircuitFault" : Str), ("ShareError" : Str), ("TurnError" : Str)], [("_law_told" : Str)], none, fun _ _ _ _ => false⟩
def lams : Nat → IE := fun k => ([(.call 9 (.cons (.tup .nil) .nil)), (.call 8 (.cons (.neg (.int 1)) (.cons (.int 3) .nil))), (.call 8 (.cons (.int 8) (.cons (.int 3) .nil))), (.call 6 (.cons (.int 17) .nil)), (.call 6 (.cons (.int 0) .nil)), (.call 12 (.cons (.tup (.cons (.int 1) .nil)) (.cons (.tup (.cons (.tup (.cons (.int 0) (.cons (.int 1) .nil))) .nil)) (.cons (.tup (.cons (.int 1) (.cons (.int 1) .nil))) .nil)))), (.call 12 (.cons (.tup (.cons (.int 1) .nil)) (.cons (.tup .nil) (.cons (.tup (.cons (.int 1) (.cons (.int 1) .nil))) .nil)))), (.call 11 (.cons (.tup .nil) (.cons (.tup (.cons (.int 1) (.cons (.int 1) .nil))) .nil))), (.call 10 (.cons (.int 9) (.cons (.int 3) (.cons (.tup (.cons (.int 1) (.cons (.int 1) .nil))) .nil)))), (.call 9 (.cons (.tup (.cons (.int 2) .nil)) .nil)), (.call 17 (.cons (.tup (.cons (.int 1) (.cons (.int 1) .nil))) (.cons (.tup (.cons (.tup (.cons (.int 1) (.cons (.int 1) .nil))) (.cons (.tup (.cons (.int 1) (.cons (.int 1) .nil))) .nil))) .nil))), (.call 16 (.cons (.int 9) (.cons (.tup (.cons (.int 1) (.cons (.int 1) .nil))) .nil))), (.call 15 (.cons (.tup (.cons (.int 1) (.cons (.int 1) .nil))) (.cons (.int 3) (.cons (.tup (.cons (.int 0) (.cons (.int 1) .nil))) .nil)))), (.call 14 (.cons (.tup (.cons (.int 1) (.cons (.int 1) .nil))) (.cons (.int 3) (.cons (.tup (.cons (.int 0) (.cons (.int 1) .nil))) .nil)))), (.call 13 (.cons (.tup (.cons (.int 1) (.cons (.int 1) .nil))) (.cons (.int 3) (.cons (.tup (.cons (.int 0) (.cons (.int 1) .nil))) .nil)))), (.call 22 (.cons (.neg (.int 1)) .nil)), (.call 19 (.cons (.tup (.cons (.tup (.cons (.int 0) (.cons (.int 1) .nil))) (.cons (.tup (.cons (.int 1) (.cons (.int 1) .nil))) .nil))) (.cons (.tup (.cons (.int 0) (.cons (.int 1) .nil))) .nil))), (.call 19 (.cons (.tup (.cons (.tup (.cons (.int 0) (.cons (.int 1) .nil))) (.cons (.tup (.cons (.int 0) (.cons (.int 1) .nil))) .nil))) (.cons (.tup (.cons (.int 1) (.cons (.int 1) .nil))) .nil))), (.call 19 (.cons (.tup (.cons (.tup (.cons (.int 0) (.cons (.int 1) .nil))) .nil)) (.cons (.tup (.cons (.int 1) (.cons (.int 1) .nil))) .nil))), (.call 18 (.cons (.tup (.cons (.int 1) (.cons (.int 1) .nil))) (.cons (.int 0) (.cons (.tup (.cons (.int 1) (.cons (.int 1) .nil))) .nil)))), (.call 27 (.cons (.tup (.cons (.int 1) (.cons (.int 1) .nil))) (.cons (.tup (.cons (.int 0) (.cons (.int 1) .nil))) (.cons (.int 1) (.cons (.int 1) .nil))))), (.call 26 (.cons (.tup (.cons (.int 1) (.cons (.int 1) .nil))) (.cons (.tup (.cons (.int 8) (.cons (.int 1) .nil))) (.cons (.int 201) .nil)))), (.call 26 (.cons (.tup (.cons (.int 9) (.cons (.int 1) .nil))) (.cons (.tup (.cons (.int 8) (.cons (.int 1) .nil))) (.cons (.int 1) .nil)))), (.call 25 (.cons (.int 9) (.cons (.int 3) .nil))), (.call 24 (.cons (.neg (.int 1)) .nil))] : List IE).getD k .no
def lmB (n : Nat) (a : Arguments) (b : Expr) (s : Scope) : Bool := decide (n < 25) && (noArgs a && (closedB s && (sf (lams n) && mtE nm [] s (lams n) b)))
def lev : Nat := 230
def fuel : Nat := 20000
def prg : Prg := ⟨[.int 16], fun k => if k = 0 then some (2, "TurnError") else none, fun a b => a == b, lams, 44⟩
def fnsA : List Fn := fns ++ [⟨0, 0, .cons (.ret (lams 0)) .nil⟩, ⟨0, 0, .cons (.ret (lams 1)) .nil⟩, ⟨0, 0, .cons (.ret (lams 2)) .nil⟩, ⟨0, 0, .cons (.ret (lams 3)) .nil⟩, ⟨0, 0, .cons (.ret (lams 4)) .nil⟩, ⟨0, 0, .cons (.ret (lams 5)) .nil⟩, ⟨0, 0, .cons (.ret (lams 6)) .nil⟩, ⟨0, 0, .cons (.ret (lams 7)) .nil⟩, ⟨0, 0, .cons (.ret (lams 8)) .nil⟩, ⟨0, 0, .cons (.ret (lams 9)) .nil⟩, ⟨0, 0, .cons (.ret (lams 10)) .nil⟩, ⟨0, 0, .cons (.ret (lams 11)) .nil⟩, ⟨0, 0, .cons (.ret (lams 12)) .nil⟩, ⟨0, 0, .cons (.ret (lams 13)) .nil⟩, ⟨0, 0, .cons (.ret (lams 14)) .nil⟩, ⟨0, 0, .cons (.ret (lams 15)) .nil⟩, ⟨0, 0, .cons (.ret (lams 16)) .nil⟩, ⟨0, 0, .cons (.ret (lams 17)) .nil⟩, ⟨0, 0, .cons (.ret (lams 18)) .nil⟩, ⟨0, 0, .cons (.ret (lams 19)) .nil⟩, ⟨0, 0, .cons (.ret (lams 20)) .nil⟩, ⟨0, 0, .cons (.ret (lams 21)) .nil⟩, ⟨0, 0, .cons (.ret (lams 22)) .nil⟩, ⟨0, 0, .cons (.ret (lams 23)) .nil⟩, ⟨0, 0, .cons (.ret (lams 24)) .nil⟩]
-- plain
theorem m0 : mtSs { nm with tb := none, lm := lmB } n0 (L2.defScope s0) b0 (L2.defBody s0) = true := by decide +kernel
-- added
theorem m1 : mtSs { nm with tb := none, lm := lmB } n1 (L2.defScope s1) b1 (L2.defBody s1) = true := by decide +kernel
-- less
theorem m2 : mtSs { nm with tb := none, lm := lmB } n2 (L2.defScope s2) b2 (L2.defBody s2) = true := by decide +kernel
-- times
theorem m3 : mtSs { nm with tb := none, lm := lmB } n3 (L2.defScope s3) b3 (L2.defBody s3) = true := by decide +kernel
-- parted
theorem m4 : mtSs { nm with tb := none, lm := lmB } n4 (L2.defScope s4) b4 (L2.defBody s4) = true := by decide +kernel
-- is_less
theorem m5 : mtSs { nm with tb := none, lm := lmB } n5 (L2.defScope s5) b5 (L2.defBody s5) = true := by decide +kernel
-- check_bits
theorem m6 : mtSs { nm with tb := none, lm := lmB } n6 (L2.defScope s6) b6 (L2.defBody s6) = true := by decide +kernel
-- steps_of
theorem m7 : mtSs { nm with tb := none, lm := lmB } n7 (L2.defScope s7) b7 (L2.defBody s7) = true := by decide +kernel
-- bits_of
theorem m8 : mtSs { nm with tb := none, lm := lmB } n8 (L2.defScope s8) b8 (L2.defBody s8) = true := by decide +kernel
-- value_of_bits
theorem m9 : mtSs { nm with tb := none, lm := lmB } n9 (L2.defScope s9) b9 (L2.defBody s9) = true := by decide +kernel
-- made_volts
theorem m10 : mtSs { nm with tb := none, lm := lmB } n10 (L2.defScope s10) b10 (L2.defBody s10) = true := by decide +kernel
-- ladder_volts
theorem m11 : mtSs { nm with tb := none, lm := lmB } n11 (L2.defScope s11) b11 (L2.defBody s11) = true := by decide +kernel
-- weighted_volts
theorem m12 : mtSs { nm with tb := some false, lm := lmB } n12 (L2.defScope s12) b12 (L2.defBody s12) = true := by decide +kernel
-- read_volts
theorem m13 : mtSs { nm with tb := none, lm := lmB } n13 (L2.defScope s13) b13 (L2.defBody s13) = true := by decide +kernel
-- searched
theorem m14 : mtSs { nm with tb := none, lm := lmB } n14 (L2.defScope s14) b14 (L2.defBody s14) = true := by decide +kernel
-- counted
theorem m15 : mtSs { nm with tb := none, lm := lmB } n15 (L2.defScope s15) b15 (L2.defBody s15) = true := by decide +kernel
-- marks
theorem m16 : mtSs { nm with tb := some false, lm := lmB } n16 (L2.defScope s16) b16 (L2.defBody s16) = true := by decide +kernel
-- flash
theorem m17 : mtSs { nm with tb := some false, lm := lmB } n17 (L2.defScope s17) b17 (L2.defBody s17) = true := by decide +kernel
-- off_by
theorem m18 : mtSs { nm with tb := none, lm := lmB } n18 (L2.defScope s18) b18 (L2.defBody s18) = true := by decide +kernel
-- worst_steps
theorem m19 : mtSs { nm with tb := none, lm := lmB } n19 (L2.defScope s19) b19 (L2.defBody s19) = true := by decide +kernel
-- greater
theorem m20 : mtSs { nm with tb := none, lm := lmB } n20 (L2.defScope s20) b20 (L2.defBody s20) = true := by decide +kernel
-- is_rising
theorem m21 : mtSs { nm with tb := some false, lm := lmB } n21 (L2.defScope s21) b21 (L2.defBody s21) = true := by decide +kernel
-- one_change
theorem m22 : mtSs { nm with tb := none, lm := lmB } n22 (L2.defScope s22) b22 (L2.defBody s22) = true := by decide +kernel
-- crossed
theorem m23 : mtSs { nm with tb := none, lm := lmB } n23 (L2.defScope s23) b23 (L2.defBody s23) = true := by decide +kernel
-- from_one_change
theorem m24 : mtSs { nm with tb := none, lm := lmB } n24 (L2.defScope s24) b24 (L2.defBody s24) = true := by decide +kernel
-- two_sided
theorem m25 : mtSs { nm with tb := none, lm := lmB } n25 (L2.defScope s25) b25 (L2.defBody s25) = true := by decide +kernel
-- summed_bits
theorem m26 : mtSs { nm with tb := none, lm := lmB } n26 (L2.defScope s26) b26 (L2.defBody s26) = true := by decide +kernel
-- two_slopes
theorem m27 : mtSs { nm with tb := none, lm := lmB } n27 (L2.defScope s27) b27 (L2.defBody s27) = true := by decide +kernel
-- _law_dice
theorem m28 : mtSs { nm with tb := none, lm := lmB } n28 (L2.defScope s28) b28 (L2.defBody s28) = true := by decide +kernel
-- _law_roll
theorem m29 : mtSs { nm with tb := none, lm := lmB } n29 (L2.defScope s29) b29 (L2.defBody s29) = true := by decide +kernel
-- _law_rounds
theorem m30 : mtSs { nm with tb := none, lm := lmB } n30 (L2.defScope s30) b30 (L2.defBody s30) = true := by decide +kernel
-- _law_gcd
theorem m31 : mtSs { nm with tb := none, lm := lmB } n31 (L2.defScope s31) b31 (L2.defBody s31) = true := by decide +kernel
-- _law_share
theorem m32 : mtSs { nm with tb := none, lm := lmB } n32 (L2.defScope s32) b32 (L2.defBody s32) = true := by decide +kernel
-- _law_add
theorem m33 : mtSs { nm with tb := none, lm := lmB } n33 (L2.defScope s33) b33 (L2.defBody s33) = true := by decide +kernel
-- _law_mul
theorem m34 : mtSs { nm with tb := none, lm := lmB } n34 (L2.defScope s34) b34 (L2.defBody s34) = true := by decide +kernel
-- _law_less
theorem m35 : mtSs { nm with tb := none, lm := lmB } n35 (L2.defScope s35) b35 (L2.defBody s35) = true := by decide +kernel
-- _law_one
theorem m36 : mtSs { nm with tb := none, lm := lmB } n36 (L2.defScope s36) b36 (L2.defBody s36) = true := by decide +kernel
-- _law_minus
theorem m37 : mtSs { nm with tb := none, lm := lmB } n37 (L2.defScope s37) b37 (L2.defBody s37) = true := by decide +kernel
-- _law_by
theorem m38 : mtSs { nm with tb := none, lm := lmB } n38 (L2.defScope s38) b38 (L2.defBody s38) = true := by decide +kernel
-- _law_two
theorem m39 : mtSs { nm with tb := none, lm := lmB } n39 (L2.defScope s39) b39 (L2.defBody s39) = true := by decide +kernel
-- _law_bits
theorem m40 : mtSs { nm with tb := none, lm := lmB } n40 (L2.defScope s40) b40 (L2.defBody s40) = true := by decide +kernel
-- _law_plain
theorem m41 : mtSs { nm with tb := some true, lm := lmB } n41 (L2.defScope s41) b41 (L2.defBody s41) = true := by decide +kernel
-- _law_rest
theorem m42 : mtSs { nm with tb := none, lm := lmB } n42 (L2.defScope s42) b42 (L2.defBody s42) = true := by decide +kernel
-- law
theorem m43 : mtSs { nm with tb := some true, lm := lmB } n43 (L2.defScope s43) b43 (L2.defBody s43) = true := by decide +kernel
theorem fx0 : fnsA[0]? = some f0 := by rfl
theorem sc0 : L2.FnScope n0 [("one" : Str), ("under" : Str)] (L2.defScope s0) := ⟨rfl, rfl, rfl, by decide +kernel, rfl, by decide +kernel, by decide +kernel⟩
theorem bn0 {K : PySem.W.Frag} {a : Addr} {fd : FuncData} (F : L2.Fun K "plain" "plain" s0 a fd) : L2.Binds K fd [("one" : Str), ("under" : Str)] [] := F.binds fun _ _ _ _ _ _ us hl => match us, hl with | [_, _], _ => rfl
theorem fx1 : fnsA[1]? = some f1 := by rfl
theorem sc1 : L2.FnScope n1 [("one" : Str), ("other" : Str)] (L2.defScope s1) := ⟨rfl, rfl, rfl, by decide +kernel, rfl, by decide +kernel, by decide +kernel⟩
theorem bn1 {K : PySem.W.Frag} {a : Addr} {fd : FuncData} (F : L2.Fun K "added" "added" s1 a fd) : L2.Binds K fd [("one" : Str), ("other" : Str)] [] := F.binds fun _ _ _ _ _ _ us hl => match us, hl with | [_, _], _ => rfl
theorem fx2 : fnsA[2]? = some f2 := by rfl
theorem sc2 : L2.FnScope n2 [("one" : Str), ("other" : Str)] (L2.defScope s2) := ⟨rfl, rfl, rfl, by decide +kernel, rfl, by decide +kernel, by decide +kernel⟩
theorem bn2 {K : PySem.W.Frag} {a : Addr} {fd : FuncData} (F : L2.Fun K "less" "less" s2 a fd) : L2.Binds K fd [("one" : Str), ("other" : Str)] [] := F.binds fun _ _ _ _ _ _ us hl => match us, hl with | [_, _], _ => rfl
theorem fx3 : fnsA[3]? = some f3 := by rfl
theorem sc3 : L2.FnScope n3 [("one" : Str), ("other" : Str)] (L2.defScope s3) := ⟨rfl, rfl, rfl, by decide +kernel, rfl, by decide +kernel, by decide +kernel⟩
theorem bn3 {K : PySem.W.Frag} {a : Addr} {fd : FuncData} (F : L2.Fun K "times" "times" s3 a fd) : L2.Binds K fd [("one" : Str), ("other" : Str)] [] := F.binds fun _ _ _ _ _ _ us hl => match us, hl with | [_, _], _ => rfl
theorem fx4 : fnsA[4]? = some f4 := by rfl
theorem sc4 : L2.FnScope n4 [("one" : Str), ("other" : Str)] (L2.defScope s4) := ⟨rfl, rfl, rfl, by decide +kernel, rfl, by decide +kernel, by decide +kernel⟩
theorem bn4 {K : PySem.W.Frag} {a : Addr} {fd : FuncData} (F : L2.Fun K "parted" "parted" s4 a fd) : L2.Binds K fd [("one" : Str), ("other" : Str)] [] := F.binds fun _ _ _ _ _ _ us hl => match us, hl with | [_, _], _ => rfl
theorem fx5 : fnsA[5]? = some f5 := by rfl
theorem sc5 : L2.FnScope n5 [("one" : Str), ("other" : Str)] (L2.defScope s5) := ⟨rfl, rfl, rfl, by decide +kernel, rfl, by decide +kernel, by decide +kernel⟩
theorem bn5 {K : PySem.W.Frag} {a : Addr} {fd : FuncData} (F : L2.Fun K "is_less" "is_less" s5 a fd) : L2.Binds K fd [("one" : Str), ("other" : Str)] [] := F.binds fun _ _ _ _ _ _ us hl => match us, hl with | [_, _], _ => rfl
theorem fx6 : fnsA[6]? = some f6 := by rfl
theorem sc6 : L2.FnScope n6 [("many" : Str)] (L2.defScope s6) := ⟨rfl, rfl, rfl, by decide +kernel, rfl, by decide +kernel, by decide +kernel⟩
theorem bn6 {K : PySem.W.Frag} {a : Addr} {fd : FuncData} (F : L2.Fun K "check_bits" "check_bits" s6 a fd) : L2.Binds K fd [("many" : Str)] [] := F.binds fun _ _ _ _ _ _ us hl => match us, hl with | [_], _ => rfl
theorem fx7 : fnsA[7]? = some f7 := by rfl
theorem sc7 : L2.FnScope n7 [("many" : Str)] (L2.defScope s7) := ⟨rfl, rfl, rfl, by decide +kernel, rfl, by decide +kernel, by decide +kernel⟩
theorem bn7 {K : PySem.W.Frag} {a : Addr} {fd : FuncData} (F : L2.Fun K "steps_of" "steps_of" s7 a fd) : L2.Binds K fd [("many" : Str)] [] := F.binds fun _ _ _ _ _ _ us hl => match us, hl with | [_], _ => rfl
theorem fx8 : fnsA[8]? = some f8 := by rfl
theorem sc8 : L2.FnScope n8 [("value" : Str), ("many" : Str)] (L2.defScope s8) := ⟨rfl, rfl, rfl, by decide +kernel, rfl, by decide +kernel, by decide +kernel⟩
theorem bn8 {K : PySem.W.Frag} {a : Addr} {fd : FuncData} (F : L2.Fun K "bits_of" "bits_of" s8 a fd) : L2.Binds K fd [("value" : Str), ("many" : Str)] [] := F.binds fun _ _ _ _ _ _ us hl => match us, hl with | [_, _], _ => rfl
theorem fx9 : fnsA[9]? = some f9 := by rfl
theorem sc9 : L2.FnScope n9 [("bits" : Str)] (L2.defScope s9) := ⟨rfl, rfl, rfl, by decide +kernel, rfl, by decide +kernel, by decide +kernel⟩
theorem bn9 {K : PySem.W.Frag} {a : Addr} {fd : FuncData} (F : L2.Fun K "value_of_bits" "value_of_bits" s9 a fd) : L2.Binds K fd [("bits" : Str)] [] := F.binds fun _ _ _ _ _ _ us hl => match us, hl with | [_], _ => rfl
theorem fx10 : fnsA[10]? = some f10 := by rfl
theorem sc10 : L2.FnScope n10 [("value" : Str), ("many" : Str), ("top" : Str)] (L2.defScope s10) := ⟨rfl, rfl, rfl, by decide +kernel, rfl, by decide +kernel, by decide +kernel⟩
theorem bn10 {K : PySem.W.Frag} {a : Addr} {fd : FuncData} (F : L2.Fun K "made_volts" "made_volts" s10 a fd) : L2.Binds K fd [("value" : Str), ("many" : Str), ("top" : Str)] [] := F.binds fun _ _ _ _ _ _ us hl => match us, hl with | [_, _, _], _ => rfl
theorem fx11 : fnsA[11]? = some f11 := by rfl
theorem sc11 : L2.FnScope n11 [("bits" : Str), ("top" : Str)] (L2.defScope s11) := ⟨rfl, rfl, rfl, by decide +kernel, rfl, by decide +kernel, by decide +kernel⟩
theorem bn11 {K : PySem.W.Frag} {a : Addr} {fd : FuncData} (F : L2.Fun K "ladder_volts" "ladder_volts" s11 a fd) : L2.Binds K fd [("bits" : Str), ("top" : Str)] [] := F.binds fun _ _ _ _ _ _ us hl => match us, hl with | [_, _], _ => rfl
theorem fx12 : fnsA[12]? = some f12 := by rfl
theorem sc12 : L2.FnScope n12 [("bits" : Str), ("values" : Str), ("top" : Str)] (L2.defScope s12) := ⟨rfl, rfl, rfl, by decide +kernel, rfl, by decide +kernel, by decide +kernel⟩
theorem bn12 {K : PySem.W.Frag} {a : Addr} {fd : FuncData} (F : L2.Fun K "weighted_volts" "weighted_volts" s12 a fd) : L2.Binds K fd [("bits" : Str), ("values" : Str), ("top" : Str)] [] := F.binds fun _ _ _ _ _ _ us hl => match us, hl with | [_, _, _], _ => rfl
theorem fx13 : fnsA[13]? = some f13 := by rfl
theorem sc13 : L2.FnScope n13 [("volts" : Str), ("many" : Str), ("top" : Str)] (L2.defScope s13) := ⟨rfl, rfl, rfl, by decide +kernel, rfl, by decide +kernel, by decide +kernel⟩
theorem bn13 {K : PySem.W.Frag} {a : Addr} {fd : FuncData} (F : L2.Fun K "read_volts" "read_volts" s13 a fd) : L2.Binds K fd [("volts" : Str), ("many" : Str), ("top" : Str)] [] := F.binds fun _ _ _ _ _ _ us hl => match us, hl with | [_, _, _], _ => rfl
theorem fx14 : fnsA[14]? = some f14 := by rfl
theorem sc14 : L2.FnScope n14 [("volts" : Str), ("many" : Str), ("top" : Str)] (L2.defScope s14) := ⟨rfl, rfl, rfl, by decide +kernel, rfl, by decide +kernel, by decide +kernel⟩
theorem bn14 {K : PySem.W.Frag} {a : Addr} {fd : FuncData} (F : L2.Fun K "searched" "searched" s14 a fd) : L2.Binds K fd [("volts" : Str), ("many" : Str), ("top" : Str)] [] := F.binds fun _ _ _ _ _ _ us hl => match us, hl with | [_, _, _], _ => rfl
theorem fx15 : fnsA[15]? = some f15 := by rfl
theorem sc15 : L2.FnScope n15 [("volts" : Str), ("many" : Str), ("top" : Str)] (L2.defScope s15) := ⟨rfl, rfl, rfl, by decide +kernel, rfl, by decide +kernel, by decide +kernel⟩
theorem bn15 {K : PySem.W.Frag} {a : Addr} {fd : FuncData} (F : L2.Fun K "counted" "counted" s15 a fd) : L2.Binds K fd [("volts" : Str), ("many" : Str), ("top" : Str)] [] := F.binds fun _ _ _ _ _ _ us hl => match us, hl with | [_, _, _], _ => rfl
theorem fx16 : fnsA[16]? = some f16 := by rfl
theorem sc16 : L2.FnScope n16 [("many" : Str), ("top" : Str)] (L2.defScope s16) := ⟨rfl, rfl, rfl, by decide +kernel, rfl, by decide +kernel, by decide +kernel⟩
theorem bn16 {K : PySem.W.Frag} {a : Addr} {fd : FuncData} (F : L2.Fun K "marks" "marks" s16 a fd) : L2.Binds K fd [("many" : Str), ("top" : Str)] [] := F.binds fun _ _ _ _ _ _ us hl => match us, hl with | [_, _], _ => rfl
theorem fx17 : fnsA[17]? = some f17 := by rfl
theorem sc17 : L2.FnScope n17 [("volts" : Str), ("levels" : Str)] (L2.defScope s17) := ⟨rfl, rfl, rfl, by decide +kernel, rfl, by decide +kernel, by decide +kernel⟩
theorem bn17 {K : PySem.W.Frag} {a : Addr} {fd : FuncData} (F : L2.Fun K "flash" "flash" s17 a fd) : L2.Binds K fd [("volts" : Str), ("levels" : Str)] [] := F.binds fun _ _ _ _ _ _ us hl => match us, hl with | [_, _], _ => rfl
theorem fx18 : fnsA[18]? = some f18 := by rfl
theorem sc18 : L2.FnScope n18 [("volts" : Str), ("many" : Str), ("top" : Str)] (L2.defScope s18) := ⟨rfl, rfl, rfl, by decide +kernel, rfl, by decide +kernel, by decide +kernel⟩
theorem bn18 {K : PySem.W.Frag} {a : Addr} {fd : FuncData} (F : L2.Fun K "off_by" "off_by" s18 a fd) : L2.Binds K fd [("volts" : Str), ("many" : Str), ("top" : Str)] [] := F.binds fun _ _ _ _ _ _ us hl => match us, hl with | [_, _, _], _ => rfl
theorem fx19 : fnsA[19]? = some f19 := by rfl
theorem sc19 : L2.FnScope n19 [("made" : Str), ("top" : Str)] (L2.defScope s19) := ⟨rfl, rfl, rfl, by decide +kernel, rfl, by decide +kernel, by decide +kernel⟩
theorem bn19 {K : PySem.W.Frag} {a : Addr} {fd : FuncData} (F : L2.Fun K "worst_steps" "worst_steps" s19 a fd) : L2.Binds K fd [("made" : Str), ("top" : Str)] [] := F.binds fun _ _ _ _ _ _ us hl => match us, hl with | [_, _], _ => rfl
theorem fx20 : fnsA[20]? = some f20 := by rfl
theorem sc20 : L2.FnScope n20 [("one" : Str), ("other" : Str)] (L2.defScope s20) := ⟨rfl, rfl, rfl, by decide +kernel, rfl, by decide +kernel, by decide +kernel⟩
theorem bn20 {K : PySem.W.Frag} {a : Addr} {fd : FuncData} (F : L2.Fun K "greater" "greater" s20 a fd) : L2.Binds K fd [("one" : Str), ("other" : Str)] [] := F.binds fun _ _ _ _ _ _ us hl => match us, hl with | [_, _], _ => rfl
theorem fx21 : fnsA[21]? = some f21 := by rfl
theorem sc21 : L2.FnScope n21 [("made" : Str)] (L2.defScope s21) := ⟨rfl, rfl, rfl, by decide +kernel, rfl, by decide +kernel, by decide +kernel⟩
theorem bn21 {K : PySem.W.Frag} {a : Addr} {fd : FuncData} (F : L2.Fun K "is_rising" "is_rising" s21 a fd) : L2.Binds K fd [("made" : Str)] [] := F.binds fun _ _ _ _ _ _ us hl => match us, hl with | [_], _ => rfl
theorem fx22 : fnsA[22]? = some f22 := by rfl
theorem sc22 : L2.FnScope n22 [("value" : Str)] (L2.defScope s22) := ⟨rfl, rfl, rfl, by decide +kernel, rfl, by decide +kernel, by decide +kernel⟩
theorem bn22 {K : PySem.W.Frag} {a : Addr} {fd : FuncData} (F : L2.Fun K "one_change" "one_change" s22 a fd) : L2.Binds K fd [("value" : Str)] [] := F.binds fun _ _ _ _ _ _ us hl => match us, hl with | [_], _ => rfl
theorem fx23 : fnsA[23]? = some f23 := by rfl
theorem sc23 : L2.FnScope n23 [("one" : Str), ("other" : Str)] (L2.defScope s23) := ⟨rfl, rfl, rfl, by decide +kernel, rfl, by decide +kernel, by decide +kernel⟩
theorem bn23 {K : PySem.W.Frag} {a : Addr} {fd : FuncData} (F : L2.Fun K "crossed" "crossed" s23 a fd) : L2.Binds K fd [("one" : Str), ("other" : Str)] [] := F.binds fun _ _ _ _ _ _ us hl => match us, hl with | [_, _], _ => rfl
theorem fx24 : fnsA[24]? = some f24 := by rfl
theorem sc24 : L2.FnScope n24 [("code" : Str)] (L2.defScope s24) := ⟨rfl, rfl, rfl, by decide +kernel, rfl, by decide +kernel, by decide +kernel⟩
theorem bn24 {K : PySem.W.Frag} {a : Addr} {fd : FuncData} (F : L2.Fun K "from_one_change" "from_one_change" s24 a fd) : L2.Binds K fd [("code" : Str)] [] := F.binds fun _ _ _ _ _ _ us hl => match us, hl with | [_], _ => rfl
theorem fx25 : fnsA[25]? = some f25 := by rfl
theorem sc25 : L2.FnScope n25 [("value" : Str), ("many" : Str)] (L2.defScope s25) := ⟨rfl, rfl, rfl, by decide +kernel, rfl, by decide +kernel, by decide +kernel⟩
theorem bn25 {K : PySem.W.Frag} {a : Addr} {fd : FuncData} (F : L2.Fun K "two_sided" "two_sided" s25 a fd) : L2.Binds K fd [("value" : Str), ("many" : Str)] [] := F.binds fun _ _ _ _ _ _ us hl => match us, hl with | [_, _], _ => rfl
theorem fx26 : fnsA[26]? = some f26 := by rfl
theorem sc26 : L2.FnScope n26 [("volts" : Str), ("top" : Str), ("steps" : Str)] (L2.defScope s26) := ⟨rfl, rfl, rfl, by decide +kernel, rfl, by decide +kernel, by decide +kernel⟩
theorem bn26 {K : PySem.W.Frag} {a : Addr} {fd : FuncData} (F : L2.Fun K "summed_bits" "summed_bits" s26 a fd) : L2.Binds K fd [("volts" : Str), ("top" : Str), ("steps" : Str)] [] := F.binds fun _ _ _ _ _ _ us hl => match us, hl with | [_, _, _], _ => rfl
theorem fx27 : fnsA[27]? = some f27 := by rfl
theorem sc27 : L2.FnScope n27 [("volts" : Str), ("top" : Str), ("up" : Str), ("clock" : Str)] (L2.defScope s27) := ⟨rfl, rfl, rfl, by decide +kernel, rfl, by decide +kernel, by decide +kernel⟩
theorem bn27 {K : PySem.W.Frag} {a : Addr} {fd : FuncData} (F : L2.Fun K "two_slopes" "two_slopes" s27 a fd) : L2.Binds K fd [("volts" : Str), ("top" : Str), ("up" : Str), ("clock" : Str)] [] := F.binds fun _ _ _ _ _ _ us hl => match us, hl with | [_, _, _, _], _ => rfl
theorem fx28 : fnsA[28]? = some f28 := by rfl
theorem sc28 : L2.FnScope n28 [("cell" : Str)] (L2.defScope s28) := ⟨rfl, rfl, rfl, by decide +kernel, rfl, by decide +kernel, by decide +kernel⟩
theorem bn28 {K : PySem.W.Frag} {a : Addr} {fd : FuncData} (F : L2.Fun K "_law_dice" "_law_dice" s28 a fd) : L2.Binds K fd [("cell" : Str)] [] := F.binds fun _ _ _ _ _ _ us hl => match us, hl with | [_], _ => rfl
theorem fx29 : fnsA[29]? = some f29 := by rfl
theorem sc29 : L2.FnScope n29 [("dice" : Str), ("many" : Str)] (L2.defScope s29) := ⟨rfl, rfl, rfl, by decide +kernel, rfl, by decide +kernel, by decide +kernel⟩
theorem bn29 {K : PySem.W.Frag} {a : Addr} {fd : FuncData} (F : L2.Fun K "_law_roll" "_law_roll" s29 a fd) : L2.Binds K fd [("dice" : Str), ("many" : Str)] [] := F.binds fun _ _ _ _ _ _ us hl => match us, hl with | [_, _], _ => rfl
theorem fx30 : fnsA[30]? = some f30 := by rfl
theorem sc30 : L2.FnScope n30 [("script" : Str), ("most" : Str)] (L2.defScope s30) := ⟨rfl, rfl, rfl, by decide +kernel, rfl, by decide +kernel, by decide +kernel⟩
theorem bn30 {K : PySem.W.Frag} {a : Addr} {fd : FuncData} (F : L2.Fun K "_law_rounds" "_law_rounds" s30 a fd) : L2.Binds K fd [("script" : Str), ("most" : Str)] [] := F.binds fun _ _ _ _ _ _ us hl => match us, hl with | [_, _], _ => rfl
theorem fx31 : fnsA[31]? = some f31 := by rfl
theorem sc31 : L2.FnScope n31 [("one" : Str), ("other" : Str)] (L2.defScope s31) := ⟨rfl, rfl, rfl, by decide +kernel, rfl, by decide +kernel, by decide +kernel⟩
theorem bn31 {K : PySem.W.Frag} {a : Addr} {fd : FuncData} (F : L2.Fun K "_law_gcd" "_law_gcd" s31 a fd) : L2.Binds K fd [("one" : Str), ("other" : Str)] [] := F.binds fun _ _ _ _ _ _ us hl => match us, hl with | [_, _], _ => rfl
theorem fx32 : fnsA[32]? = some f32 := by rfl
theorem sc32 : L2.FnScope n32 [("one" : Str), ("under" : Str)] (L2.defScope s32) := ⟨rfl, rfl, rfl, by decide +kernel, rfl, by decide +kernel, by decide +kernel⟩
theorem bn32 {K : PySem.W.Frag} {a : Addr} {fd : FuncData} (F : L2.Fun K "_law_share" "_law_share" s32 a fd) : L2.Binds K fd [("one" : Str), ("under" : Str)] [] := F.binds fun _ _ _ _ _ _ us hl => match us, hl with | [_, _], _ => rfl
theorem fx33 : fnsA[33]? = some f33 := by rfl
theorem sc33 : L2.FnScope n33 [("one" : Str), ("other" : Str)] (L2.defScope s33) := ⟨rfl, rfl, rfl, by decide +kernel, rfl, by decide +kernel, by decide +kernel⟩
theorem bn33 {K : PySem.W.Frag} {a : Addr} {fd : FuncData} (F : L2.Fun K "_law_add" "_law_add" s33 a fd) : L2.Binds K fd [("one" : Str), ("other" : Str)] [] := F.binds fun _ _ _ _ _ _ us hl => match us, hl with | [_, _], _ => rfl
theorem fx34 : fnsA[34]? = some f34 := by rfl
theorem sc34 : L2.FnScope n34 [("one" : Str), ("other" : Str)] (L2.defScope s34) := ⟨rfl, rfl, rfl, by decide +kernel, rfl, by decide +kernel, by decide +kernel⟩
theorem bn34 {K : PySem.W.Frag} {a : Addr} {fd : FuncData} (F : L2.Fun K "_law_mul" "_law_mul" s34 a fd) : L2.Binds K fd [("one" : Str), ("other" : Str)] [] := F.binds fun _ _ _ _ _ _ us hl => match us, hl with | [_, _], _ => rfl
theorem fx35 : fnsA[35]? = some f35 := by rfl
theorem sc35 : L2.FnScope n35 [("one" : Str), ("other" : Str)] (L2.defScope s35) := ⟨rfl, rfl, rfl, by decide +kernel, rfl, by decide +kernel, by decide +kernel⟩
theorem bn35 {K : PySem.W.Frag} {a : Addr} {fd : FuncData} (F : L2.Fun K "_law_less" "_law_less" s35 a fd) : L2.Binds K fd [("one" : Str), ("other" : Str)] [] := F.binds fun _ _ _ _ _ _ us hl => match us, hl with | [_, _], _ => rfl
theorem fx36 : fnsA[36]? = some f36 := by rfl
theorem sc36 : L2.FnScope n36 [("dice" : Str)] (L2.defScope s36) := ⟨rfl, rfl, rfl, by decide +kernel, rfl, by decide +kernel, by decide +kernel⟩
theorem bn36 {K : PySem.W.Frag} {a : Addr} {fd : FuncData} (F : L2.Fun K "_law_one" "_law_one" s36 a fd) : L2.Binds K fd [("dice" : Str)] [] := F.binds fun _ _ _ _ _ _ us hl => match us, hl with | [_], _ => rfl
theorem fx37 : fnsA[37]? = some f37 := by rfl
theorem sc37 : L2.FnScope n37 [("one" : Str), ("other" : Str)] (L2.defScope s37) := ⟨rfl, rfl, rfl, by decide +kernel, rfl, by decide +kernel, by decide +kernel⟩
theorem bn37 {K : PySem.W.Frag} {a : Addr} {fd : FuncData} (F : L2.Fun K "_law_minus" "_law_minus" s37 a fd) : L2.Binds K fd [("one" : Str), ("other" : Str)] [] := F.binds fun _ _ _ _ _ _ us hl => match us, hl with | [_, _], _ => rfl
theorem fx38 : fnsA[38]? = some f38 := by rfl
theorem sc38 : L2.FnScope n38 [("one" : Str), ("other" : Str)] (L2.defScope s38) := ⟨rfl, rfl, rfl, by decide +kernel, rfl, by decide +kernel, by decide +kernel⟩
theorem bn38 {K : PySem.W.Frag} {a : Addr} {fd : FuncData} (F : L2.Fun K "_law_by" "_law_by" s38 a fd) : L2.Binds K fd [("one" : Str), ("other" : Str)] [] := F.binds fun _ _ _ _ _ _ us hl => match us, hl with | [_, _], _ => rfl
theorem fx39 : fnsA[39]? = some f39 := by rfl
theorem sc39 : L2.FnScope n39 [("many" : Str)] (L2.defScope s39) := ⟨rfl, rfl, rfl, by decide +kernel, rfl, by decide +kernel, by decide +kernel⟩
theorem bn39 {K : PySem.W.Frag} {a : Addr} {fd : FuncData} (F : L2.Fun K "_law_two" "_law_two" s39 a fd) : L2.Binds K fd [("many" : Str)] [] := F.binds fun _ _ _ _ _ _ us hl => match us, hl with | [_], _ => rfl
theorem fx40 : fnsA[40]? = some f40 := by rfl
theorem sc40 : L2.FnScope n40 [("value" : Str), ("many" : Str)] (L2.defScope s40) := ⟨rfl, rfl, rfl, by decide +kernel, rfl, by decide +kernel, by decide +kernel⟩
theorem bn40 {K : PySem.W.Frag} {a : Addr} {fd : FuncData} (F : L2.Fun K "_law_bits" "_law_bits" s40 a fd) : L2.Binds K fd [("value" : Str), ("many" : Str)] [] := F.binds fun _ _ _ _ _ _ us hl => match us, hl with | [_, _], _ => rfl
theorem fx41 : fnsA[41]? = some f41 := by rfl
theorem sc41 : L2.FnScope n41 [] (L2.defScope s41) := ⟨rfl, rfl, rfl, by decide +kernel, rfl, by decide +kernel, by decide +kernel⟩
theorem bn41 {K : PySem.W.Frag} {a : Addr} {fd : FuncData} (F : L2.Fun K "_law_plain" "_law_plain" s41 a fd) : L2.Binds K fd [] [] := F.binds fun _ _ _ _ _ _ us hl => match us, hl with | [], _ => rfl
theorem fx42 : fnsA[42]? = some f42 := by rfl
theorem sc42 : L2.FnScope n42 [("dice" : Str), ("top" : Str)] (L2.defScope s42) := ⟨rfl, rfl, rfl, by decide +kernel, rfl, by decide +kernel, by decide +kernel⟩
theorem bn42 {K : PySem.W.Frag} {a : Addr} {fd : FuncData} (F : L2.Fun K "_law_rest" "_law_rest" s42 a fd) : L2.Binds K fd [("dice" : Str), ("top" : Str)] [] := F.binds fun _ _ _ _ _ _ us hl => match us, hl with | [_, _], _ => rfl
theorem fx43 : fnsA[43]? = some f43 := by rfl
theorem sc43 : L2.FnScope n43 [("script" : Str)] (L2.defScope s43) := ⟨rfl, rfl, rfl, by decide +kernel, rfl, by decide +kernel, by decide +kernel⟩
theorem bn43 {K : PySem.W.Frag} {a : Addr} {fd : FuncData} (F : L2.Fun K "law" "law" s43 a fd) : L2.Binds K fd [("script" : Str)] [] := F.binds fun _ _ _ _ _ _ us hl => match us, hl with | [_], _ => rfl
theorem scT : L2.FnScope ["what"] ["what"] (L2.defScope (topS 39)) := ⟨rfl, rfl, rfl, by decide +kernel, rfl, by decide +kernel, by decide +kernel⟩
theorem bnT {K : PySem.W.Frag} {a : Addr} {fd : FuncData} (F : L2.Fun K "_law_told" "_law_told" (topS 39) a fd) : L2.Binds K fd ["what"] [] := F.binds fun _ _ _ _ _ _ us hl => match us, hl with | [_], _ => rfl
theorem lmH (K : PySem.W.Frag) (ca : Nat → Addr) (T : List (Addr × Option Str)) : LamHyp ⟨K, ca, T, lmB, nm⟩ prg := by
  intro n a b s h
  have h : lmB n a b s = true := h
  unfold lmB at h
  simp only [Bool.and_eq_true] at h
  exact ⟨h.2.1, h.2.2.1, h.2.2.2.1, h.2.2.2.2⟩
theorem lms (K : PySem.W.Frag) (ca : Nat → Addr) (T : List (Addr × Option Str)) : ∀ n a b s, (⟨K, ca, T, lmB, nm⟩ : GP).lm n a b s = true → fnsA[prg.lb + n]? = some ⟨0, 0, .cons (.ret (prg.lams n)) .nil⟩ := by
  intro n a b s h
  have h : lmB n a b s = true := h
  unfold lmB at h
  simp only [Bool.and_eq_true, decide_eq_true_eq] at h
  match n, h.1 with
  | 0, _ => rfl
  | 1, _ => rfl
  | 2, _ => rfl
  | 3, _ => rfl
  | 4, _ => rfl
  | 5, _ => rfl
  | 6, _ => rfl
  | 7, _ => rfl
  | 8, _ => rfl
  | 9, _ => rfl
  | 10, _ => rfl
  | 11, _ => rfl
  | 12, _ => rfl
  | 13, _ => rfl
  | 14, _ => rfl
  | 15, _ => rfl
  | 16, _ => rfl
  | 17, _ => rfl
  | 18, _ => rfl
  | 19, _ => rfl
  | 20, _ => rfl
  | 21, _ => rfl
  | 22, _ => rfl
  | 23, _ => rfl
  | 24, _ => rfl
  | n + 25, h => omega
end Eng.circuitstack_k14_values_told_as_bits
/-! the plain mathematics of law k14 -/
namespace Eng
namespace K14

/-! ### bits -/
/-- the greatest first -/
def bitsL : Nat → Int → List Int
  | 0, _ => []
  | m + 1, v => bitsL m (v / 2) ++ [v % 2]
theorem bitsL_len : ∀ (m : Nat) (v : Int), (bitsL m v).length = m
  | 0, _ => rfl
  | m + 1, v => by unfold bitsL; rw [List.length_append, bitsL_len m]; rfl
theorem bitsL_01 : ∀ (m : Nat) (v : Int), ∀ x ∈ bitsL m v, x = 0 ∨ x = 1
  | 0, _, x, h => by cases h
  | m + 1, v, x, h => by
    unfold bitsL at h
    rcases List.mem_append.mp h with h | h
    · exact bitsL_01 m _ x h
    · rw [List.mem_singleton] at h
      omega
theorem two_pos (m : Nat) : (0 : Int) < 2 ^ m := Int.pow_pos (by decide)
theorem bitsL_val : ∀ (m : Nat) (v : Int), 0 ≤ v → v < 2 ^ m → (bitsL m v).foldl (fun a b => 2 * a + b) 0 = v
  | 0, v, h0, h1 => by
    have : v = 0 := by simp at h1; omega
    rw [this]; rfl
  | m + 1, v, h0, h1 => by
    unfold bitsL
    rw [List.foldl_append, bitsL_val m (v / 2) (by omega) (by rw [Int.pow_succ] at h1; omega)]
    show 2 * (v / 2) + v % 2 = v
    omega
theorem bitsL_get (m : Nat) (v : Int) : bitsL m v = (List.range m).map fun k => v / 2 ^ (m - 1 - k) % 2 := by
  induction m generalizing v with
  | zero => rfl
  | succ m ih =>
    unfold bitsL
    rw [ih, List.range_succ, List.map_append]
    congr 1
    · apply List.map_congr_left
      intro k hk
      have hk := List.mem_range.mp hk
      rw [show m + 1 - 1 - k = (m - 1 - k) + 1 by omega, Int.pow_succ, Int.mul_comm, Int.ediv_ediv_of_nonneg (by decide)]
    · simp
theorem fold_bits (l : List Int) (a : Int) : l.foldl (fun a b => 2 * a + b) a = 2 ^ l.length * a + l.foldl (fun a b => 2 * a + b) 0 := by
  induction l generalizing a with
  | nil => simp
  | cons x l ih =>
    rw [List.foldl_cons, List.foldl_cons, ih, ih (2 * 0 + x), List.length_cons, Int.pow_succ]
    grind
/-- the first bit -/
theorem bits_head {m : Nat} {v : Int} (h0 : 0 ≤ v) (h1 : v < 2 ^ (m + 1)) : (bitsL (m + 1) v)[0]? = some (v / 2 ^ m) := by
  rw [bitsL_get, List.getElem?_map, List.getElem?_range (by omega)]
  show some (v / 2 ^ (m + 1 - 1 - 0) % 2) = _
  rw [show m + 1 - 1 - 0 = m by omega]
  congr 1
  have := two_pos m
  have h2 : v / 2 ^ m < 2 := Int.ediv_lt_of_lt_mul this (by rw [Int.pow_succ] at h1; omega)
  have h3 : 0 ≤ v / 2 ^ m := Int.ediv_nonneg h0 (by omega)
  omega
/-! ### ladders -/
theorem ladder_sum (top : Rat) : ∀ (l : List Int), (∀ x ∈ l, x = 0 ∨ x = 1) → l.reverse.foldl (fun (h : Rat) (b : Int) => (h + (if b = 1 then top else 0)) * (1 / 2)) 0 * 2 ^ l.length = top * ((l.foldl (fun a b => 2 * a + b) 0 : Int) : Rat)
  | [], _ => by simp [Rat.zero_mul, Rat.mul_zero]
  | x :: l, h => by
    have ih := ladder_sum top l fun y hy => h y (by simp [hy])
    rw [List.reverse_cons, List.foldl_append, List.foldl_cons, List.foldl_nil, List.length_cons, List.foldl_cons, fold_bits l (2 * 0 + x)]
    rcases h x (by simp) with e | e
    · subst e
      simp only [show ((0 : Int) = 1) = False from by simp, if_false]
      rw [Rat.pow_succ, Rat.intCast_add, Rat.intCast_mul, Rat.intCast_pow]
      generalize List.foldl _ _ l.reverse = X at *
      generalize ((List.foldl (fun (a b : Int) => 2 * a + b) 0 l : Int) : Rat) = Y at *
      generalize (2 : Rat) ^ l.length = Z at *
      grind
    · subst e
      simp only [if_true]
      rw [Rat.pow_succ, Rat.intCast_add, Rat.intCast_mul, Rat.intCast_pow]
      generalize List.foldl _ _ l.reverse = X at *
      generalize ((List.foldl (fun (a b : Int) => 2 * a + b) 0 l : Int) : Rat) = Y at *
      have : (((2 : Int) : Rat)) = 2 := rfl
      rw [this]
      generalize (2 : Rat) ^ l.length = Z at *
      have z1 : (((2 * 0 + 1 : Int)) : Rat) = 1 := rfl
      rw [z1]
      grind
end K14
end Eng
/-! the plain mathematics of law k14: reading, searching, codes -/
namespace Eng
namespace K14
/-! ### floors -/
def fl (v t : Rat) (w : Nat) : Int := (v / t * ((w : Int) : Rat)).floor
theorem ls_iff {v t : Rat} {w : Nat} {k : Int} (ht : 0 < t) (hw : 0 < w) : v < t * ((k : Rat) / ((w : Int) : Rat)) ↔ fl v t w < k := by
  unfold fl
  have hw' : (0 : Rat) < ((w : Int) : Rat) := by rw [Rat.intCast_pos]; omega
  rw [Rat.floor_lt_iff, ← Rat.lt_div_iff hw']
  have e : v = t * (v / t) := by
    rw [Rat.mul_comm]
    exact (Rat.div_mul_cancel (by grind)).symm
  conv => lhs; lhs; rw [e]
  exact Rat.mul_lt_mul_left ht
def rd (f : Int) (w : Nat) : Int := if (if f > 0 then f else 0) < (w : Int) - 1 then (if f > 0 then f else 0) else (w : Int) - 1
theorem fits_eq (f : Int) : ∀ (w : Nat), (List.range w).filter (fun (k : Nat) => !decide (f < (k : Int))) = List.range (min (f + 1).toNat w)
  | 0 => by simp
  | w + 1 => by
    rw [List.range_succ, List.filter_append, fits_eq f w]
    by_cases h : f < (w : Int)
    · rw [List.filter_cons_of_neg (by simp [h]), List.filter_nil, List.append_nil, Nat.min_eq_left (by omega), Nat.min_eq_left (by omega)]
    · rw [List.filter_cons_of_pos (by simp; omega), List.filter_nil, Nat.min_eq_right (by omega), Nat.min_eq_right (by omega), List.range_succ]
theorem rd_eq (f : Int) (w : Nat) : rd f w = min (max f 0) ((w : Int) - 1) := by
  unfold rd
  by_cases h : f > 0
  · rw [if_pos h]; split <;> omega
  · rw [if_neg h]; split <;> omega
/-- the last that fits, or nought -/
theorem fits_last (f : Int) (w : Nat) (hw : 0 < w) : rd f w = if (List.range w).filter (fun (k : Nat) => !decide (f < (k : Int))) = [] then 0 else ((((List.range w).filter (fun (k : Nat) => !decide (f < (k : Int)))).length : Int) - 1) := by
  rw [fits_eq, List.length_range, rd_eq]
  by_cases h : f < 0
  · rw [show min (f + 1).toNat w = 0 by omega, List.range_zero, if_pos rfl]
    omega
  · rw [if_neg (c := List.range _ = []) (by rw [List.range_eq_nil]; omega)]
    omega
/-! ### searching bit by bit -/
def srch (f : Int) : Nat → Int → List (Int × Int)
  | 0, _ => []
  | k + 1, h => if f < h + 2 ^ k then (h + 2 ^ k, 0) :: srch f k h else (h + 2 ^ k, 1) :: srch f k (h + 2 ^ k)
def srchE (f : Int) : Nat → Int → Int
  | 0, h => h
  | k + 1, h => if f < h + 2 ^ k then srchE f k h else srchE f k (h + 2 ^ k)
theorem srch_end (f : Int) : ∀ (k : Nat) (h : Int), srchE f k h = if f < h then h else min f (h + 2 ^ k - 1)
  | 0, h => by unfold srchE; rw [show (2 : Int) ^ 0 = 1 from rfl]; split <;> omega
  | k + 1, h => by
    unfold srchE
    rw [srch_end f k, srch_end f k, Int.pow_succ]
    have := two_pos k
    split <;> split <;> (try split) <;> omega
theorem srch_read (f : Int) (m : Nat) : srchE f m 0 = rd f (2 ^ m) := by
  rw [srch_end, rd_eq]
  have e : ((2 ^ m : Nat) : Int) = 2 ^ m := by rw [Int.natCast_pow]; rfl
  have := two_pos m
  rw [e]
  split <;> omega
/-! ### codes -/
theorem xor_bit (a b m : Nat) : (a ^^^ b) / 2 ^ m % 2 = if a / 2 ^ m % 2 = b / 2 ^ m % 2 then 0 else 1 := by
  rw [Nat.xor_div_two_pow]
  generalize a / 2 ^ m = x
  generalize b / 2 ^ m = y
  have h := @Nat.xor_mod_two_eq_one x y
  have hx : x % 2 = 0 ∨ x % 2 = 1 := by omega
  have hy : y % 2 = 0 ∨ y % 2 = 1 := by omega
  have hz : (x ^^^ y) % 2 = 0 ∨ (x ^^^ y) % 2 = 1 := by omega
  split
  · omega
  · omega
theorem xor_sum (a b : Nat) : ∀ (m : Nat), (((List.range m).filter fun k => !decide (((a / 2 ^ (m - 1 - k) % 2 : Nat) : Int) = ((b / 2 ^ (m - 1 - k) % 2 : Nat) : Int))).map fun k => ((2 ^ (m - 1 - k) : Nat) : Int)).sum = (((a ^^^ b) % 2 ^ m : Nat) : Int)
  | 0 => by simp [Nat.mod_one]
  | m + 1 => by
    rw [List.range_succ_eq_map, List.filter_cons, Nat.mod_pow_succ, xor_bit]
    have e : ((((List.range m).map Nat.succ).filter fun k => !decide (((a / 2 ^ (m + 1 - 1 - k) % 2 : Nat) : Int) = ((b / 2 ^ (m + 1 - 1 - k) % 2 : Nat) : Int))).map fun k => ((2 ^ (m + 1 - 1 - k) : Nat) : Int)).sum = (((a ^^^ b) % 2 ^ m : Nat) : Int) := by
      rw [← xor_sum a b m, List.filter_map, List.map_map]
      have e1 : ∀ k, m + 1 - 1 - Nat.succ k = m - 1 - k := by intro k; omega
      congr 2
      · funext k
        show ((2 ^ (m + 1 - 1 - Nat.succ k) : Nat) : Int) = _
        rw [e1]
      · congr 1
        funext k
        show (!decide (((a / 2 ^ (m + 1 - 1 - Nat.succ k) % 2 : Nat) : Int) = ((b / 2 ^ (m + 1 - 1 - Nat.succ k) % 2 : Nat) : Int))) = _
        rw [e1]
    rw [show m + 1 - 1 - 0 = m by omega]
    by_cases h : a / 2 ^ m % 2 = b / 2 ^ m % 2
    · rw [if_pos h, h, decide_eq_true rfl, Nat.mul_zero, Nat.add_zero]
      exact e
    · rw [if_neg h, decide_eq_false (by omega), Nat.mul_one]
      show (List.map _ (0 :: _)).sum = _
      rw [List.map_cons, List.sum_cons, e, show m + 1 - 1 - 0 = m by omega, Int.natCast_add]
      omega
def gray (n : Nat) : Nat := n ^^^ (n / 2)
/-- xor of all that are half, half again .. -/
def ungray : Nat → Nat → Nat → Nat
  | 0, f, _ => f
  | k + 1, f, c => ungray k (f ^^^ c) (c / 2)
def dif14 (a b : Nat) : Nat := ((List.range 14).filter fun k => !Nat.beq (a / 2 ^ (13 - k) % 2) (b / 2 ^ (13 - k) % 2)).length
end K14
end Eng
namespace Eng
namespace K14
theorem gray_all : ((List.range 5000).all fun n => Nat.beq (dif14 (gray n) (gray (n + 1))) 1 && Nat.beq (ungray 14 0 (gray n)) n && Nat.beq (gray (ungray 14 0 n)) n && Nat.ble (gray n + 1) 8192 && Nat.ble (ungray 14 0 n + 1) 8192) = true := by decide +kernel
end K14
end Eng
set_option maxHeartbeats 4000000
namespace Eng
namespace K14
open circuitstack_k14_values_told_as_bits
open PySem (Str)
local macro_rules | `(tactic| walk_at "sz") => `(tactic| (refine' Sz.mono ?hz ?hl; (case hz => repeat' (first | assumption | refine' Sz.add ?_ ?_ | refine' Sz.sub ?_ ?_ | refine' Sz.mul ?_ ?_ | refine' Sz.div ?_ ?_ | refine' Sz.neg ?_ | exact sz_0 | exact sz_1 | exact sz_h)); (case hl => decide)))
local macro_rules | `(tactic| walk_at "ev") => `(tactic| repeat' (first
  | exact Ev.int | exact Ev.var rfl | exact Ev.own rfl | exact Ev.bl | exact Ev.non | exact Ev.str | exact Ev.lamv | exact Ev.glob rfl
  | refine' Ev.add ?_ ?_ | refine' Ev.sub ?_ ?_ | refine' Ev.mul ?_ ?_ ?_ | refine' Ev.fdiv ?_ ?_ ?_ | refine' Ev.mod ?_ ?_ ?_ | refine' Ev.neg ?_
  | refine' Ev.ix ?_ ?_ ?_ | refine' Ev.lt ?_ ?_ | refine' Ev.le ?_ ?_ | refine' Ev.gt ?_ ?_ | refine' Ev.ge ?_ ?_ | refine' Ev.eq ?_ ?_ ?_ | refine' Ev.ne ?_ ?_ ?_
  | refine' Ev.not ?_ ?_ | refine' Ev.b1 ?_ ?_ | refine' Ev.b2 ?_ ?_ ?_ | refine' Ev.tup ?_ ?_ | refine' Ev.lst ?_ ?_ | exact Evs.nil | refine' Evs.cons ?_ ?_
  | refine' EvT.of ?_ ?_ | refine' Ev.and ?_ | refine' Ev.or ?_ | refine' EvA.one ?_ | refine' EvO.one ?_ | refine' EvA.cons ?_ (fun _ => ?_) | refine' EvO.cons ?_ (fun _ => ?_)
  | refine' Ev.call (runsF_succ _ _ _ _) ?_ ?_ | exact EvF.nil | refine' EvF.val ?_ ?_ | refine' EvF.own ?_ ?_
  | refine' C_plain ?_ ?_ ?_ | refine' C_added ?_ ?_ | refine' C_less ?_ ?_ | refine' C_times ?_ ?_ | refine' C_parted ?_ ?_ ?_ | refine' C_isless ?_ ?_
  | refine' C_check ?_ ?_ | refine' C_steps ?_ ?_
  | (walk_at "sz") | rfl))
local macro_rules | `(tactic| walk_at "nrm") => `(tactic| (try simp only [List.set_cons_zero, List.set_cons_succ]))
theorem hF : 16000 < fuel := by decide
theorem sz_0 : Sz 1 0 := ⟨by decide, by decide⟩
theorem sz_1 : Sz 1 1 := ⟨by decide, by decide⟩
theorem sz_h : Sz 2 (1 / 2 : Rat) := ⟨by decide +kernel, by decide +kernel⟩
section
variable {n : Nat} {st : Sto} {p q : Rat}
theorem C_plain {a b : Int} (h0 : b ≠ 0) (za : Iz 8000 a) (zb : Iz 8000 b) : Cl (callF prg fnsA fuel n) 0 [.int a, .int b] st (sh (Rat.divInt a b)) st := plain_S fx0 h0 za zb hF
theorem C_added (zp : Sz 2000 p) (zq : Sz 2000 q) : Cl (callF prg fnsA fuel (n + 1)) 1 [sh p, sh q] st (sh (p + q)) st := added_S fx1 fx0 hF zp zq
theorem C_less (zp : Sz 2000 p) (zq : Sz 2000 q) : Cl (callF prg fnsA fuel (n + 1)) 2 [sh p, sh q] st (sh (p - q)) st := less_S fx2 fx0 hF zp zq
theorem C_times (zp : Sz 3000 p) (zq : Sz 3000 q) : Cl (callF prg fnsA fuel (n + 1)) 3 [sh p, sh q] st (sh (p * q)) st := times_S fx3 fx0 hF zp zq
theorem C_parted (h0 : q ≠ 0) (zp : Sz 3000 p) (zq : Sz 3000 q) : Cl (callF prg fnsA fuel (n + 1)) 4 [sh p, sh q] st (sh (p / q)) st := parted_S fx4 fx0 hF h0 zp zq
theorem C_isless (zp : Sz 3000 p) (zq : Sz 3000 q) : Cl (callF prg fnsA fuel n) 5 [sh p, sh q] st (.bl (decide (p < q))) st := isLess_S fx5 zp zq
theorem C_check {m : Nat} (h0 : 1 ≤ m) (h1 : m ≤ 16) : Cl (callF prg fnsA fuel n) 6 [.int (m : Int)] st .non st := by
  refine Cl.nx (Γ' := [.val (.int m)]) fx6 rfl rfl ?_
  refine Xs.cons (Xe.ifN (EvT.is (EvT.bl (Ev.notB (Ev.cmp2 Ev.int (Ev.var rfl) rfl (fun _ => Ev.glob rfl) (fun _ => rfl)))) ?_)) Xs.nil
  rw [decide_eq_true (by omega), decide_eq_true (by omega)]
  rfl
theorem C_steps {m : Nat} (h0 : 1 ≤ m) (h1 : m ≤ 16) : Cl (callF prg fnsA fuel (n + 1)) 7 [.int (m : Int)] st (.int ((2 ^ m : Nat) : Int)) st := by
  obtain ⟨Γ', s', l1, rfl, x, rfl⟩ := forL_rng (bind := bindP (.name 2)) (body := execs prg (runsF prg fnsA fuel (n + 1)) fuel (.cons (.aug 1 .mul (.int 2)) .nil)) (fun (k : Nat) => D.int (k : Int)) (fun k Γ s => s = st ∧ ∃ x, Γ = [.val (.int (m : Int)), .val (.int ((2 ^ k : Nat) : Int)), x]) m (Γ := [.val (.int (m : Int)), .val (.int 1), .no]) (st := st) ⟨rfl, .no, rfl⟩ (by
    rintro k Γ s hk ⟨rfl, x, rfl⟩
    refine ⟨_, _, _, rfl, .inl (Xs.cons (Xe.augMul rfl Ev.int mulOk_r rfl) Xs.nil).h, rfl, .val (.int (k : Int)), ?_⟩
    rw [Nat.pow_succ, Int.natCast_mul]
    rfl)
  refine Cl.ret fx7 rfl rfl ?_
  refine Xs.cons (Xe.expr (Ev.call (runsF_succ _ _ _ _) (Evs.cons (Ev.var rfl) Evs.nil) (C_check h0 h1))) ?_
  refine Xs.cons (Xe.asg Ev.int rfl rfl) ?_
  refine Xs.cons (Xe.forr (EvI.range1 (Ev.var rfl) (rng_small (by omega))) (rangeD_nat m ▸ l1)) ?_
  exact Xs.leave (Xe.ret (Ev.var rfl)) rfl
theorem fdiv2 (v : Int) : v.fdiv 2 = v / 2 := Int.fdiv_eq_ediv_of_nonneg _ (by decide)
theorem fmod2 (v : Int) : v.fmod 2 = v % 2 := Int.fmod_eq_emod_of_nonneg _ (by decide)
theorem bitsL_step (k : Nat) (v : Int) : bitsL (k + 1) v = (v / 2 ^ k % 2) :: bitsL k v := by
  rw [bitsL_get, bitsL_get, List.range_succ_eq_map, List.map_cons, List.map_map]
  congr 1
  apply List.map_congr_left
  intro j hj
  show v / 2 ^ (k + 1 - 1 - (j + 1)) % 2 = _
  rw [show k + 1 - 1 - (j + 1) = k - 1 - j by omega]
theorem half_pow (k : Nat) (v : Int) : v / 2 ^ k / 2 = v / 2 ^ (k + 1) := by
  rw [Int.ediv_ediv_of_nonneg (Int.le_of_lt (two_pos k)), Int.pow_succ]
theorem nat_two (m : Nat) : ((2 ^ m : Nat) : Int) = 2 ^ m := by
  rw [Int.natCast_pow]
  rfl
theorem C_bits {m : Nat} {v : Int} (h0 : 1 ≤ m) (h1 : m ≤ 16) (v0 : 0 ≤ v) (v1 : v < 2 ^ m) : Cl (callF prg fnsA fuel (n + 2)) 8 [.int v, .int (m : Int)] st (.tup ((bitsL m v).map .int)) st := by
  obtain ⟨Γ', s', l1, rfl, x, rfl⟩ := forL_rng (bind := bindP (.name 3)) (body := execs prg (runsF prg fnsA fuel (n + 2)) fuel (.cons (.ins 2 (.int 0) (.bop .mod (.var 0) (.int 2))) (.cons (.aug 0 .fdiv (.int 2)) .nil))) (fun (k : Nat) => D.int (k : Int)) (fun k Γ s => s = st ∧ ∃ x, Γ = [.val (.int (v / 2 ^ k)), .val (.int (m : Int)), .own ((bitsL k v).map .int), x]) m (Γ := [.val (.int v), .val (.int (m : Int)), .own [], .no]) (st := st) ⟨rfl, .no, by simp [bitsL]⟩ (by
    rintro k Γ s hk ⟨rfl, x, rfl⟩
    refine ⟨_, _, _, rfl, .inl (Xs.cons (Xe.ins0 rfl (Ev.mod (Ev.var rfl) Ev.int (by decide)) (big_map (by rw [bitsL_len]; omega)) rfl) (Xs.cons (Xe.augDiv rfl Ev.int (by decide) rfl) Xs.nil)).h, rfl, .val (.int (k : Int)), ?_⟩
    rw [bitsL_step, List.map_cons, ← half_pow, fdiv2, fmod2]
    rfl)
  refine Cl.ret fx8 rfl rfl ?_
  refine Xs.cons (Xe.ifN (EvT.is (EvT.bl (Ev.notB (Ev.cmp2 Ev.int (Ev.var rfl) rfl (fun _ => Ev.call (runsF_succ _ _ _ _) (Evs.cons (Ev.var rfl) Evs.nil) (C_steps h0 h1)) (fun _ => rfl)))) ?_)) ?_
  · rw [nat_two, decide_eq_true v0, decide_eq_true v1]
    rfl
  refine Xs.cons (Xe.setN (Ev.lst Evs.nil rfl) rfl rfl) ?_
  refine Xs.cons (Xe.forr (EvI.range1 (Ev.var rfl) (rng_small (by omega))) (rangeD_nat m ▸ l1)) ?_
  exact Xs.leave (Xe.ret (Ev.b1 (Ev.own rfl) rfl)) rfl
end
end K14
end Eng
set_option maxHeartbeats 4000000
namespace Eng
namespace K14
open circuitstack_k14_values_told_as_bits
open PySem (Str)
local macro_rules | `(tactic| walk_at "sz") => `(tactic| (refine' Sz.mono ?hz ?hl; (case hz => repeat' (first | assumption | refine' Sz.add ?_ ?_ | refine' Sz.sub ?_ ?_ | refine' Sz.mul ?_ ?_ | refine' Sz.div ?_ ?_ | refine' Sz.neg ?_ | exact sz_0 | exact sz_1 | exact sz_h)); (case hl => decide)))
local macro_rules | `(tactic| walk_at "ev") => `(tactic| repeat' (first
  | exact Ev.int | exact Ev.var rfl | exact Ev.own rfl | exact Ev.bl | exact Ev.non | exact Ev.str | exact Ev.lamv | exact Ev.glob rfl
  | refine' Ev.add ?_ ?_ | refine' Ev.sub ?_ ?_ | refine' Ev.mul ?_ ?_ ?_ | refine' Ev.fdiv ?_ ?_ ?_ | refine' Ev.mod ?_ ?_ ?_ | refine' Ev.neg ?_
  | refine' Ev.ix ?_ ?_ ?_ | refine' Ev.lt ?_ ?_ | refine' Ev.le ?_ ?_ | refine' Ev.gt ?_ ?_ | refine' Ev.ge ?_ ?_ | refine' Ev.eq ?_ ?_ ?_ | refine' Ev.ne ?_ ?_ ?_
  | refine' Ev.not ?_ ?_ | refine' Ev.b1 ?_ ?_ | refine' Ev.b2 ?_ ?_ ?_ | refine' Ev.tup ?_ ?_ | refine' Ev.lst ?_ ?_ | exact Evs.nil | refine' Evs.cons ?_ ?_
  | refine' EvT.of ?_ ?_ | refine' Ev.and ?_ | refine' Ev.or ?_ | refine' EvA.one ?_ | refine' EvO.one ?_ | refine' EvA.cons ?_ (fun _ => ?_) | refine' EvO.cons ?_ (fun _ => ?_)
  | refine' Ev.call (runsF_succ _ _ _ _) ?_ ?_ | exact EvF.nil | refine' EvF.val ?_ ?_ | refine' EvF.own ?_ ?_
  | refine' C_plain ?_ ?_ ?_ | refine' C_added ?_ ?_ | refine' C_less ?_ ?_ | refine' C_times ?_ ?_ | refine' C_parted ?_ ?_ ?_ | refine' C_isless ?_ ?_
  | refine' C_check ?_ ?_ | refine' C_steps ?_ ?_
  | (walk_at "sz") | rfl))
local macro_rules | `(tactic| walk_at "nrm") => `(tactic| (try simp only [List.set_cons_zero, List.set_cons_succ]))
theorem shp_ints' {l : List Int} : D.shp 60 (.lst (l.map .int)) = true := shp_ints
abbrev valL (l : List Int) : Int := l.foldl (fun a b => 2 * a + b) 0
section
variable {n : Nat} {st : Sto} {p q t : Rat}
theorem notin01 {x : Int} (h : x = 0 ∨ x = 1) : cmpV st .nin (.int x) (.tup [.int 0, .int 1]) = some false := by
  rcases h with h | h <;> (subst h; rfl)
theorem C_value {l : List Int} (h0 : 1 ≤ l.length) (h1 : l.length ≤ 16) (hl : ∀ x ∈ l, x = 0 ∨ x = 1) : Cl (callF prg fnsA fuel (n + 1)) 9 [.lst (l.map .int)] st (.int (valL l)) st := by
  obtain ⟨Γ', l1, x, rfl⟩ := forL_fold (σ := Int) (bind := bindP (.name 2)) (body := execs prg (runsF prg fnsA fuel (n + 1)) fuel (.cons (.iff (.cmp .nin (.var 2) (.tup (.cons (.int 0) (.cons (.int 1) .nil)))) (.cons (.rais 2) .nil) .nil) (.cons (.asg (.name 1) (.bop .add (.bop .mul (.int 2) (.var 1)) (.var 2))) .nil))) D.int (fun a b => 2 * a + b)
    (fun s Γ => ∃ x, Γ = [.val (.lst (l.map .int)), .val (.int s), x]) (fun _ => st) l 0 [.val (.lst (l.map .int)), .val (.int 0), .no] ⟨_, rfl⟩ (by
      rintro b hb s Γ ⟨x, rfl⟩
      refine ⟨_, _, rfl, .inl (Xs.cons (Xe.ifN (EvT.bl (Ev.cmp (Ev.var rfl) (.tup (.cons .int (.cons .int .nil)) rfl) (notin01 (hl b hb))))) (Xs.cons (Xe.asg (Ev.add (Ev.mul Ev.int (Ev.var rfl) (mulOk_l)) (Ev.var rfl)) rfl rfl) Xs.nil)).h, .val (.int b), ?_⟩
      rfl)
  refine Cl.ret fx9 rfl rfl ?_
  refine Xs.cons (Xe.expr (Ev.c1 (Ev.b1 (Ev.var rfl) rfl) (C_check (m := l.length) h0 h1 |> fun h => by rw [← List.length_map (f := D.int)] at h; exact h))) ?_
  refine Xs.cons (Xe.asg Ev.int rfl rfl) ?_
  refine Xs.cons (Xe.forr (EvI.seqL (Ev.var rfl)) l1) ?_
  exact Xs.leave (Xe.ret (Ev.var rfl)) rfl
theorem C_made {m : Nat} {v : Int} (h0 : 1 ≤ m) (h1 : m ≤ 16) (v0 : 0 ≤ v) (v1 : v < 2 ^ m) (zt : Sz 100 t) : Cl (callF prg fnsA fuel (n + 3)) 10 [.int v, .int (m : Int), sh t] st (sh (t * Rat.divInt v ((2 ^ m : Nat) : Int))) st := by
  have z2 : Iz 17 ((2 ^ m : Nat) : Int) := by
    unfold Iz
    rw [Int.natAbs_natCast]
    exact Nat.pow_lt_pow_right (by decide) (by omega)
  have ne : ((2 ^ m : Nat) : Int) ≠ 0 := by rw [nat_two]; have := two_pos m; omega
  have zv : Iz 17 v := by
    rw [← nat_two] at v1
    unfold Iz at z2 ⊢
    omega
  refine Cl.ret fx10 rfl rfl ?_
  refine Xs.cons (Xe.expr (Ev.c2 (Ev.var rfl) (Ev.var rfl) (C_bits h0 h1 v0 v1))) ?_
  refine Xs.leave (Xe.ret (Ev.c2 (Ev.var rfl) (Ev.c2 (Ev.var rfl) (Ev.c1 (Ev.var rfl) (C_steps h0 h1)) (C_plain ne (zv.mono (by decide)) (z2.mono (by decide)))) (C_times (zt.mono (by decide)) (Sz.mono (Sz.divInt zv z2 ne) (by decide))))) rfl
end
end K14
end Eng
set_option maxHeartbeats 4000000
namespace Eng
namespace K14
open circuitstack_k14_values_told_as_bits
open PySem (Str)
local macro_rules | `(tactic| walk_at "sz") => `(tactic| (refine' Sz.mono ?hz ?hl; (case hz => repeat' (first | assumption | refine' Sz.add ?_ ?_ | refine' Sz.sub ?_ ?_ | refine' Sz.mul ?_ ?_ | refine' Sz.div ?_ ?_ | refine' Sz.neg ?_ | exact sz_0 | exact sz_1 | exact sz_h)); (case hl => decide)))
local macro_rules | `(tactic| walk_at "ev") => `(tactic| repeat' (first
  | exact Ev.int | exact Ev.var rfl | exact Ev.own rfl | exact Ev.bl | exact Ev.non | exact Ev.str | exact Ev.lamv | exact Ev.glob rfl
  | refine' Ev.add ?_ ?_ | refine' Ev.sub ?_ ?_ | refine' Ev.mul ?_ ?_ ?_ | refine' Ev.fdiv ?_ ?_ ?_ | refine' Ev.mod ?_ ?_ ?_ | refine' Ev.neg ?_
  | refine' Ev.ix ?_ ?_ ?_ | refine' Ev.lt ?_ ?_ | refine' Ev.le ?_ ?_ | refine' Ev.gt ?_ ?_ | refine' Ev.ge ?_ ?_ | refine' Ev.eq ?_ ?_ ?_ | refine' Ev.ne ?_ ?_ ?_
  | refine' Ev.not ?_ ?_ | refine' Ev.b1 ?_ ?_ | refine' Ev.b2 ?_ ?_ ?_ | refine' Ev.tup ?_ ?_ | refine' Ev.lst ?_ ?_ | exact Evs.nil | refine' Evs.cons ?_ ?_
  | refine' EvT.of ?_ ?_ | refine' Ev.and ?_ | refine' Ev.or ?_ | refine' EvA.one ?_ | refine' EvO.one ?_ | refine' EvA.cons ?_ (fun _ => ?_) | refine' EvO.cons ?_ (fun _ => ?_)
  | refine' Ev.call (runsF_succ _ _ _ _) ?_ ?_ | exact EvF.nil | refine' EvF.val ?_ ?_ | refine' EvF.own ?_ ?_
  | refine' C_plain ?_ ?_ ?_ | refine' C_added ?_ ?_ | refine' C_less ?_ ?_ | refine' C_times ?_ ?_ | refine' C_parted ?_ ?_ ?_ | refine' C_isless ?_ ?_
  | refine' C_check ?_ ?_ | refine' C_steps ?_ ?_
  | (walk_at "sz") | rfl))
local macro_rules | `(tactic| walk_at "nrm") => `(tactic| (try simp only [List.set_cons_zero, List.set_cons_succ]))
theorem valL_bd : ∀ (l : List Int), (∀ x ∈ l, x = 0 ∨ x = 1) → 0 ≤ valL l ∧ valL l < 2 ^ l.length
  | [], _ => ⟨by decide, by decide⟩
  | x :: l, h => by
    have ih := valL_bd l fun y hy => h y (by simp [hy])
    have hx := h x (by simp)
    show 0 ≤ l.foldl _ (2 * 0 + x) ∧ l.foldl _ (2 * 0 + x) < _
    rw [fold_bits, List.length_cons, Int.pow_succ]
    have := two_pos l.length
    have e : valL l = l.foldl (fun a b => 2 * a + b) 0 := rfl
    rw [← e]
    rcases hx with rfl | rfl <;> omega
theorem rat_two_ne (m : Nat) : (2 : Rat) ^ m ≠ 0 := by
  have : (0 : Rat) < 2 ^ m := Rat.pow_pos (by decide +kernel)
  grind
theorem nat_two_rat (m : Nat) : ((((2 ^ m : Nat) : Int)) : Rat) = 2 ^ m := by
  rw [nat_two, Rat.intCast_pow]; rfl
/-- the rungs -/
abbrev ladF (t : Rat) (h : Rat) (b : Int) : Rat := (h + (if b = 1 then t else 0)) * (1 / 2)
theorem lad_val (t : Rat) (l : List Int) (hl : ∀ x ∈ l, x = 0 ∨ x = 1) : l.reverse.foldl (ladF t) 0 = t * ((valL l : Rat) / (((2 ^ l.length : Nat) : Int) : Rat)) := by
  have h := ladder_sum t l hl
  have h2 := rat_two_ne l.length
  rw [nat_two_rat]
  show List.foldl (fun (h : Rat) (b : Int) => (h + (if b = 1 then t else 0)) * (1 / 2)) 0 l.reverse = _
  generalize List.foldl _ _ l.reverse = X at *
  generalize (2 : Rat) ^ l.length = Z at *
  show X = t * (((List.foldl (fun a b => 2 * a + b) 0 l : Int) : Rat) / Z)
  generalize ((List.foldl (fun (a b : Int) => 2 * a + b) 0 l : Int) : Rat) = Y at *
  rw [Rat.div_def]
  have := Rat.mul_inv_cancel Z h2
  grind
section
variable {n : Nat} {st : Sto} {p q t v : Rat}
theorem two_size {m : Nat} (h1 : m ≤ 16) : Iz 17 ((2 ^ m : Nat) : Int) := by
  unfold Iz
  rw [Int.natAbs_natCast]
  exact Nat.pow_lt_pow_right (by decide) (by omega)
theorem two_ne (m : Nat) : ((2 ^ m : Nat) : Int) ≠ 0 := by rw [nat_two]; have := two_pos m; omega
theorem le_size {a : Int} {b : Nat} {w : Int} (hw : Iz b w) (h0 : 0 ≤ a) (h1 : a ≤ w) : Iz b a := by
  unfold Iz at *
  omega
theorem C_ratio {a b : Int} (h0 : b ≠ 0) (za : Iz 8000 a) (zb : Iz 8000 b) : Cl (callF prg fnsA fuel n) 0 [.int a, .int b] st (sh ((a : Rat) / (b : Rat))) st := Rat.divInt_eq_div a b ▸ C_plain h0 za zb
theorem C_made' {m : Nat} {v : Int} (h0 : 1 ≤ m) (h1 : m ≤ 16) (v0 : 0 ≤ v) (v1 : v < 2 ^ m) (zt : Sz 100 t) : Cl (callF prg fnsA fuel (n + 3)) 10 [.int v, .int (m : Int), sh t] st (sh (t * ((v : Rat) / (((2 ^ m : Nat) : Int) : Rat)))) st := Rat.divInt_eq_div v _ ▸ C_made h0 h1 v0 v1 zt
theorem C_ladder {l : List Int} (h0 : 1 ≤ l.length) (h1 : l.length ≤ 16) (hl : ∀ x ∈ l, x = 0 ∨ x = 1) (zt : Sz 100 t) : Cl (callF prg fnsA fuel (n + 2)) 11 [.lst (l.map .int), sh t] st (sh (t * ((valL l : Rat) / (((2 ^ l.length : Nat) : Int) : Rat)))) st := by
  have zh : ∀ i, Sz 200 ((l.reverse.take i).foldl (ladF t) 0) := fun i => by
    have h := lad_val t (l.reverse.take i).reverse (fun x hx => hl x (by
      have := List.mem_of_mem_take (List.mem_reverse.mp hx)
      exact List.mem_reverse.mp this))
    rw [List.reverse_reverse] at h
    rw [h]
    have hb := valL_bd (l.reverse.take i).reverse (fun x hx => hl x (by
      have := List.mem_of_mem_take (List.mem_reverse.mp hx)
      exact List.mem_reverse.mp this))
    have hlen : (l.reverse.take i).reverse.length ≤ 16 := by
      rw [List.length_reverse, List.length_take, List.length_reverse]; omega
    have z2 := two_size hlen
    have zv : Iz 17 (valL (l.reverse.take i).reverse) := le_size z2 hb.1 (by rw [nat_two]; omega)
    exact Sz.mono (Sz.mul zt (Sz.div (Sz.int zv (by decide)) (Sz.int z2 (by decide)))) (by decide)
  obtain ⟨Γ', s', l1, rfl, x, rfl⟩ := forL_idx (bind := bindP (.name 3)) (body := execs prg (runsF prg fnsA fuel (n + 2)) fuel (.cons (.asg (.name 2) (.call 3 (.cons (.call 1 (.cons (.var 2) (.cons (.ite (.cmp .eq (.var 3) (.int 1)) (.var 1) (.tup (.cons (.int 0) (.cons (.int 1) .nil)))) .nil))) (.cons (.tup (.cons (.int 1) (.cons (.int 2) .nil))) .nil)))) .nil)) D.int
    (fun i Γ s => s = st ∧ ∃ x, Γ = [.val (.lst (l.map .int)), .val (sh t), .val (sh ((l.reverse.take i).foldl (ladF t) 0)), x]) l.reverse (Γ := [.val (.lst (l.map .int)), .val (sh t), .val (sh 0), .no]) (st := st) ⟨rfl, .no, rfl⟩ (by
      rintro i b Γ s hb ⟨rfl, x, rfl⟩
      have e : (l.reverse.take (i + 1)).foldl (ladF t) 0 = ((l.reverse.take i).foldl (ladF t) 0 + (if b = 1 then t else 0)) * (1 / 2) := by
        rw [List.take_add_one, hb, List.foldl_append]
        rfl
      have zi : Sz 100 (if b = 1 then t else 0) := by
        split
        · exact zt
        · exact sz_0.mono (by decide)
      have za : Sz 301 ((l.reverse.take i).foldl (ladF t) 0 + (if b = 1 then t else 0)) := by
        exact Sz.mono (Sz.add (zh i) zi) (by decide)
      refine ⟨_, _, _, rfl, .inl (Xs.cons (Xe.asg (Ev.c2 (Ev.c2 (Ev.var rfl) (Ev.iteP (f := sh) (p := b = 1) (EvT.bl (Ev.eqI (Ev.var rfl) Ev.int)) (fun _ => Ev.var rfl) (fun _ => Ev.zero)) (C_added ((zh i).mono (by decide)) (zi.mono (by decide)))) Ev.half (C_times (za.mono (by decide)) (sz_h.mono (by decide)))) rfl rfl) Xs.nil).h, rfl, .val (.int b), ?_⟩
      rw [e]
      rfl)
  refine Cl.ret fx11 rfl rfl ?_
  refine Xs.cons (Xe.expr (Ev.c1 (Ev.var rfl) (C_value h0 h1 hl))) ?_
  refine Xs.cons (Xe.asg Ev.zero rfl rfl) ?_
  refine Xs.cons (Xe.forr (EvI.seqL (Ev.rev (Ev.var rfl) (by rw [revV, ← List.map_reverse]))) l1) ?_
  refine Xs.leave (Xe.ret (Ev.is (Ev.var rfl) ?_)) rfl
  rw [List.take_of_length_le (by rw [List.length_reverse]; exact Nat.le_refl _), lad_val t l hl]
end
end K14
end Eng
set_option maxHeartbeats 4000000
namespace Eng
namespace K14
open circuitstack_k14_values_told_as_bits
open PySem (Str)
local macro_rules | `(tactic| walk_at "sz") => `(tactic| (refine' Sz.mono ?hz ?hl; (case hz => repeat' (first | assumption | refine' Sz.add ?_ ?_ | refine' Sz.sub ?_ ?_ | refine' Sz.mul ?_ ?_ | refine' Sz.div ?_ ?_ | refine' Sz.neg ?_ | exact sz_0 | exact sz_1 | exact sz_h)); (case hl => decide)))
local macro_rules | `(tactic| walk_at "ev") => `(tactic| repeat' (first
  | exact Ev.int | exact Ev.var rfl | exact Ev.own rfl | exact Ev.bl | exact Ev.non | exact Ev.str | exact Ev.lamv | exact Ev.glob rfl
  | refine' Ev.add ?_ ?_ | refine' Ev.sub ?_ ?_ | refine' Ev.mul ?_ ?_ ?_ | refine' Ev.fdiv ?_ ?_ ?_ | refine' Ev.mod ?_ ?_ ?_ | refine' Ev.neg ?_
  | refine' Ev.ix ?_ ?_ ?_ | refine' Ev.lt ?_ ?_ | refine' Ev.le ?_ ?_ | refine' Ev.gt ?_ ?_ | refine' Ev.ge ?_ ?_ | refine' Ev.eq ?_ ?_ ?_ | refine' Ev.ne ?_ ?_ ?_
  | refine' Ev.not ?_ ?_ | refine' Ev.b1 ?_ ?_ | refine' Ev.b2 ?_ ?_ ?_ | refine' Ev.tup ?_ ?_ | refine' Ev.lst ?_ ?_ | exact Evs.nil | refine' Evs.cons ?_ ?_
  | refine' EvT.of ?_ ?_ | refine' Ev.and ?_ | refine' Ev.or ?_ | refine' EvA.one ?_ | refine' EvO.one ?_ | refine' EvA.cons ?_ (fun _ => ?_) | refine' EvO.cons ?_ (fun _ => ?_)
  | refine' Ev.call (runsF_succ _ _ _ _) ?_ ?_ | exact EvF.nil | refine' EvF.val ?_ ?_ | refine' EvF.own ?_ ?_
  | refine' C_plain ?_ ?_ ?_ | refine' C_added ?_ ?_ | refine' C_less ?_ ?_ | refine' C_times ?_ ?_ | refine' C_parted ?_ ?_ ?_ | refine' C_isless ?_ ?_
  | refine' C_check ?_ ?_ | refine' C_steps ?_ ?_
  | (walk_at "sz") | rfl))
local macro_rules | `(tactic| walk_at "nrm") => `(tactic| (try simp only [List.set_cons_zero, List.set_cons_succ]))
section
variable {n : Nat} {st : Sto} {p q t v : Rat}
abbrev wF (s : Rat × Rat) (bv : Int × Rat) : Rat × Rat := (if bv.1 = 1 then s.1 + 1 / bv.2 else s.1, s.2 + 1 / bv.2)
theorem wF_sz {c : Nat} (hc : 0 < c) : ∀ (l : List (Int × Rat)) (s : Rat × Rat) (B : Nat), (∀ x ∈ l, Sz c x.2) → Sz B s.1 → Sz B s.2 → Sz (B + (c + 2) * l.length) (l.foldl wF s).1 ∧ Sz (B + (c + 2) * l.length) (l.foldl wF s).2
  | [], s, B, _, h1, h2 => ⟨h1, h2⟩
  | x :: l, s, B, h, h1, h2 => by
    have zi : Sz (c + 1) (1 / x.2) := Sz.mono (Sz.div sz_1 (h x (by simp))) (by omega)
    have := wF_sz hc l (wF s x) (B + (c + 2)) (fun y hy => h y (by simp [hy])) (by
      show Sz _ (if x.1 = 1 then s.1 + 1 / x.2 else s.1)
      split
      · exact Sz.mono (Sz.add h1 zi) (by omega)
      · exact h1.mono (by omega)) (Sz.mono (Sz.add h2 zi) (by omega))
    rw [List.length_cons, Nat.mul_add, Nat.mul_one, Nat.add_comm ((c + 2) * l.length), ← Nat.add_assoc]
    exact this
theorem wF_take {l : List (Int × Rat)} {i : Nat} {x : Int × Rat} (h : l[i]? = some x) : (l.take (i + 1)).foldl wF (0, 0) = wF ((l.take i).foldl wF (0, 0)) x := by
  rw [List.take_add_one, h, List.foldl_append]
  rfl
theorem C_weight {l : List Int} {vs : List Rat} (h0 : 1 ≤ l.length) (h1 : l.length ≤ 16) (hl : ∀ x ∈ l, x = 0 ∨ x = 1) (hv : ∀ x ∈ vs, 0 < x ∧ Sz 20 x) (he : vs.length = l.length) (h2 : ((List.zip l vs).foldl wF (0, 0)).2 ≠ 0) (zt : Sz 100 t) :
    Cl (callF prg fnsA fuel (n + 2)) 12 [.lst (l.map .int), .lst (vs.map sh), sh t] st (sh (t * (((List.zip l vs).foldl wF (0, 0)).1 / ((List.zip l vs).foldl wF (0, 0)).2))) st := by
  have zw : ∀ i, Sz 400 (((List.zip l vs).take i).foldl wF (0, 0)).1 ∧ Sz 400 (((List.zip l vs).take i).foldl wF (0, 0)).2 := fun i => by
    have h := wF_sz (c := 20) (by decide) ((List.zip l vs).take i) (0, 0) 1 (fun x hx => (hv x.2 (List.of_mem_zip (List.mem_of_mem_take hx)).2).2) sz_0 sz_0
    have hl : ((List.zip l vs).take i).length ≤ 16 := by rw [List.length_take, List.length_zip]; omega
    exact ⟨h.1.mono (by omega), h.2.mono (by omega)⟩
  obtain ⟨Γ', s', l1, rfl, x, y, z, rfl⟩ := forL_idx (bind := bindP (.pair (.name 6) (.name 3))) (body := execs prg (runsF prg fnsA fuel (n + 2)) fuel (.cons (.asg (.name 7) (.call 4 (.cons (.tup (.cons (.int 1) (.cons (.int 1) .nil))) (.cons (.var 3) .nil)))) (.cons (.asg (.name 5) (.call 1 (.cons (.var 5) (.cons (.var 7) .nil)))) (.cons (.asg (.name 4) (.ite (.cmp .eq (.var 6) (.int 1)) (.call 1 (.cons (.var 4) (.cons (.var 7) .nil))) (.var 4))) .nil)))) (fun p : Int × Rat => D.tup [.int p.1, sh p.2])
    (fun i Γ s => s = st ∧ ∃ x y z, Γ = [.val (.lst (l.map .int)), .val (.lst (vs.map sh)), .val (sh t), x, .val (sh (((List.zip l vs).take i).foldl wF (0, 0)).1), .val (sh (((List.zip l vs).take i).foldl wF (0, 0)).2), y, z]) (List.zip l vs)
    (Γ := [.val (.lst (l.map .int)), .val (.lst (vs.map sh)), .val (sh t), .no, .val (sh 0), .val (sh 0), .no, .no]) (st := st) ⟨rfl, .no, .no, .no, rfl⟩ (by
      rintro i b Γ s hb ⟨rfl, x, y, z, rfl⟩
      have hm := hv b.2 (List.of_mem_zip (List.mem_of_getElem? hb)).2
      have hne : b.2 ≠ 0 := by grind
      have zi : Sz 30 (1 / b.2) := Sz.mono (Sz.div sz_1 hm.2) (by decide)
      refine ⟨_, _, _, rfl, .inl (Xs.cons (Xe.asg (Ev.c2 Ev.unit (Ev.var rfl) (C_parted hne (sz_1.mono (by decide)) (hm.2.mono (by decide)))) rfl rfl)
        (Xs.cons (Xe.asg (Ev.c2 (Ev.var rfl) (Ev.var rfl) (C_added ((zw i).2.mono (by decide)) (zi.mono (by decide)))) rfl rfl)
        (Xs.cons (Xe.asg (Ev.iteP (f := sh) (p := b.1 = 1) (EvT.bl (Ev.eqI (Ev.var rfl) Ev.int)) (fun _ => Ev.c2 (Ev.var rfl) (Ev.var rfl) (C_added ((zw i).1.mono (by decide)) (zi.mono (by decide)))) (fun _ => Ev.var rfl)) rfl rfl) Xs.nil))).h, rfl, .val (sh b.2), .val (.int b.1), .val (sh (1 / b.2)), ?_⟩
      rw [wF_take hb]
      rfl)
  refine Cl.ret fx12 rfl rfl ?_
  refine Xs.cons (Xe.expr (Ev.c1 (Ev.var rfl) (C_value h0 h1 hl))) ?_
  refine Xs.cons (Xe.ifN (EvT.is (EvT.bl (Ev.or (EvO.cons (Ev.neI (Ev.len (Ev.var rfl)) (Ev.len (Ev.var rfl))) fun _ => EvO.one (Ev.genAny (runsF_succ _ _ _ _) (EvI.seqL (Ev.var rfl)) (anyL_any sh (fun v => decide (v.num ≤ 0)) vs fun v hv => ⟨_, rfl, rfl, (Ev.le (Ev.ix (Ev.var rfl) Ev.int rfl) Ev.int).h⟩) (big_map (by omega)))))) ?_)) ?_
  · rw [List.length_map, List.length_map, he, decide_eq_true rfl, List.any_eq_false.mpr fun v hh => by rw [num_le (hv v hh).1]; decide]
    rfl
  refine Xs.cons (Xe.par (EvF.val Ev.zero (EvF.val Ev.zero EvF.nil)) rfl) ?_
  refine Xs.cons (Xe.forr (EvI.zipM (Ev.var rfl) (Ev.var rfl)) l1) ?_
  have zl := zw (List.zip l vs).length
  rw [List.take_length] at zl ⊢
  exact Xs.leave (Xe.ret (Ev.c2 (Ev.var rfl) (Ev.c2 (Ev.var rfl) (Ev.var rfl) (C_parted h2 (zl.1.mono (by decide)) (zl.2.mono (by decide)))) (C_times (zt.mono (by decide)) (Sz.mono (Sz.div zl.1 zl.2) (by decide))))) rfl
end
end K14
end Eng
set_option maxHeartbeats 4000000
namespace Eng
namespace K14
open circuitstack_k14_values_told_as_bits
open PySem (Str)
local macro_rules | `(tactic| walk_at "sz") => `(tactic| (refine' Sz.mono ?hz ?hl; (case hz => repeat' (first | assumption | refine' Sz.add ?_ ?_ | refine' Sz.sub ?_ ?_ | refine' Sz.mul ?_ ?_ | refine' Sz.div ?_ ?_ | refine' Sz.neg ?_ | exact sz_0 | exact sz_1 | exact sz_h)); (case hl => decide)))
local macro_rules | `(tactic| walk_at "ev") => `(tactic| repeat' (first
  | exact Ev.int | exact Ev.var rfl | exact Ev.own rfl | exact Ev.bl | exact Ev.non | exact Ev.str | exact Ev.lamv | exact Ev.glob rfl
  | refine' Ev.add ?_ ?_ | refine' Ev.sub ?_ ?_ | refine' Ev.mul ?_ ?_ ?_ | refine' Ev.fdiv ?_ ?_ ?_ | refine' Ev.mod ?_ ?_ ?_ | refine' Ev.neg ?_
  | refine' Ev.ix ?_ ?_ ?_ | refine' Ev.lt ?_ ?_ | refine' Ev.le ?_ ?_ | refine' Ev.gt ?_ ?_ | refine' Ev.ge ?_ ?_ | refine' Ev.eq ?_ ?_ ?_ | refine' Ev.ne ?_ ?_ ?_
  | refine' Ev.not ?_ ?_ | refine' Ev.b1 ?_ ?_ | refine' Ev.b2 ?_ ?_ ?_ | refine' Ev.tup ?_ ?_ | refine' Ev.lst ?_ ?_ | exact Evs.nil | refine' Evs.cons ?_ ?_
  | refine' EvT.of ?_ ?_ | refine' Ev.and ?_ | refine' Ev.or ?_ | refine' EvA.one ?_ | refine' EvO.one ?_ | refine' EvA.cons ?_ (fun _ => ?_) | refine' EvO.cons ?_ (fun _ => ?_)
  | refine' Ev.call (runsF_succ _ _ _ _) ?_ ?_ | exact EvF.nil | refine' EvF.val ?_ ?_ | refine' EvF.own ?_ ?_
  | refine' C_plain ?_ ?_ ?_ | refine' C_added ?_ ?_ | refine' C_less ?_ ?_ | refine' C_times ?_ ?_ | refine' C_parted ?_ ?_ ?_ | refine' C_isless ?_ ?_
  | refine' C_check ?_ ?_ | refine' C_steps ?_ ?_
  | (walk_at "sz") | rfl))
local macro_rules | `(tactic| walk_at "nrm") => `(tactic| (try simp only [List.set_cons_zero, List.set_cons_succ]))
section
variable {n : Nat} {st : Sto} {p q t v : Rat} {m : Nat}
theorem one_two (m : Nat) : 0 < 2 ^ m := Nat.pow_pos (by decide)
theorem w_sz (h1 : m ≤ 16) : Sz 17 (((2 ^ m : Nat) : Int) : Rat) := Sz.int (two_size h1) (by decide)
theorem C_read (h0 : 1 ≤ m) (h1 : m ≤ 16) (ht : 0 < t) (zv : Sz 100 v) (zt : Sz 100 t) : Cl (callF prg fnsA fuel (n + 2)) 13 [sh v, .int (m : Int), sh t] st (.int (rd (fl v t (2 ^ m)) (2 ^ m))) st := by
  have zp : Sz 200 (v / t) := Sz.div zv zt
  have zq : Sz 217 (v / t * (((2 ^ m : Nat) : Int) : Rat)) := Sz.mul zp (w_sz h1)
  refine Cl.ret fx13 rfl rfl ?_
  refine Xs.cons (Xe.asg (Ev.c1 (Ev.var rfl) (C_steps h0 h1)) rfl rfl) ?_
  refine Xs.cons (Xe.ifN (EvT.is (EvT.bl (Ev.le (Ev.top (Ev.var rfl)) Ev.int)) (num_le ht))) ?_
  refine Xs.cons (Xe.asg (Ev.c2 (Ev.c2 (Ev.var rfl) (Ev.var rfl) (C_parted (by grind) (zv.mono (by decide)) (zt.mono (by decide)))) (Ev.whole (Ev.var rfl)) (C_times (zp.mono (by decide)) ((w_sz h1).mono (by decide)))) rfl rfl) ?_
  exact Xs.leave (Xe.ret (Ev.b2 (Ev.sub (Ev.var rfl) Ev.int) (Ev.b2 Ev.int (Ev.floor (Ev.var rfl) (Ev.var rfl) zq) rfl) rfl)) rfl
/-- less than the volts of a mark -/
theorem C_below {k : Int} {e1 e2 e3 e4 : IE} {Γ : Env} (h1 : m ≤ 16) (ht : 0 < t) (zv : Sz 100 v) (zt : Sz 100 t) (k0 : 0 ≤ k) (k1 : k ≤ ((2 ^ m : Nat) : Int))
    (a1 : Ev prg (runsF prg fnsA fuel (n + 2)) Γ st e1 (sh v) st) (a2 : Ev prg (runsF prg fnsA fuel (n + 2)) Γ st e2 (sh t) st) (a3 : Ev prg (runsF prg fnsA fuel (n + 2)) Γ st e3 (.int k) st) (a4 : Ev prg (runsF prg fnsA fuel (n + 2)) Γ st e4 (.int ((2 ^ m : Nat) : Int)) st) :
    Ev prg (runsF prg fnsA fuel (n + 2)) Γ st (.call 5 (.cons e1 (.cons (.call 3 (.cons e2 (.cons (.call 0 (.cons e3 (.cons e4 .nil))) .nil))) .nil))) (.bl (decide (fl v t (2 ^ m) < k))) st := by
  have z2 := two_size h1
  have zk : Iz 17 k := le_size z2 k0 k1
  have zr : Sz 34 ((k : Rat) / (((2 ^ m : Nat) : Int) : Rat)) := Sz.div (Sz.int zk (by decide)) (w_sz h1)
  have e : decide (v < t * ((k : Rat) / (((2 ^ m : Nat) : Int) : Rat))) = decide (fl v t (2 ^ m) < k) := decide_eq_decide.mpr (ls_iff ht (one_two m))
  rw [← e]
  exact Ev.c2 a1 (Ev.c2 a2 (Ev.c2 a3 a4 (C_ratio (two_ne m) (zk.mono (by decide)) (z2.mono (by decide)))) (C_times (zt.mono (by decide)) (zr.mono (by decide)))) (C_isless (zv.mono (by decide)) (Sz.mono (Sz.mul zt zr) (by decide)))
abbrev pr2 (p : Int × Int) : D := .tup [.int p.1, .int p.2]
theorem pow_half (j : Nat) : ((2 : Int) ^ (j + 1)) / 2 = 2 ^ j := by rw [Int.pow_succ]; omega
theorem C_search (h0 : 1 ≤ m) (h1 : m ≤ 16) (ht : 0 < t) (zv : Sz 100 v) (zt : Sz 100 t) : Cl (callF prg fnsA fuel (n + 2)) 14 [sh v, .int (m : Int), sh t] st (.tup ((srch (fl v t (2 ^ m)) m 0).map pr2)) st := by
  obtain ⟨Γ', s', l1, rfl, h, l, x, rfl, hl, _, _⟩ := whileL_dn (c := fun Γ st => tst (ev prg (runsF prg fnsA fuel (n + 2)) (.cmp .gt (.var 6) (.int 0)) Γ st)) (body := execs prg (runsF prg fnsA fuel (n + 2)) fuel (.cons (.asg (.name 7) (.not (.call 5 (.cons (.var 0) (.cons (.call 3 (.cons (.var 2) (.cons (.call 0 (.cons (.bop .add (.var 4) (.var 6)) (.cons (.var 3) .nil))) .nil))) .nil))))) (.cons (.app 5 (.tup (.cons (.bop .add (.var 4) (.var 6)) (.cons (.ite (.var 7) (.int 1) (.int 0)) .nil)))) (.cons (.aug 4 .add (.ite (.var 7) (.var 6) (.int 0))) (.cons (.aug 6 .fdiv (.int 2)) .nil)))))
    (fun j Γ s => s = st ∧ ∃ (h : Int) (l : List (Int × Int)) (x : Sl), Γ = [.val (sh v), .val (.int (m : Int)), .val (sh t), .val (.int ((2 ^ m : Nat) : Int)), .val (.int h), .own (l.map pr2), .val (.int ((2 : Int) ^ j / 2)), x] ∧ l ++ srch (fl v t (2 ^ m)) j h = srch (fl v t (2 ^ m)) m 0 ∧ 0 ≤ h ∧ h + 2 ^ j ≤ ((2 ^ m : Nat) : Int) ∧ l.length + j = m)
    (by
      rintro j Γ s ⟨rfl, h, l, x, rfl, hl, hh, hb, hlen⟩
      have tj := two_pos j
      rw [pow_half]
      refine ⟨(EvT.is (EvT.bl (Ev.gt (Ev.var rfl) Ev.int)) (decide_eq_true tj)).h, ?_⟩
      have hb2 : h + 2 ^ j ≤ ((2 ^ m : Nat) : Int) := by rw [Int.pow_succ] at hb; omega
      refine ⟨_, _, .inl (Xs.cons (Xe.asg (Ev.notB (C_below h1 ht zv zt (k := h + 2 ^ j) (by omega) hb2 (Ev.var rfl) (Ev.var rfl) (Ev.add (Ev.var rfl) (Ev.var rfl)) (Ev.var rfl))) rfl rfl) (Xs.cons (Xe.app rfl (Ev.pair (Ev.add (Ev.var rfl) (Ev.var rfl)) (Ev.iteI (EvT.bl (Ev.var rfl)) (fun _ => Ev.int) (fun _ => Ev.int))) (big_map (by omega)) rfl) (Xs.cons (Xe.augAdd rfl (Ev.iteI (EvT.bl (Ev.var rfl)) (fun _ => Ev.var rfl) (fun _ => Ev.int)) rfl) (Xs.cons (Xe.augDiv rfl Ev.int (by decide) rfl) Xs.nil)))).h, rfl, ?_⟩
      rw [fdiv2]
      by_cases hf : fl v t (2 ^ m) < h + 2 ^ j
      · refine ⟨h, l ++ [(h + 2 ^ j, 0)], .val (.bl false), ?_, ?_, hh, by omega, by rw [List.length_append]; simp; omega⟩
        · have e0 : h + (if (!true) = true then 2 ^ j else 0) = h := by simp
          rw [decide_eq_true hf, List.map_append, e0]
          rfl
        · rw [List.append_assoc, ← hl]
          conv => rhs; unfold srch
          rw [if_pos hf]
          rfl
      · refine ⟨h + 2 ^ j, l ++ [(h + 2 ^ j, 1)], .val (.bl true), ?_, ?_, by omega, by rw [Int.pow_succ] at hb; omega, by rw [List.length_append]; simp; omega⟩
        · rw [decide_eq_false hf, List.map_append]
          rfl
        · rw [List.append_assoc, ← hl]
          conv => rhs; unfold srch
          rw [if_neg hf]
          rfl)
    (by
      rintro Γ s ⟨rfl, h, l, x, rfl, hl, hh, hb, hlen⟩
      refine (EvT.is (EvT.bl (Ev.gt (Ev.var rfl) Ev.int)) ?_).h
      decide)
    m fuel [.val (sh v), .val (.int (m : Int)), .val (sh t), .val (.int ((2 ^ m : Nat) : Int)), .val (.int 0), .own [], .val (.int (((2 ^ m : Nat) : Int) / 2)), .no] st (by have := hF; omega) ⟨rfl, 0, [], .no, by rw [nat_two]; rfl, rfl, by omega, by rw [nat_two]; omega, by simp⟩
  refine Cl.ret fx14 rfl rfl ?_
  refine Xs.cons (Xe.ifN (EvT.is (EvT.bl (Ev.le (Ev.top (Ev.var rfl)) Ev.int)) (num_le ht))) ?_
  refine Xs.cons (Xe.par (EvF.val (Ev.c1 (Ev.var rfl) (C_steps h0 h1)) (EvF.val Ev.int (EvF.own (Ev.lst Evs.nil rfl) EvF.nil))) rfl) ?_
  refine Xs.cons (Xe.asg (Ev.is (Ev.fdiv (Ev.var rfl) Ev.int (by decide)) (by rw [fdiv2])) rfl rfl) ?_
  refine Xs.cons (Xe.whil l1) ?_
  replace hl : l ++ [] = srch (fl v t (2 ^ m)) m 0 := hl
  rw [List.append_nil] at hl
  rw [← hl]
  exact Xs.leave (Xe.ret (Ev.b1 (Ev.own rfl) rfl)) rfl
theorem C_count (h0 : 1 ≤ m) (h1 : m ≤ 16) (ht : 0 < t) (zv : Sz 100 v) (zt : Sz 100 t) : Cl (callF prg fnsA fuel (n + 2)) 15 [sh v, .int (m : Int), sh t] st (.int (((List.range (2 ^ m)).find? (fun (k : Nat) => decide (fl v t (2 ^ m) < (k : Int)))).getD (2 ^ m) : Nat)) st := by
  have hw : 2 ^ m ≤ 65536 := Nat.pow_le_pow_right (n := 2) (by decide) h1
  have l1 := forL_find (bind := bindP (.name 4)) (body := execs prg (runsF prg fnsA fuel (n + 2)) fuel (.cons (.iff (.call 5 (.cons (.var 0) (.cons (.call 3 (.cons (.var 2) (.cons (.call 0 (.cons (.var 4) (.cons (.var 3) .nil))) .nil))) .nil))) (.cons (.ret (.var 4)) .nil) .nil) .nil)) (fun (k : Nat) => D.int (k : Int)) (fun (k : Nat) => decide (fl v t (2 ^ m) < (k : Int))) (fun (k : Nat) => O.ret (.int (k : Int)) st)
    (fun Γ => ∃ x, Γ = [.val (sh v), .val (.int (m : Int)), .val (sh t), .val (.int ((2 ^ m : Nat) : Int)), x]) st (List.range (2 ^ m)) [.val (sh v), .val (.int (m : Int)), .val (sh t), .val (.int ((2 ^ m : Nat) : Int)), .no] ⟨.no, rfl⟩ (by
      rintro k hk Γ ⟨x, rfl⟩
      have hk := List.mem_range.mp hk
      have hb : Ev prg (runsF prg fnsA fuel (n + 2)) [.val (sh v), .val (.int (m : Int)), .val (sh t), .val (.int ((2 ^ m : Nat) : Int)), .val (.int (k : Int))] st (.call 5 (.cons (.var 0) (.cons (.call 3 (.cons (.var 2) (.cons (.call 0 (.cons (.var 4) (.cons (.var 3) .nil))) .nil))) .nil))) _ st := C_below h1 ht zv zt (k := (k : Int)) (by omega) (by omega) (Ev.var rfl) (Ev.var rfl) (Ev.var rfl) (Ev.var rfl)
      refine ⟨_, rfl, ?_⟩
      by_cases hf : fl v t (2 ^ m) < (k : Int)
      · rw [if_pos (decide_eq_true hf)]
        exact ⟨(Xs.leave (Xe.ifT (EvT.is (EvT.bl hb) (decide_eq_true hf)) (Xs.leave (Xe.ret (Ev.var rfl)) rfl)) rfl).h, _, _, rfl⟩
      · rw [if_neg (by rw [decide_eq_false hf]; decide)]
        exact ⟨_, .inl (Xs.cons (Xe.ifN (EvT.is (EvT.bl hb) (decide_eq_false hf))) Xs.nil).h, _, rfl⟩)
  refine Cl.ret fx15 rfl rfl ?_
  refine Xs.cons (Xe.asg (Ev.c1 (Ev.var rfl) (C_steps h0 h1)) rfl rfl) ?_
  refine Xs.cons (Xe.ifN (EvT.is (EvT.bl (Ev.le (Ev.top (Ev.var rfl)) Ev.int)) (num_le ht))) ?_
  cases hfd : (List.range (2 ^ m)).find? (fun (k : Nat) => decide (fl v t (2 ^ m) < (k : Int))) with
  | some k =>
    rw [hfd] at l1
    exact Xs.leave (Xe.forr (EvI.rng (Ev.var rfl) (by omega)) l1) rfl
  | none =>
    rw [hfd] at l1
    obtain ⟨Γ', l1, x, rfl⟩ := l1
    exact Xs.cons (Xe.forr (EvI.rng (Ev.var rfl) (by omega)) l1) (Xs.leave (Xe.ret (Ev.var rfl)) rfl)
end
end K14
end Eng
set_option maxHeartbeats 4000000
namespace Eng
namespace K14
open circuitstack_k14_values_told_as_bits
open PySem (Str)
local macro_rules | `(tactic| walk_at "sz") => `(tactic| (refine' Sz.mono ?hz ?hl; (case hz => repeat' (first | assumption | refine' Sz.add ?_ ?_ | refine' Sz.sub ?_ ?_ | refine' Sz.mul ?_ ?_ | refine' Sz.div ?_ ?_ | refine' Sz.neg ?_ | exact sz_0 | exact sz_1 | exact sz_h)); (case hl => decide)))
local macro_rules | `(tactic| walk_at "ev") => `(tactic| repeat' (first
  | exact Ev.int | exact Ev.var rfl | exact Ev.own rfl | exact Ev.bl | exact Ev.non | exact Ev.str | exact Ev.lamv | exact Ev.glob rfl
  | refine' Ev.add ?_ ?_ | refine' Ev.sub ?_ ?_ | refine' Ev.mul ?_ ?_ ?_ | refine' Ev.fdiv ?_ ?_ ?_ | refine' Ev.mod ?_ ?_ ?_ | refine' Ev.neg ?_
  | refine' Ev.ix ?_ ?_ ?_ | refine' Ev.lt ?_ ?_ | refine' Ev.le ?_ ?_ | refine' Ev.gt ?_ ?_ | refine' Ev.ge ?_ ?_ | refine' Ev.eq ?_ ?_ ?_ | refine' Ev.ne ?_ ?_ ?_
  | refine' Ev.not ?_ ?_ | refine' Ev.b1 ?_ ?_ | refine' Ev.b2 ?_ ?_ ?_ | refine' Ev.tup ?_ ?_ | refine' Ev.lst ?_ ?_ | exact Evs.nil | refine' Evs.cons ?_ ?_
  | refine' EvT.of ?_ ?_ | refine' Ev.and ?_ | refine' Ev.or ?_ | refine' EvA.one ?_ | refine' EvO.one ?_ | refine' EvA.cons ?_ (fun _ => ?_) | refine' EvO.cons ?_ (fun _ => ?_)
  | refine' Ev.call (runsF_succ _ _ _ _) ?_ ?_ | exact EvF.nil | refine' EvF.val ?_ ?_ | refine' EvF.own ?_ ?_
  | refine' C_plain ?_ ?_ ?_ | refine' C_added ?_ ?_ | refine' C_less ?_ ?_ | refine' C_times ?_ ?_ | refine' C_parted ?_ ?_ ?_ | refine' C_isless ?_ ?_
  | refine' C_check ?_ ?_ | refine' C_steps ?_ ?_
  | (walk_at "sz") | rfl))
local macro_rules | `(tactic| walk_at "nrm") => `(tactic| (try simp only [List.set_cons_zero, List.set_cons_succ]))
section
variable {n : Nat} {st : Sto} {p q t v : Rat} {m : Nat}
abbrev mv (t : Rat) (m : Nat) (k : Int) : Rat := t * ((k : Rat) / (((2 ^ m : Nat) : Int) : Rat))
theorem mv_sz {k : Int} (h1 : m ≤ 16) (zt : Sz 100 t) (k0 : 0 ≤ k) (k1 : k ≤ ((2 ^ m : Nat) : Int)) : Sz 134 (mv t m k) :=
  Sz.mul zt (Sz.div (Sz.int (le_size (two_size h1) k0 k1) (by decide)) (w_sz h1))
theorem C_marks (h0 : 1 ≤ m) (h1 : m ≤ 8) (zt : Sz 100 t) : Cl (callF prg fnsA fuel (n + 3)) 16 [.int (m : Int), sh t] st (.tup ((List.range (2 ^ m - 1)).map fun (k : Nat) => sh (mv t m ((k : Int) + 1)))) st := by
  have hw : 2 ^ m ≤ 256 := Nat.pow_le_pow_right (n := 2) (by decide) h1
  have hp := one_two m
  refine Cl.ret fx16 rfl rfl ?_
  refine Xs.cons (Xe.ifN (EvT.is (EvT.bl (Ev.gt (Ev.var rfl) Ev.int)) (decide_eq_false (by omega)))) ?_
  refine Xs.leave (Xe.ret (Ev.genT (runsF_succ _ _ _ _) (EvI.rng1 (m := 2 ^ m - 1) Ev.int (Ev.c1 (Ev.var rfl) (C_steps h0 (by omega))) (by omega) (by omega)) (compL_map (fun (k : Nat) => D.int ((k : Int) + 1)) (fun (k : Nat) => sh (mv t m ((k : Int) + 1))) _ fun k hk => ?_) (big_rng (by omega)))) rfl
  have hk := List.mem_range.mp hk
  have z2 := two_size (m := m) (by omega)
  have zk : Iz 17 ((k : Int) + 1) := le_size z2 (by omega) (by omega)
  exact ⟨_, rfl, rfl, (Ev.c2 (Ev.var rfl) (Ev.c2 (Ev.var rfl) (Ev.c1 (Ev.var rfl) (C_steps h0 (by omega))) (C_ratio (two_ne m) (zk.mono (by decide)) (z2.mono (by decide)))) (C_times (zt.mono (by decide)) (Sz.mono (Sz.div (Sz.int zk (by decide)) (w_sz (by omega))) (by decide)))).h⟩
theorem C_rising {l : List Rat} (hl : l.length ≤ 1000) (hz : ∀ x ∈ l, Sz 400 x) : Cl (callF prg fnsA fuel (n + 2)) 21 [.lst (l.map sh)] st (.bl ((List.zip l l.tail).all fun p => !decide (p.2 < p.1))) st := by
  refine Cl.ret fx21 rfl rfl ?_
  refine Xs.leave (Xe.ret (Ev.genAll (runsF_succ _ _ _ _) (EvI.zipM (Ev.var rfl) (Ev.tailM (Ev.var rfl))) (anyL_all _ (fun p : Rat × Rat => !decide (p.2 < p.1)) _ fun p hp => ⟨_, rfl, rfl, ?_⟩) (big_zip hl))) rfl
  have h1 := List.of_mem_zip hp
  exact (Ev.notB (Ev.c2 (Ev.var rfl) (Ev.var rfl) (C_isless ((hz _ (List.mem_of_mem_tail h1.2)).mono (by decide)) ((hz _ h1.1).mono (by decide))))).h
theorem C_flash {l : List Rat} (hl : l.length ≤ 1000) (hz : ∀ x ∈ l, Sz 400 x) (zv : Sz 400 v) (hr : ∀ p ∈ List.zip l l.tail, p.1 < p.2) : Cl (callF prg fnsA fuel (n + 2)) 17 [sh v, .lst (l.map sh)] st (.int ((l.filter fun x => !decide (v < x)).length : Nat)) st := by
  refine Cl.ret fx17 rfl rfl ?_
  refine Xs.cons (Xe.ifN (EvT.is (EvT.bl (Ev.genAny (runsF_succ _ _ _ _) (EvI.zipM (Ev.var rfl) (Ev.tailM (Ev.var rfl))) (anyL_any _ (fun p : Rat × Rat => !decide (p.1 < p.2)) _ fun p hp => ⟨_, rfl, rfl, ?_⟩) (big_zip hl))) ?_)) ?_
  · have h1 := List.of_mem_zip hp
    exact (Ev.notB (Ev.c2 (Ev.var rfl) (Ev.var rfl) (C_isless ((hz _ h1.1).mono (by decide)) ((hz _ (List.mem_of_mem_tail h1.2)).mono (by decide))))).h
  · exact List.any_eq_false.mpr fun p hp => by rw [decide_eq_true (hr p hp)]; decide
  · refine Xs.leave (Xe.ret (Ev.is (Ev.len (Ev.lc (EvI.seqL (Ev.var rfl)) (compL_filter sh sh (fun x => !decide (v < x)) l fun x hx => ⟨_, rfl, ifs_one (EvT.bl (Ev.notB (Ev.c2 (Ev.var rfl) (Ev.var rfl) (C_isless (zv.mono (by decide)) ((hz x hx).mono (by decide)))))), fun _ => (Ev.var rfl).h⟩) (big_map hl))) ?_)) rfl
    rw [List.length_map]
theorem C_off (h0 : 1 ≤ m) (h1 : m ≤ 16) (ht : 0 < t) (zv : Sz 100 v) (zt : Sz 100 t) : Cl (callF prg fnsA fuel (n + 3)) 18 [sh v, .int (m : Int), sh t] st (sh (v - t * (((2 * rd (fl v t (2 ^ m)) (2 ^ m) + 1 : Int) : Rat) / ((2 * ((2 ^ m : Nat) : Int) : Int) : Rat)))) st := by
  have hr := rd_eq (fl v t (2 ^ m)) (2 ^ m)
  have hp := one_two m
  have z2 := two_size h1
  have za : Iz 19 (2 * rd (fl v t (2 ^ m)) (2 ^ m) + 1) := by
    unfold Iz at *
    omega
  have zb : Iz 19 (2 * ((2 ^ m : Nat) : Int)) := by
    unfold Iz at *
    omega
  have zr : Sz 138 (t * (((2 * rd (fl v t (2 ^ m)) (2 ^ m) + 1 : Int) : Rat) / ((2 * ((2 ^ m : Nat) : Int) : Int) : Rat))) := Sz.mul zt (Sz.div (Sz.int za (by decide)) (Sz.int zb (by decide)))
  refine Cl.ret fx18 rfl rfl ?_
  refine Xs.cons (Xe.asg (Ev.c2 (Ev.var rfl) (Ev.c2 (Ev.add (Ev.mul Ev.int (Ev.c3 (Ev.var rfl) (Ev.var rfl) (Ev.var rfl) (C_read h0 h1 ht zv zt)) mulOk_l) Ev.int) (Ev.mul Ev.int (Ev.c1 (Ev.var rfl) (C_steps h0 h1)) mulOk_l) (C_ratio (by omega) (za.mono (by decide)) (zb.mono (by decide)))) (C_times (zt.mono (by decide)) (Sz.mono (Sz.div (Sz.int za (by decide)) (Sz.int zb (by decide))) (by decide)))) rfl rfl) ?_
  exact Xs.leave (Xe.ret (Ev.c2 (Ev.var rfl) (Ev.var rfl) (C_less (zv.mono (by decide)) (zr.mono (by decide))))) rfl
theorem C_greater (zp : Sz 1000 p) (zq : Sz 1000 q) : Cl (callF prg fnsA fuel (n + 1)) 20 [sh p, sh q] st (sh (mx p (rabs q))) st := by
  refine Cl.ret fx20 rfl rfl ?_
  refine Xs.cons (Xe.asg (Ev.absS (Ev.var rfl) (Ev.var rfl)) rfl rfl) ?_
  exact Xs.leave (Xe.ret (Ev.iteP (f := sh) (EvT.bl (Ev.c2 (Ev.var rfl) (Ev.var rfl) (C_isless (zp.mono (by decide)) (Sz.mono (rabs_sz zq) (by decide))))) (fun _ => Ev.var rfl) (fun _ => Ev.var rfl))) rfl
/-! worst steps -/
abbrev stepE (l : List Rat) : Rat := (l.getD (l.length - 1) 0 - l.getD 0 0) * (1 / ((((l.length : Int) - 1) : Int) : Rat))
abbrev gapE (l : List Rat) (k : Nat) : Rat := (l.getD (k + 1) 0 - l.getD k 0 - stepE l) / stepE l
abbrev farE (l : List Rat) (k : Nat) : Rat := (l.getD (k + 1) 0 - (l.getD 0 0 + stepE l * ((((k : Int) + 1) : Int) : Rat))) / stepE l
theorem getD_some {l : List Rat} {k : Nat} (h : k < l.length) : (l.map sh)[k]? = some (sh (l.getD k 0)) := by
  rw [List.getElem?_map, List.getElem?_eq_getElem h, List.getD_eq_getElem?_getD, List.getElem?_eq_getElem h]
  rfl
theorem getD_last {l : List Rat} (h : 0 < l.length) : (l.map sh).getLast? = some (sh (l.getD (l.length - 1) 0)) := by
  rw [List.getLast?_eq_getElem?, List.length_map, getD_some (by omega)]
theorem getD_sz {l : List Rat} {b : Nat} (hb : 0 < b) (hz : ∀ x ∈ l, Sz b x) (k : Nat) : Sz b (l.getD k 0) := by
  rw [List.getD_eq_getElem?_getD]
  cases h : l[k]? with
  | none => exact sz_0.mono (by omega)
  | some x => exact hz x (List.mem_of_getElem? h)
theorem step_sz {l : List Rat} (h : l.length ≤ 200) (hz : ∀ x ∈ l, Sz 60 x) : Sz 140 (stepE l) :=
  Sz.mono (Sz.mul (Sz.sub (getD_sz (by decide) hz _) (getD_sz (by decide) hz _)) (inv_sz (b := 10) (by unfold Iz; omega) (by decide))) (by decide)
theorem gap_sz {l : List Rat} (h : l.length ≤ 200) (hz : ∀ x ∈ l, Sz 60 x) (k : Nat) : Sz 500 (gapE l k) :=
  Sz.mono (Sz.div (Sz.sub (Sz.sub (getD_sz (by decide) hz _) (getD_sz (by decide) hz _)) (step_sz h hz)) (step_sz h hz)) (by decide)
theorem far_sz {l : List Rat} (h : l.length ≤ 200) (hz : ∀ x ∈ l, Sz 60 x) {k : Nat} (hk : k ≤ 200) : Sz 500 (farE l k) :=
  Sz.mono (Sz.div (Sz.sub (getD_sz (by decide) hz _) (Sz.add (getD_sz (by decide) hz _) (Sz.mul (step_sz h hz) (Sz.int (b := 10) (by unfold Iz; omega) (by decide))))) (step_sz h hz)) (by decide)
abbrev wstE (l : List Rat) (k : Nat) : Rat := (List.range k).foldl (fun a j => mx a (rabs (gapE l j))) 0
abbrev wfrE (l : List Rat) (k : Nat) : Rat := (List.range k).foldl (fun a j => mx a (rabs (farE l j))) 0
theorem wst_sz {l : List Rat} (h : l.length ≤ 200) (hz : ∀ x ∈ l, Sz 60 x) (k : Nat) : Sz 500 (wstE l k) := fold_mx (fun j => rabs (gapE l j)) _ _ (sz_0.mono (by decide)) fun j _ => rabs_sz (gap_sz h hz j)
theorem wfr_sz {l : List Rat} (h : l.length ≤ 200) (hz : ∀ x ∈ l, Sz 60 x) {k : Nat} (hk : k ≤ 200) : Sz 500 (wfrE l k) := fold_mx (fun j => rabs (farE l j)) _ _ (sz_0.mono (by decide)) fun j hj => rabs_sz (far_sz h hz (by have := List.mem_range.mp hj; omega))
theorem wst_succ (l : List Rat) (k : Nat) : wstE l (k + 1) = mx (wstE l k) (rabs (gapE l k)) := by
  unfold wstE
  rw [List.range_succ, List.foldl_append]
  rfl
theorem wfr_succ (l : List Rat) (k : Nat) : wfrE l (k + 1) = mx (wfrE l k) (rabs (farE l k)) := by
  unfold wfrE
  rw [List.range_succ, List.foldl_append]
  rfl
end
end K14
end Eng
set_option maxHeartbeats 4000000
namespace Eng
namespace K14
open circuitstack_k14_values_told_as_bits
open PySem (Str)
local macro_rules | `(tactic| walk_at "sz") => `(tactic| (refine' Sz.mono ?hz ?hl; (case hz => repeat' (first | assumption | refine' Sz.add ?_ ?_ | refine' Sz.sub ?_ ?_ | refine' Sz.mul ?_ ?_ | refine' Sz.div ?_ ?_ | refine' Sz.neg ?_ | exact sz_0 | exact sz_1 | exact sz_h)); (case hl => decide)))
local macro_rules | `(tactic| walk_at "ev") => `(tactic| repeat' (first
  | exact Ev.int | exact Ev.var rfl | exact Ev.own rfl | exact Ev.bl | exact Ev.non | exact Ev.str | exact Ev.lamv | exact Ev.glob rfl
  | refine' Ev.add ?_ ?_ | refine' Ev.sub ?_ ?_ | refine' Ev.mul ?_ ?_ ?_ | refine' Ev.fdiv ?_ ?_ ?_ | refine' Ev.mod ?_ ?_ ?_ | refine' Ev.neg ?_
  | refine' Ev.ix ?_ ?_ ?_ | refine' Ev.lt ?_ ?_ | refine' Ev.le ?_ ?_ | refine' Ev.gt ?_ ?_ | refine' Ev.ge ?_ ?_ | refine' Ev.eq ?_ ?_ ?_ | refine' Ev.ne ?_ ?_ ?_
  | refine' Ev.not ?_ ?_ | refine' Ev.b1 ?_ ?_ | refine' Ev.b2 ?_ ?_ ?_ | refine' Ev.tup ?_ ?_ | refine' Ev.lst ?_ ?_ | exact Evs.nil | refine' Evs.cons ?_ ?_
  | refine' EvT.of ?_ ?_ | refine' Ev.and ?_ | refine' Ev.or ?_ | refine' EvA.one ?_ | refine' EvO.one ?_ | refine' EvA.cons ?_ (fun _ => ?_) | refine' EvO.cons ?_ (fun _ => ?_)
  | refine' Ev.call (runsF_succ _ _ _ _) ?_ ?_ | exact EvF.nil | refine' EvF.val ?_ ?_ | refine' EvF.own ?_ ?_
  | refine' C_plain ?_ ?_ ?_ | refine' C_added ?_ ?_ | refine' C_less ?_ ?_ | refine' C_times ?_ ?_ | refine' C_parted ?_ ?_ ?_ | refine' C_isless ?_ ?_
  | refine' C_check ?_ ?_ | refine' C_steps ?_ ?_
  | (walk_at "sz") | rfl))
local macro_rules | `(tactic| walk_at "nrm") => `(tactic| (try simp only [List.set_cons_zero, List.set_cons_succ]))
section
variable {n : Nat} {st : Sto} {p q t v : Rat} {m : Nat}
theorem C_worst {l : List Rat} (h2 : 2 ≤ l.length) (hl : l.length ≤ 200) (hz : ∀ x ∈ l, Sz 60 x) (ht : 0 < t) (h0 : stepE l ≠ 0) : Cl (callF prg fnsA fuel (n + 2)) 19 [.lst (l.map sh), sh t] st (.tup [sh (wstE l (l.length - 1)), sh (wfrE l (l.length - 1))]) st := by
  have zs := step_sz hl hz
  have gz := fun k => getD_sz (l := l) (b := 60) (by decide) hz k
  obtain ⟨Γ', s', l1, rfl, x, y, z, rfl⟩ := forL_rng (bind := bindP (.name 5)) (body := execs prg (runsF prg fnsA fuel (n + 2)) fuel (.cons (.asg (.name 6) (.call 4 (.cons (.call 2 (.cons (.call 2 (.cons (.ix (.var 0) (.var 5)) (.cons (.ix (.var 0) (.bop .sub (.var 5) (.int 1))) .nil))) (.cons (.var 2) .nil))) (.cons (.var 2) .nil)))) (.cons (.asg (.name 3) (.call 20 (.cons (.var 3) (.cons (.var 6) .nil)))) (.cons (.asg (.name 7) (.call 1 (.cons (.ix (.var 0) (.int 0)) (.cons (.call 3 (.cons (.var 2) (.cons (.tup (.cons (.var 5) (.cons (.int 1) .nil))) .nil))) .nil)))) (.cons (.asg (.name 4) (.call 20 (.cons (.var 4) (.cons (.call 4 (.cons (.call 2 (.cons (.ix (.var 0) (.var 5)) (.cons (.var 7) .nil))) (.cons (.var 2) .nil))) .nil)))) .nil))))) (fun (k : Nat) => D.int ((k : Int) + 1))
    (fun k Γ s => s = st ∧ ∃ x y z, Γ = [.val (.lst (l.map sh)), .val (sh t), .val (sh (stepE l)), .val (sh (wstE l k)), .val (sh (wfrE l k)), x, y, z]) (l.length - 1) (Γ := [.val (.lst (l.map sh)), .val (sh t), .val (sh (stepE l)), .val (sh 0), .val (sh 0), .no, .no, .no]) (st := st) ⟨rfl, .no, .no, .no, rfl⟩ (by
      rintro k Γ s hk ⟨rfl, x, y, z, rfl⟩
      have zi : Sz 10 ((((k : Int) + 1 : Int)) : Rat) := Sz.int (by unfold Iz; omega) (by decide)
      have zl : Sz 230 (l.getD 0 0 + stepE l * ((((k : Int) + 1 : Int)) : Rat)) := Sz.mono (Sz.add (gz 0) (Sz.mul zs zi)) (by decide)
      refine ⟨_, _, _, rfl, .inl (Xs.cons (Xe.asg (d := sh (gapE l k)) (Ev.c2 (Ev.c2 (Ev.c2 (Ev.ixL (Ev.var rfl) (Ev.var rfl) (k := k + 1) (by omega) (getD_some (by omega))) (Ev.ixL (Ev.var rfl) (Ev.sub (Ev.var rfl) Ev.int) (k := k) (by omega) (getD_some (by omega))) (C_less ((gz _).mono (by decide)) ((gz _).mono (by decide)))) (Ev.var rfl) (C_less (Sz.mono (Sz.sub (gz _) (gz _)) (by decide)) (zs.mono (by decide)))) (Ev.var rfl) (C_parted h0 (Sz.mono (Sz.sub (Sz.sub (gz _) (gz _)) zs) (by decide)) (zs.mono (by decide)))) rfl rfl)
        (Xs.cons (Xe.asg (Ev.c2 (Ev.var rfl) (Ev.var rfl) (C_greater ((wst_sz hl hz k).mono (by decide)) ((gap_sz hl hz k).mono (by decide)))) rfl rfl)
        (Xs.cons (Xe.asg (Ev.c2 (Ev.ixL (Ev.var rfl) Ev.int (k := 0) rfl (getD_some (by omega))) (Ev.c2 (Ev.var rfl) (Ev.whole (Ev.var rfl)) (C_times (zs.mono (by decide)) (zi.mono (by decide)))) (C_added ((gz _).mono (by decide)) (Sz.mono (Sz.mul zs zi) (by decide)))) rfl rfl)
        (Xs.cons (Xe.asg (Ev.c2 (Ev.var rfl) (Ev.c2 (Ev.c2 (Ev.ixL (Ev.var rfl) (Ev.var rfl) (k := k + 1) (by omega) (getD_some (by omega))) (Ev.var rfl) (C_less ((gz _).mono (by decide)) (zl.mono (by decide)))) (Ev.var rfl) (C_parted h0 (Sz.mono (Sz.sub (gz _) zl) (by decide)) (zs.mono (by decide)))) (C_greater ((wfr_sz hl hz (k := k) (by omega)).mono (by decide)) ((far_sz hl hz (k := k) (by omega)).mono (by decide)))) rfl rfl) Xs.nil)))).h, rfl, .val (.int ((k : Int) + 1)), .val (sh (gapE l k)), .val (sh (l.getD 0 0 + stepE l * ((((k : Int) + 1 : Int)) : Rat))), ?_⟩
      rw [wst_succ, wfr_succ]
      rfl)
  refine Cl.ret fx19 rfl rfl ?_
  refine Xs.cons (Xe.ifN (EvT.is (EvT.bl (Ev.or (EvO.cons (Ev.lt (Ev.lenM (Ev.var rfl)) Ev.int) fun _ => EvO.one (Ev.le (Ev.top (Ev.var rfl)) Ev.int)))) ?_)) ?_
  · rw [num_le ht, decide_eq_false (by omega)]
    rfl
  refine Xs.cons (Xe.asg (d := sh (stepE l)) (Ev.c2 (Ev.c2 (Ev.ix (Ev.var rfl) (Ev.neg Ev.int) (ixV_last (getD_last (by omega)))) (Ev.ixL (Ev.var rfl) Ev.int (k := 0) rfl (getD_some (by omega))) (C_less ((gz _).mono (by decide)) ((gz _).mono (by decide)))) (Ev.inv (Ev.sub (Ev.lenM (Ev.var rfl)) Ev.int) (by omega)) (C_times (Sz.mono (Sz.sub (gz _) (gz _)) (by decide)) (Sz.mono (inv_sz (b := 10) (by unfold Iz; omega) (by decide)) (by decide)))) rfl rfl) ?_
  refine Xs.cons (Xe.ifN (EvT.is (EvT.bl (Ev.eqI (Ev.top (Ev.var rfl)) Ev.int)) (decide_eq_false (num_ne h0)))) ?_
  refine Xs.cons (Xe.par (EvF.val Ev.zero (EvF.val Ev.zero EvF.nil)) rfl) ?_
  refine Xs.cons (Xe.forr (EvI.rng1 (m := l.length - 1) Ev.int (Ev.lenM (Ev.var rfl)) (by omega) (by omega)) l1) ?_
  exact Xs.leave (Xe.ret (Ev.pair (Ev.var rfl) (Ev.var rfl))) rfl
theorem X_worst {l : List Rat} (h2 : 2 ≤ l.length) (hl : l.length ≤ 200) (hz : ∀ x ∈ l, Sz 60 x) (ht : 0 < t) (h0 : stepE l = 0) : ClX (callF prg fnsA fuel (n + 2)) 19 [.lst (l.map sh), sh t] st 2 st := by
  have zs := step_sz hl hz
  have gz := fun k => getD_sz (l := l) (b := 60) (by decide) hz k
  apply ClX.of fx19 rfl rfl
  refine Xs.cons (Xe.ifN (EvT.is (EvT.bl (Ev.or (EvO.cons (Ev.lt (Ev.lenM (Ev.var rfl)) Ev.int) fun _ => EvO.one (Ev.le (Ev.top (Ev.var rfl)) Ev.int)))) ?_)) ?_
  · rw [num_le ht, decide_eq_false (by omega)]
    rfl
  refine Xs.cons (Xe.asg (d := sh (stepE l)) (Ev.c2 (Ev.c2 (Ev.ix (Ev.var rfl) (Ev.neg Ev.int) (ixV_last (getD_last (by omega)))) (Ev.ixL (Ev.var rfl) Ev.int (k := 0) rfl (getD_some (by omega))) (C_less ((gz _).mono (by decide)) ((gz _).mono (by decide)))) (Ev.inv (Ev.sub (Ev.lenM (Ev.var rfl)) Ev.int) (by omega)) (C_times (Sz.mono (Sz.sub (gz _) (gz _)) (by decide)) (Sz.mono (inv_sz (b := 10) (by unfold Iz; omega) (by decide)) (by decide)))) rfl rfl) ?_
  exact Xs.leave (Xe.ifT (EvT.is (EvT.bl (Ev.eqI (Ev.top (Ev.var rfl)) Ev.int)) (decide_eq_true (by rw [h0]; rfl))) (Xs.leave Xe.rais rfl)) rfl
/-! codes -/
theorem C_crossed {a b : Nat} (ha : a < 2 ^ 20) (hb : b < 2 ^ 20) : Cl (callF prg fnsA fuel n) 23 [.int (a : Int), .int (b : Int)] st (.int ((a ^^^ b : Nat) : Int)) st := by
  have hc : ∀ (x y : Nat) (f s : D), EvT prg (runsF prg fnsA fuel n) [.val (.int (x : Int)), .val (.int (y : Int)), .val f, .val s] st (.or (.cons (.cmp .gt (.var 0) (.int 0)) (.cons (.cmp .gt (.var 1) (.int 0)) .nil))) (decide ((0 : Int) < (x : Int)) || decide ((0 : Int) < (y : Int))) st := fun x y f s =>
    EvT.bl (Ev.or (EvO.cons (Ev.gt (Ev.var rfl) Ev.int) fun _ => EvO.one (Ev.gt (Ev.var rfl) Ev.int)))
  obtain ⟨Γ', s', l1, rfl, x, y, z, rfl⟩ := whileL_mu (c := fun Γ st => tst (ev prg (runsF prg fnsA fuel n) (.or (.cons (.cmp .gt (.var 0) (.int 0)) (.cons (.cmp .gt (.var 1) (.int 0)) .nil))) Γ st)) (body := execs prg (runsF prg fnsA fuel n) fuel (.cons (.aug 2 .add (.ite (.cmp .ne (.bop .mod (.var 0) (.int 2)) (.bop .mod (.var 1) (.int 2))) (.var 3) (.int 0))) (.cons (.par [(0, false), (1, false), (3, false)] (.cons (.bop .fdiv (.var 0) (.int 2)) (.cons (.bop .fdiv (.var 1) (.int 2)) (.cons (.bop .mul (.var 3) (.int 2)) .nil)))) .nil)))
    (fun j Γ s => s = st ∧ ∃ i, i + j = 20 ∧ Γ = [.val (.int ((a / 2 ^ i : Nat) : Int)), .val (.int ((b / 2 ^ i : Nat) : Int)), .val (.int (((a ^^^ b) % 2 ^ i : Nat) : Int)), .val (.int ((2 ^ i : Nat) : Int))])
    (fun Γ s => s = st ∧ ∃ x y z, Γ = [x, y, .val (.int ((a ^^^ b : Nat) : Int)), z])
    (by
      rintro j Γ s ⟨rfl, i, hi, rfl⟩
      have hp := one_two i
      by_cases h0 : a / 2 ^ i = 0 ∧ b / 2 ^ i = 0
      · left
        refine ⟨(EvT.is (hc _ _ _ _) ?_).h, rfl, ?_⟩
        · rw [h0.1, h0.2]; rfl
        · have h1 : a < 2 ^ i := by
            have := Nat.div_eq_zero_iff.mp h0.1
            omega
          have h2 : b < 2 ^ i := by
            have := Nat.div_eq_zero_iff.mp h0.2
            omega
          rw [Nat.mod_eq_of_lt (Nat.xor_lt_two_pow h1 h2)]
          exact ⟨_, _, _, rfl⟩
      · right
        refine ⟨(EvT.is (hc _ _ _ _) ?_).h, ?_⟩
        · rw [Bool.or_eq_true, decide_eq_true_iff, decide_eq_true_iff]
          clear hc
          generalize a / 2 ^ i = x at h0 ⊢
          generalize b / 2 ^ i = y at h0 ⊢
          omega
        · have hj : j ≠ 0 := by
            intro e
            subst e
            have : i = 20 := by omega
            subst this
            exact h0 ⟨Nat.div_eq_of_lt ha, Nat.div_eq_of_lt hb⟩
          refine ⟨_, _, j - 1, .inl (Xs.cons (Xe.augAdd rfl (Ev.iteP (f := D.int) (p := ¬ a / 2 ^ i % 2 = b / 2 ^ i % 2) (EvT.is (EvT.bl (Ev.neI (Ev.mod (Ev.var rfl) Ev.int (by decide)) (Ev.mod (Ev.var rfl) Ev.int (by decide)))) ?_) (fun _ => Ev.var rfl) (fun _ => Ev.int)) rfl) (Xs.cons (Xe.par (EvF.val (Ev.fdiv (Ev.var rfl) Ev.int (by decide)) (EvF.val (Ev.fdiv (Ev.var rfl) Ev.int (by decide)) (EvF.val (Ev.mul (Ev.var rfl) Ev.int mulOk_r) EvF.nil))) rfl) Xs.nil)).h, by omega, rfl, i + 1, by omega, ?_⟩
          · rw [fmod2, fmod2, ← decide_not]
            apply decide_eq_decide.mpr
            omega
          · have e1 : ∀ x : Nat, ((x / 2 ^ i : Nat) : Int).fdiv 2 = ((x / 2 ^ (i + 1) : Nat) : Int) := fun x => by
              rw [fdiv2, Nat.pow_succ, ← Nat.div_div_eq_div_mul]
              omega
            have e2 : ((((a ^^^ b) % 2 ^ i : Nat) : Int)) + (if ¬ a / 2 ^ i % 2 = b / 2 ^ i % 2 then ((2 ^ i : Nat) : Int) else 0) = (((a ^^^ b) % 2 ^ (i + 1) : Nat) : Int) := by
              rw [Nat.mod_pow_succ, xor_bit]
              by_cases h : a / 2 ^ i % 2 = b / 2 ^ i % 2
              · rw [if_neg (not_not_intro h), if_pos h]; omega
              · rw [if_pos h, if_neg h]; omega
            have e3 : ((2 ^ i : Nat) : Int) * 2 = ((2 ^ (i + 1) : Nat) : Int) := by rw [Nat.pow_succ, Int.natCast_mul]; rfl
            rw [← e1 a, ← e1 b, ← e2, ← e3]
            rfl)
    fuel 20 [.val (.int (a : Int)), .val (.int (b : Int)), .val (.int 0), .val (.int 1)] st (by have := hF; omega) ⟨rfl, 0, rfl, by simp [Nat.mod_one]⟩
  refine Cl.ret fx23 rfl rfl ?_
  refine Xs.cons (Xe.par (EvF.val Ev.int (EvF.val Ev.int EvF.nil)) rfl) ?_
  refine Xs.cons (Xe.whil l1) ?_
  exact Xs.leave (Xe.ret (Ev.var rfl)) rfl
theorem C_one {a : Nat} (ha : a < 2 ^ 20) : Cl (callF prg fnsA fuel (n + 1)) 22 [.int (a : Int)] st (.int ((gray a : Nat) : Int)) st := by
  refine Cl.ret fx22 rfl rfl ?_
  refine Xs.cons (Xe.ifN (EvT.is (EvT.bl (Ev.lt (Ev.var rfl) Ev.int)) (decide_eq_false (by omega)))) ?_
  exact Xs.leave (Xe.ret (Ev.c2 (Ev.var rfl) (Ev.is (Ev.fdiv (Ev.var rfl) Ev.int (by decide)) (show D.int ((a : Int).fdiv 2) = .int ((a / 2 : Nat) : Int) by rw [fdiv2]; rfl)) (C_crossed ha (by omega)))) rfl
theorem ungray_zero : ∀ (k f : Nat), ungray k f 0 = f
  | 0, f => rfl
  | k + 1, f => by
    show ungray k (f ^^^ 0) (0 / 2) = f
    rw [Nat.xor_zero]
    exact ungray_zero k f
theorem C_from {a : Nat} (ha : a < 2 ^ 14) : Cl (callF prg fnsA fuel (n + 1)) 24 [.int (a : Int)] st (.int ((ungray 14 0 a : Nat) : Int)) st := by
  obtain ⟨Γ', s', l1, rfl, x, rfl⟩ := whileL_mu (c := fun Γ st => tst (ev prg (runsF prg fnsA fuel (n + 1)) (.cmp .gt (.var 0) (.int 0)) Γ st)) (body := execs prg (runsF prg fnsA fuel (n + 1)) fuel (.cons (.asg (.name 1) (.call 23 (.cons (.var 1) (.cons (.var 0) .nil)))) (.cons (.aug 0 .fdiv (.int 2)) .nil)))
    (fun j Γ s => s = st ∧ ∃ f c : Nat, Γ = [.val (.int (c : Int)), .val (.int (f : Int))] ∧ ungray j f c = ungray 14 0 a ∧ c < 2 ^ j ∧ f < 2 ^ 14 ∧ j ≤ 14)
    (fun Γ s => s = st ∧ ∃ x, Γ = [x, .val (.int ((ungray 14 0 a : Nat) : Int))])
    (by
      rintro j Γ s ⟨rfl, f, c, rfl, hu, hc, hf, hj⟩
      by_cases h0 : c = 0
      · subst h0
        rw [ungray_zero] at hu
        subst hu
        exact .inl ⟨(EvT.is (EvT.bl (Ev.gt (Ev.var rfl) Ev.int)) (decide_eq_false (by decide))).h, rfl, _, rfl⟩
      · right
        refine ⟨(EvT.is (EvT.bl (Ev.gt (Ev.var rfl) Ev.int)) (decide_eq_true (by omega))).h, ?_⟩
        have hcb : c < 2 ^ 14 := Nat.lt_of_lt_of_le hc (Nat.pow_le_pow_right (by decide) hj)
        refine ⟨_, _, j - 1, .inl (Xs.cons (Xe.asg (Ev.c2 (Ev.var rfl) (Ev.var rfl) (C_crossed (by omega) (by omega))) rfl rfl) (Xs.cons (Xe.augDiv rfl Ev.int (by decide) rfl) Xs.nil)).h, ?_, rfl, f ^^^ c, c / 2, ?_, ?_, ?_, Nat.xor_lt_two_pow hf hcb, by omega⟩
        · cases j with
          | zero => simp at hc; omega
          | succ j => omega
        · rw [fdiv2]
          rfl
        · cases j with
          | zero => simp at hc; omega
          | succ j => exact hu
        · cases j with
          | zero => simp at hc; omega
          | succ j =>
            rw [Nat.pow_succ] at hc
            show c / 2 < 2 ^ j
            omega)
    fuel 14 [.val (.int (a : Int)), .val (.int 0)] st (by have := hF; omega) ⟨rfl, 0, a, rfl, rfl, ha, by decide, by decide⟩
  refine Cl.ret fx24 rfl rfl ?_
  refine Xs.cons (Xe.ifN (EvT.is (EvT.bl (Ev.lt (Ev.var rfl) Ev.int)) (decide_eq_false (by omega)))) ?_
  refine Xs.cons (Xe.asg Ev.int rfl rfl) ?_
  refine Xs.cons (Xe.whil l1) ?_
  exact Xs.leave (Xe.ret (Ev.var rfl)) rfl
theorem C_two {v : Int} (h0 : 1 ≤ m) (h1 : m ≤ 16) (v0 : 0 ≤ v) (v1 : v < 2 ^ m) : Cl (callF prg fnsA fuel (n + 3)) 25 [.int v, .int (m : Int)] st (.int (if ((2 ^ m : Nat) : Int) / 2 ≤ v then v - ((2 ^ m : Nat) : Int) else v)) st := by
  refine Cl.ret fx25 rfl rfl ?_
  refine Xs.cons (Xe.expr (Ev.c2 (Ev.var rfl) (Ev.var rfl) (C_bits h0 h1 v0 v1))) ?_
  refine Xs.cons (Xe.asg (Ev.c1 (Ev.var rfl) (C_steps h0 h1)) rfl rfl) ?_
  exact Xs.leave (Xe.ret (Ev.iteP (f := D.int) (EvT.bl (Ev.is (Ev.ge (Ev.var rfl) (Ev.fdiv (Ev.var rfl) Ev.int (by decide))) (by rw [fdiv2]))) (fun _ => Ev.sub (Ev.var rfl) (Ev.var rfl)) (fun _ => Ev.var rfl))) rfl
end
end K14
end Eng
set_option maxHeartbeats 4000000
namespace Eng
namespace K14
open circuitstack_k14_values_told_as_bits
open PySem (Str)
local macro_rules | `(tactic| walk_at "sz") => `(tactic| (refine' Sz.mono ?hz ?hl; (case hz => repeat' (first | assumption | refine' Sz.add ?_ ?_ | refine' Sz.sub ?_ ?_ | refine' Sz.mul ?_ ?_ | refine' Sz.div ?_ ?_ | refine' Sz.neg ?_ | exact sz_0 | exact sz_1 | exact sz_h)); (case hl => decide)))
local macro_rules | `(tactic| walk_at "ev") => `(tactic| repeat' (first
  | exact Ev.int | exact Ev.var rfl | exact Ev.own rfl | exact Ev.bl | exact Ev.non | exact Ev.str | exact Ev.lamv | exact Ev.glob rfl
  | refine' Ev.add ?_ ?_ | refine' Ev.sub ?_ ?_ | refine' Ev.mul ?_ ?_ ?_ | refine' Ev.fdiv ?_ ?_ ?_ | refine' Ev.mod ?_ ?_ ?_ | refine' Ev.neg ?_
  | refine' Ev.ix ?_ ?_ ?_ | refine' Ev.lt ?_ ?_ | refine' Ev.le ?_ ?_ | refine' Ev.gt ?_ ?_ | refine' Ev.ge ?_ ?_ | refine' Ev.eq ?_ ?_ ?_ | refine' Ev.ne ?_ ?_ ?_
  | refine' Ev.not ?_ ?_ | refine' Ev.b1 ?_ ?_ | refine' Ev.b2 ?_ ?_ ?_ | refine' Ev.tup ?_ ?_ | refine' Ev.lst ?_ ?_ | exact Evs.nil | refine' Evs.cons ?_ ?_
  | refine' EvT.of ?_ ?_ | refine' Ev.and ?_ | refine' Ev.or ?_ | refine' EvA.one ?_ | refine' EvO.one ?_ | refine' EvA.cons ?_ (fun _ => ?_) | refine' EvO.cons ?_ (fun _ => ?_)
  | refine' Ev.call (runsF_succ _ _ _ _) ?_ ?_ | exact EvF.nil | refine' EvF.val ?_ ?_ | refine' EvF.own ?_ ?_
  | refine' C_plain ?_ ?_ ?_ | refine' C_added ?_ ?_ | refine' C_less ?_ ?_ | refine' C_times ?_ ?_ | refine' C_parted ?_ ?_ ?_ | refine' C_isless ?_ ?_
  | refine' C_check ?_ ?_ | refine' C_steps ?_ ?_
  | (walk_at "sz") | rfl))
local macro_rules | `(tactic| walk_at "nrm") => `(tactic| (try simp only [List.set_cons_zero, List.set_cons_succ]))
section
variable {n : Nat} {st : Sto} {p q t v : Rat} {m : Nat}
/-- how often the top went into the sum -/
abbrev cnt (v t : Rat) (k : Nat) : Int := (((k : Int) : Rat) * (v / t)).floor
theorem rat_divs {v t : Rat} (ht : 0 < t) (h0 : 0 ≤ v) (h1 : v ≤ t) : 0 ≤ v / t ∧ v / t ≤ 1 := by
  have e : v / t * t = v := Rat.div_mul_cancel (by grind)
  constructor
  · apply Rat.le_of_mul_le_mul_right (c := t) _ ht
    rw [e]; grind
  · apply Rat.le_of_mul_le_mul_right (c := t) _ ht
    rw [e]; grind
theorem cnt_zero : cnt v t 0 = 0 := by
  show (((0 : Int) : Rat) * (v / t)).floor = 0
  rw [Rat.intCast_zero, Rat.zero_mul]
  rfl
theorem cnt_step (ht : 0 < t) (h0 : 0 ≤ v) (h1 : v ≤ t) (k : Nat) : cnt v t k ≤ cnt v t (k + 1) ∧ cnt v t (k + 1) ≤ cnt v t k + 1 := by
  obtain ⟨x0, x1⟩ := rat_divs ht h0 h1
  have e : ((((k + 1 : Nat) : Int)) : Rat) = ((k : Int) : Rat) + 1 := by rw [show ((k + 1 : Nat) : Int) = (k : Int) + 1 from rfl, Rat.intCast_add]; rfl
  constructor
  · apply Rat.floor_monotone
    rw [e]
    grind
  · have h := Rat.lt_floor_add_one (((k : Int) : Rat) * (v / t))
    have h2 : cnt v t (k + 1) < cnt v t k + 1 + 1 := by
      rw [Rat.floor_lt_iff, e, Rat.intCast_add]
      have : ((1 : Int) : Rat) = 1 := rfl
      rw [this]
      show _ < ((cnt v t k + 1 : Int) : Rat) + 1
      grind
    omega
theorem cnt_bd (ht : 0 < t) (h0 : 0 ≤ v) (h1 : v ≤ t) (k : Nat) : 0 ≤ cnt v t k ∧ cnt v t k ≤ k := by
  induction k with
  | zero => rw [cnt_zero]; omega
  | succ k ih =>
    have := cnt_step ht h0 h1 k
    omega
/-- what is left over -/
abbrev left (v t : Rat) (k : Nat) : Rat := ((k : Int) : Rat) * v - ((cnt v t k : Int) : Rat) * t
theorem left_over (ht : 0 < t) (k : Nat) : left v t k + v < t ↔ cnt v t (k + 1) < cnt v t k + 1 := by
  have ev : v / t * t = v := Rat.div_mul_cancel (by grind)
  have e : ((((k + 1 : Nat) : Int)) : Rat) = ((k : Int) : Rat) + 1 := by rw [show ((k + 1 : Nat) : Int) = (k : Int) + 1 from rfl, Rat.intCast_add]; rfl
  rw [Rat.floor_lt_iff, e, Rat.intCast_add]
  have e1 : ((1 : Int) : Rat) = 1 := rfl
  rw [e1]
  have key := Rat.mul_lt_mul_right (a := (((k : Int) : Rat) + 1) * (v / t)) (b := ((cnt v t k : Int) : Rat) + 1) ht
  rw [← key]
  have e2 : (((k : Int) : Rat) + 1) * (v / t) * t = (((k : Int) : Rat) + 1) * v := by rw [Rat.mul_assoc, ev]
  rw [e2]
  show ((k : Int) : Rat) * v - ((cnt v t k : Int) : Rat) * t + v < t ↔ _
  grind
theorem left_sz (ht : 0 < t) (h0 : 0 ≤ v) (h1 : v ≤ t) (zv : Sz 100 v) (zt : Sz 100 t) {k : Nat} (hk : k ≤ 200) : Sz 300 (left v t k) := by
  have hb := cnt_bd ht h0 h1 k
  exact Sz.mono (Sz.sub (Sz.mul (Sz.int (b := 10) (by unfold Iz; omega) (by decide)) zv) (Sz.mul (Sz.int (b := 10) (by unfold Iz; omega) (by decide)) zt)) (by decide)
theorem le_lt {a b : Rat} (h : a ≤ b) : ¬ b < a := by grind
theorem C_summed {s : Nat} (hs : s ≤ 200) (ht : 0 < t) (h0 : 0 ≤ v) (h1 : v ≤ t) (zv : Sz 100 v) (zt : Sz 100 t) : Cl (callF prg fnsA fuel (n + 2)) 26 [sh v, sh t, .int (s : Int)] st (.tup ((List.range s).map fun k => .int (cnt v t (k + 1) - cnt v t k))) st := by
  obtain ⟨Γ', s', l1, rfl, x, y, rfl⟩ := forL_rng (bind := bindP (.name 5)) (body := execs prg (runsF prg fnsA fuel (n + 2)) fuel (.cons (.asg (.name 3) (.call 1 (.cons (.var 3) (.cons (.var 0) .nil)))) (.cons (.asg (.name 6) (.not (.call 5 (.cons (.var 3) (.cons (.var 1) .nil))))) (.cons (.asg (.name 3) (.ite (.var 6) (.call 2 (.cons (.var 3) (.cons (.var 1) .nil))) (.var 3))) (.cons (.app 4 (.ite (.var 6) (.int 1) (.int 0))) .nil))))) (fun (k : Nat) => D.int (k : Int))
    (fun k Γ s' => s' = st ∧ ∃ x y, Γ = [.val (sh v), .val (sh t), .val (.int (s : Int)), .val (sh (left v t k)), .own ((List.range k).map fun k => .int (cnt v t (k + 1) - cnt v t k)), x, y]) s (Γ := [.val (sh v), .val (sh t), .val (.int (s : Int)), .val (sh 0), .own [], .no, .no]) (st := st) ⟨rfl, .no, .no, by
      have : left v t 0 = 0 := by
        show ((0 : Int) : Rat) * v - ((cnt v t 0 : Int) : Rat) * t = 0
        rw [cnt_zero, Rat.intCast_zero]
        grind
      rw [this]
      rfl⟩ (by
      rintro k Γ s' hk ⟨rfl, x, y, rfl⟩
      have zl := left_sz ht h0 h1 zv zt (k := k) (by omega)
      have za : Sz 401 (left v t k + v) := Sz.add zl zv
      have hst := cnt_step ht h0 h1 k
      have e : ((((k + 1 : Nat) : Int)) : Rat) = ((k : Int) : Rat) + 1 := by rw [show ((k + 1 : Nat) : Int) = (k : Int) + 1 from rfl, Rat.intCast_add]; rfl
      refine ⟨_, _, _, rfl, .inl (Xs.cons (Xe.asg (Ev.c2 (Ev.var rfl) (Ev.var rfl) (C_added (zl.mono (by decide)) (zv.mono (by decide)))) rfl rfl)
        (Xs.cons (Xe.asg (d := .bl (decide ¬ (left v t k + v < t))) (Ev.is (Ev.notB (Ev.c2 (Ev.var rfl) (Ev.var rfl) (C_isless (za.mono (by decide)) (zt.mono (by decide))))) (by rw [decide_not])) rfl rfl)
        (Xs.cons (Xe.asg (Ev.iteP (f := sh) (p := ¬ (left v t k + v < t)) (EvT.bl (Ev.var rfl)) (fun _ => Ev.c2 (Ev.var rfl) (Ev.var rfl) (C_less (za.mono (by decide)) (zt.mono (by decide)))) (fun _ => Ev.var rfl)) rfl rfl)
        (Xs.cons (Xe.app rfl (Ev.iteP (f := D.int) (p := ¬ (left v t k + v < t)) (EvT.bl (Ev.var rfl)) (fun _ => Ev.int) (fun _ => Ev.int)) (big_map (by rw [List.length_range]; omega)) rfl) Xs.nil)))).h, rfl, .val (.int (k : Int)), .val (.bl (decide ¬ (left v t k + v < t))), ?_⟩
      rw [List.range_succ, List.map_append]
      have hl := left_over (v := v) ht k
      have e1 : (if ¬ (left v t k + v < t) then left v t k + v - t else left v t k + v) = left v t (k + 1) := by
        by_cases h : left v t k + v < t
        · rw [if_neg (not_not_intro h)]
          have : cnt v t (k + 1) = cnt v t k := by have := hl.mp h; omega
          show ((k : Int) : Rat) * v - ((cnt v t k : Int) : Rat) * t + v = ((((k + 1 : Nat) : Int)) : Rat) * v - ((cnt v t (k + 1) : Int) : Rat) * t
          rw [this, e]
          grind
        · rw [if_pos h]
          have : cnt v t (k + 1) = cnt v t k + 1 := by
            have : ¬ cnt v t (k + 1) < cnt v t k + 1 := fun h' => h (hl.mpr h')
            omega
          show ((k : Int) : Rat) * v - ((cnt v t k : Int) : Rat) * t + v - t = ((((k + 1 : Nat) : Int)) : Rat) * v - ((cnt v t (k + 1) : Int) : Rat) * t
          rw [this, e, Rat.intCast_add]
          have e1 : ((1 : Int) : Rat) = 1 := rfl
          rw [e1]
          grind
      have e2 : (if ¬ (left v t k + v < t) then (1 : Int) else 0) = cnt v t (k + 1) - cnt v t k := by
        by_cases h : left v t k + v < t
        · rw [if_neg (not_not_intro h)]
          have := hl.mp h; omega
        · rw [if_pos h]
          have : ¬ cnt v t (k + 1) < cnt v t k + 1 := fun h' => h (hl.mpr h')
          omega
      rw [← e1, List.map_singleton, ← e2]
      rfl)
  refine Cl.ret fx26 rfl rfl ?_
  refine Xs.cons (Xe.ifN (EvT.is (EvT.bl (Ev.or (EvO.cons (Ev.le (Ev.top (Ev.var rfl)) Ev.int) fun _ => EvO.cons (Ev.lt (Ev.top (Ev.var rfl)) Ev.int) fun _ => EvO.cons (Ev.c2 (Ev.var rfl) (Ev.var rfl) (C_isless (zt.mono (by decide)) (zv.mono (by decide)))) fun _ => EvO.one (Ev.notB (Ev.cmp2 Ev.int (Ev.var rfl) rfl (fun _ => Ev.int) (fun _ => rfl)))))) ?_)) ?_
  · rw [num_le ht, num_lt h0, decide_eq_false (le_lt h1), decide_eq_true (by omega), decide_eq_true (by omega)]
    rfl
  refine Xs.cons (Xe.par (EvF.val Ev.zero (EvF.own (Ev.lst Evs.nil rfl) EvF.nil)) rfl) ?_
  refine Xs.cons (Xe.forr (EvI.rng (Ev.var rfl) (by omega)) l1) ?_
  exact Xs.leave (Xe.ret (Ev.b1 (Ev.own rfl) rfl)) rfl
theorem floor_mul (x : Rat) (c : Int) (hc : 0 < c) : (x * (c : Rat)).floor / c = x.floor := by
  have hc' : (0 : Rat) < (c : Rat) := by rw [Rat.intCast_pos]; exact hc
  have h1 := Rat.floor_le x
  have h2 := Rat.lt_floor_add_one x
  have h3 : x.floor * c ≤ (x * (c : Rat)).floor := by
    rw [Rat.le_floor_iff, Rat.intCast_mul]
    exact Rat.mul_le_mul_of_nonneg_right h1 (by grind)
  have h4 : (x * (c : Rat)).floor < (x.floor + 1) * c := by
    rw [Rat.floor_lt_iff, Rat.intCast_mul]
    exact Rat.mul_lt_mul_of_pos_right h2 hc'
  have h5 := Int.ediv_mul_le (x * (c : Rat)).floor (show c ≠ 0 by omega)
  have h6 := Int.lt_ediv_add_one_mul_self (x * (c : Rat)).floor hc
  have a : x.floor < (x * (c : Rat)).floor / c + 1 := by
    apply Int.lt_of_mul_lt_mul_right _ (by omega : (0 : Int) ≤ c)
    omega
  have b : (x * (c : Rat)).floor / c < x.floor + 1 := by
    apply Int.lt_of_mul_lt_mul_right _ (by omega : (0 : Int) ≤ c)
    omega
  omega
theorem C_slopes {u c : Int} (hu : 1 ≤ u) (hu2 : u < 1000) (hc : 1 ≤ c) (hc2 : c < 1000) (ht : 0 < t) (h0 : 0 ≤ v) (zv : Sz 100 v) (zt : Sz 100 t) : Cl (callF prg fnsA fuel (n + 2)) 27 [sh v, sh t, .int u, .int c] st (.int (v / t * (u : Rat)).floor) st := by
  have zu : Iz 20 (u * c) := (Iz.mul (b := 10) (c := 10) (by unfold Iz; omega) (by unfold Iz; omega))
  have zp : Sz 200 (v / t) := Sz.div zv zt
  have zq : Sz 220 (v / t * ((u * c : Int) : Rat)) := Sz.mul zp (Sz.int zu (by decide))
  refine Cl.ret fx27 rfl rfl ?_
  refine Xs.cons (Xe.ifN (EvT.is (EvT.bl (Ev.or (EvO.cons (Ev.le (Ev.top (Ev.var rfl)) Ev.int) fun _ => EvO.cons (Ev.lt (Ev.top (Ev.var rfl)) Ev.int) fun _ => EvO.cons (Ev.lt (Ev.var rfl) Ev.int) fun _ => EvO.one (Ev.lt (Ev.var rfl) Ev.int)))) ?_)) ?_
  · rw [num_le ht, num_lt h0, decide_eq_false (by omega), decide_eq_false (by omega)]
    rfl
  refine Xs.cons (Xe.asg (Ev.c2 (Ev.c2 (Ev.var rfl) (Ev.var rfl) (C_parted (by grind) (zv.mono (by decide)) (zt.mono (by decide)))) (Ev.whole (Ev.mul (Ev.var rfl) (Ev.var rfl) (mulOk_l (by omega)))) (C_times (zp.mono (by decide)) (Sz.mono (Sz.int zu (by decide)) (by decide)))) rfl rfl) ?_
  have zd : Iz 240 (((v / t * ((u * c : Int) : Rat)).den : Int) * c) := (zq.den.mul (c := 20) (by unfold Iz; omega))
  refine Xs.leave (Xe.ret (Ev.is (Ev.fdiv (Ev.top (Ev.var rfl)) (Ev.mul (Ev.bot (Ev.var rfl)) (Ev.var rfl) (mulOk_r (by omega))) (divOk_of zd (Int.mul_ne_zero (den_ne _) (by omega)))) ?_)) rfl
  rw [Int.fdiv_eq_ediv_of_nonneg _ (Int.mul_nonneg (by omega) (by omega)), ← Int.ediv_ediv_of_nonneg (by omega), ← Rat.floor_def, Rat.intCast_mul, ← Rat.mul_assoc, floor_mul _ _ (by omega)]
end
end K14
end Eng
set_option maxHeartbeats 4000000
namespace Eng
namespace K14
open circuitstack_k14_values_told_as_bits
open PySem (Str)
local macro_rules | `(tactic| walk_at "sz") => `(tactic| (refine' Sz.mono ?hz ?hl; (case hz => repeat' (first | assumption | refine' Sz.add ?_ ?_ | refine' Sz.sub ?_ ?_ | refine' Sz.mul ?_ ?_ | refine' Sz.div ?_ ?_ | refine' Sz.neg ?_ | exact sz_0 | exact sz_1 | exact sz_h)); (case hl => decide)))
local macro_rules | `(tactic| walk_at "ev") => `(tactic| repeat' (first
  | exact Ev.int | exact Ev.var rfl | exact Ev.own rfl | exact Ev.bl | exact Ev.non | exact Ev.str | exact Ev.lamv | exact Ev.glob rfl
  | refine' Ev.add ?_ ?_ | refine' Ev.sub ?_ ?_ | refine' Ev.mul ?_ ?_ ?_ | refine' Ev.fdiv ?_ ?_ ?_ | refine' Ev.mod ?_ ?_ ?_ | refine' Ev.neg ?_
  | refine' Ev.ix ?_ ?_ ?_ | refine' Ev.lt ?_ ?_ | refine' Ev.le ?_ ?_ | refine' Ev.gt ?_ ?_ | refine' Ev.ge ?_ ?_ | refine' Ev.eq ?_ ?_ ?_ | refine' Ev.ne ?_ ?_ ?_
  | refine' Ev.not ?_ ?_ | refine' Ev.b1 ?_ ?_ | refine' Ev.b2 ?_ ?_ ?_ | refine' Ev.tup ?_ ?_ | refine' Ev.lst ?_ ?_ | exact Evs.nil | refine' Evs.cons ?_ ?_
  | refine' EvT.of ?_ ?_ | refine' Ev.and ?_ | refine' Ev.or ?_ | refine' EvA.one ?_ | refine' EvO.one ?_ | refine' EvA.cons ?_ (fun _ => ?_) | refine' EvO.cons ?_ (fun _ => ?_)
  | refine' Ev.call (runsF_succ _ _ _ _) ?_ ?_ | exact EvF.nil | refine' EvF.val ?_ ?_ | refine' EvF.own ?_ ?_
  | refine' C_plain ?_ ?_ ?_ | refine' C_added ?_ ?_ | refine' C_less ?_ ?_ | refine' C_times ?_ ?_ | refine' C_parted ?_ ?_ ?_ | refine' C_isless ?_ ?_
  | refine' C_check ?_ ?_ | refine' C_steps ?_ ?_
  | (walk_at "sz") | rfl))
local macro_rules | `(tactic| walk_at "nrm") => `(tactic| (try simp only [List.set_cons_zero, List.set_cons_succ]))
section
variable {n : Nat} {st rest : Sto} {p q t v : Rat} {m : Nat} {b c : Nat} {d : Dc}
theorem L_roll {i : Int} (h0 : 0 < i) (h1 : i ≤ 100000000) : Cl (callF prg fnsA fuel n) 29 [.ref 0, .int i] (d.ob :: rest) (.int (d.num i)) ((d.go i).ob :: rest) := roll_S fx29 h0 h1
theorem L_share {i j : Int} (h0 : 0 < j) (h1 : Iz 100 j) : Cl (callF prg fnsA fuel (n + 202)) 32 [.int i, .int j] st (sh ((i : Rat) / (j : Rat))) st := by
  have e : ((j.toNat : Nat) : Int) = j := Int.toNat_of_nonneg (by omega)
  have hr : j.toNat < fb 200 := Nat.lt_of_lt_of_le (Nat.lt_of_lt_of_le (show j.toNat < 2 ^ 100 by unfold Iz at h1; omega) (Nat.pow_le_pow_right (by decide) (by decide))) fb_big
  have h := share_S (P := prg) (F := fuel) (n := n) (st := st) (a := i) (r := j.toNat) fx32 fx31 (by omega) hr
  rw [e, Rat.divInt_eq_div] at h
  exact h
theorem L_add (zp : Sz b p) (zq : Sz c q) (h : b + c ≤ 138 := by decide) : Cl (callF prg fnsA fuel (n + 203)) 33 [sh p, sh q] st (sh (p + q)) st := lad_S fx33 fx32 fx31 zp zq h
theorem L_mul (zp : Sz b p) (zq : Sz c q) (h : b + c ≤ 138 := by decide) : Cl (callF prg fnsA fuel (n + 203)) 34 [sh p, sh q] st (sh (p * q)) st := lmul_S fx34 fx32 fx31 zp zq h
theorem L_less (zp : Sz b p) (zq : Sz c q) (h : b ≤ 3000 := by decide) (h2 : c ≤ 3000 := by decide) : Cl (callF prg fnsA fuel n) 35 [sh p, sh q] st (.bl (decide (p < q))) st := isLess_S fx35 (zp.mono h) (zq.mono h2)
theorem L_minus (zp : Sz b p) (zq : Sz c q) (h : b + c ≤ 138 := by decide) : Cl (callF prg fnsA fuel (n + 204)) 37 [sh p, sh q] st (sh (p - q)) st := lminus_S fx37 fx33 fx32 fx31 zp zq h
theorem L_by (h0 : q ≠ 0) (zp : Sz b p) (zq : Sz c q) (h : b + c ≤ 138 := by decide) (hc : 0 < c := by decide) : Cl (callF prg fnsA fuel (n + 204)) 38 [sh p, sh q] st (sh (p / q)) st := lby_S fx38 fx34 fx32 fx31 h0 zp zq hc h
theorem L_two : ∀ (m n : Nat), m ≤ 16 → Cl (callF prg fnsA fuel (n + m)) 39 [.int (m : Int)] st (.int ((2 ^ m : Nat) : Int)) st
  | 0, n, _ => by
    refine Cl.ret fx39 rfl rfl ?_
    exact Xs.leave (Xe.ret (Ev.iteF (EvT.is (EvT.bl (Ev.gt (Ev.var rfl) Ev.int)) (by decide)) Ev.int)) rfl
  | m + 1, n, h => by
    refine Cl.ret fx39 rfl rfl ?_
    refine Xs.leave (Xe.ret (Ev.iteT (EvT.is (EvT.bl (Ev.gt (Ev.var rfl) Ev.int)) (decide_eq_true (by omega))) (Ev.is (Ev.mul Ev.int (Ev.c1 (n := n + m) (Ev.is (Ev.sub (Ev.var rfl) Ev.int) (show D.int (((m + 1 : Nat) : Int) - 1) = .int (m : Int) by congr 1; omega)) (L_two m n (by omega))) mulOk_l) ?_))) rfl
    rw [Nat.pow_succ, Int.natCast_mul, Int.mul_comm]
    rfl
theorem L_two' {m : Nat} {i : Int} (h : m ≤ 16) (e : i = (m : Int)) : Cl (callF prg fnsA fuel (n + 16)) 39 [.int i] st (.int ((2 ^ m : Nat) : Int)) st := by
  subst e
  have := L_two (st := st) m (n + 16 - m) h
  rw [show n + 16 - m + m = n + 16 by omega] at this
  exact this
theorem L_bits {m : Nat} {v : Int} (h : m ≤ 16) : Cl (callF prg fnsA fuel (n + 17)) 40 [.int v, .int (m : Int)] st (.lst ((bitsL m v).map .int)) st := by
  refine Cl.ret fx40 rfl rfl ?_
  rw [bitsL_get, List.map_map]
  refine Xs.leave (Xe.ret (Ev.lc (EvI.rng (Ev.var rfl) (by omega)) (compL_map (fun (k : Nat) => D.int (k : Int)) (D.int ∘ fun k => v / 2 ^ (m - 1 - k) % 2) _ fun k hk => ?_) (big_rng (by omega)))) rfl
  have hk := List.mem_range.mp hk
  have e1 : ((m : Int) - 1 - (k : Int)) = ((m - 1 - k : Nat) : Int) := by omega
  have z2 := two_size (m := m - 1 - k) (by omega)
  refine ⟨_, rfl, rfl, (Ev.is (Ev.mod (Ev.fdiv (Ev.var rfl) (Ev.c1 (Ev.sub (Ev.sub (Ev.var rfl) Ev.int) (Ev.var rfl)) (L_two' (m := m - 1 - k) (by omega) e1)) (divOk_of z2 (two_ne _))) Ev.int (by decide)) ?_).h⟩
  show D.int _ = D.int _
  rw [fmod2, Int.fdiv_eq_ediv_of_nonneg _ (Int.natCast_nonneg _), nat_two]
def oneV (d : Dc) : Rat := ((1 + d.num 20 : Int) : Rat) / ((1 + (d.go 20).num 3 : Int) : Rat)
theorem oneV_pos (d : Dc) : 0 < oneV d ∧ Sz 5 (oneV d) := by
  have h1 := d.num_nn (m := 20) (by decide)
  have h2 := d.num_lt (m := 20) (by decide)
  have h3 := (d.go 20).num_nn (m := 3) (by decide)
  have h4 := (d.go 20).num_lt (m := 3) (by decide)
  unfold oneV
  constructor
  · have hb : (0 : Rat) < ((1 + (d.go 20).num 3 : Int) : Rat) := by rw [Rat.intCast_pos]; omega
    rw [Rat.lt_div_iff hb, Rat.zero_mul, Rat.intCast_pos]
    omega
  · rw [← Rat.divInt_eq_div]
    exact Sz.divInt (by unfold Iz; omega) (by unfold Iz; omega) (by omega)
theorem L_one : Cl (callF prg fnsA fuel (n + 203)) 36 [.ref 0] (d.ob :: rest) (sh (oneV d)) (((d.go 20).go 3).ob :: rest) := by
  have h3 := (d.go 20).num_nn (m := 3) (by decide)
  have h4 := (d.go 20).num_lt (m := 3) (by decide)
  refine Cl.ret fx36 rfl rfl ?_
  exact Xs.leave (Xe.ret (Ev.c2 (Ev.add Ev.int (Ev.c2 (Ev.var rfl) Ev.int (L_roll (by decide) (by decide)))) (Ev.add Ev.int (Ev.c2 (Ev.var rfl) Ev.int (L_roll (by decide) (by decide)))) (L_share (by omega) (by unfold Iz; omega)))) rfl
end
def isT : R D → Bool
  | .ok (.bl true) _ => true
  | _ => false
theorem isT_ok {r : R D} (h : isT r = true) : ∃ st', r = .ok (.bl true) st' := by
  cases r with
  | ok d s =>
    cases d with
    | bl b => cases b with
      | true => exact ⟨s, rfl⟩
      | false => cases h
    | _ => cases h
  | _ => cases h
theorem plain_ok (st : Sto) : isT (callF prg fnsA fuel 229 41 [] st) = true := by kernel_rfl
end K14
end Eng
set_option maxHeartbeats 4000000
namespace Eng
namespace K14
open circuitstack_k14_values_told_as_bits
open PySem (Str)
local macro_rules | `(tactic| walk_at "sz") => `(tactic| (refine' Sz.mono ?hz ?hl; (case hz => repeat' (first | assumption | refine' Sz.add ?_ ?_ | refine' Sz.sub ?_ ?_ | refine' Sz.mul ?_ ?_ | refine' Sz.div ?_ ?_ | refine' Sz.neg ?_ | exact sz_0 | exact sz_1 | exact sz_h)); (case hl => decide)))
local macro_rules | `(tactic| walk_at "ev") => `(tactic| repeat' (first
  | exact Ev.int | exact Ev.var rfl | exact Ev.own rfl | exact Ev.bl | exact Ev.non | exact Ev.str | exact Ev.lamv | exact Ev.glob rfl
  | refine' Ev.add ?_ ?_ | refine' Ev.sub ?_ ?_ | refine' Ev.mul ?_ ?_ ?_ | refine' Ev.fdiv ?_ ?_ ?_ | refine' Ev.mod ?_ ?_ ?_ | refine' Ev.neg ?_
  | refine' Ev.ix ?_ ?_ ?_ | refine' Ev.lt ?_ ?_ | refine' Ev.le ?_ ?_ | refine' Ev.gt ?_ ?_ | refine' Ev.ge ?_ ?_ | refine' Ev.eq ?_ ?_ ?_ | refine' Ev.ne ?_ ?_ ?_
  | refine' Ev.not ?_ ?_ | refine' Ev.b1 ?_ ?_ | refine' Ev.b2 ?_ ?_ ?_ | refine' Ev.tup ?_ ?_ | refine' Ev.lst ?_ ?_ | exact Evs.nil | refine' Evs.cons ?_ ?_
  | refine' EvT.of ?_ ?_ | refine' Ev.and ?_ | refine' Ev.or ?_ | refine' EvA.one ?_ | refine' EvO.one ?_ | refine' EvA.cons ?_ (fun _ => ?_) | refine' EvO.cons ?_ (fun _ => ?_)
  | refine' Ev.call (runsF_succ _ _ _ _) ?_ ?_ | exact EvF.nil | refine' EvF.val ?_ ?_ | refine' EvF.own ?_ ?_
  | refine' C_plain ?_ ?_ ?_ | refine' C_added ?_ ?_ | refine' C_less ?_ ?_ | refine' C_times ?_ ?_ | refine' C_parted ?_ ?_ ?_ | refine' C_isless ?_ ?_
  | refine' C_check ?_ ?_ | refine' C_steps ?_ ?_
  | (walk_at "sz") | rfl))
local macro_rules | `(tactic| walk_at "nrm") => `(tactic| (try simp only [List.set_cons_zero, List.set_cons_succ]))
section
variable {n : Nat} {st rest : Sto} {p q t v : Rat} {m : Nat} {b c : Nat} {d : Dc}
theorem roll_nat (d : Dc) (i : Int) (m : Nat) (e : i = (m : Int)) (h : 0 < m) : ∃ a : Nat, d.num i = (a : Int) ∧ a < m := by
  subst e
  have h1 := d.num_nn (m := (m : Int)) (by omega)
  have h2 := d.num_lt (m := (m : Int)) (by omega)
  exact ⟨(d.num (m : Int)).toNat, by omega, by omega⟩
theorem bits_at {m k : Nat} (h : k < m) (a : Nat) : ((bitsL m (a : Int)).map D.int)[k]? = some (.int ((a / 2 ^ (m - 1 - k) % 2 : Nat) : Int)) := by
  rw [bitsL_get, List.getElem?_map, List.getElem?_map, List.getElem?_range h]
  show some (D.int ((a : Int) / 2 ^ (m - 1 - k) % 2)) = _
  rw [← nat_two]
  rfl
theorem gray_ok {a : Nat} (h : a < 5000) : dif14 (gray a) (gray (a + 1)) = 1 ∧ ungray 14 0 (gray a) = a ∧ gray (ungray 14 0 a) = a ∧ gray a < 8192 ∧ ungray 14 0 a < 8192 := by
  have := List.all_eq_true.mp gray_all a (List.mem_range.mpr h)
  simp only [Bool.and_eq_true, Nat.beq_eq, Nat.ble_eq] at this
  obtain ⟨⟨⟨⟨h1, h2⟩, h3⟩, h4⟩, h5⟩ := this
  exact ⟨h1, h2, h3, h4, h5⟩
theorem dif_len (a b : Nat) : ((List.range 14).filter fun k => !decide (((a / 2 ^ (14 - 1 - k) % 2 : Nat) : Int) = ((b / 2 ^ (14 - 1 - k) % 2 : Nat) : Int))).length = dif14 a b := by
  unfold dif14
  congr 2
  funext k
  show (!decide _) = !(Nat.beq _ _)
  congr 1
  rw [Bool.eq_iff_iff, decide_eq_true_iff, Nat.beq_eq, Int.ofNat_inj]
theorem C_rest (ht : 0 < t) (zt : Sz 5 t) : ∃ d' : Dc, Cl (callF prg fnsA fuel (n + 205)) 42 [.ref 0, sh t] (d.ob :: rest) (.bl true) (d'.ob :: rest) := by
  obtain ⟨a, ea, la⟩ := roll_nat d 5000 5000 rfl (by decide)
  obtain ⟨b, eb, lb⟩ := roll_nat (d.go 5000) 5000 5000 rfl (by decide)
  obtain ⟨s, es, ls⟩ := roll_nat ((d.go 5000).go 5000) 30 30 rfl (by decide)
  obtain ⟨r, er, lr⟩ := roll_nat (((d.go 5000).go 5000).go 30) 9 9 rfl (by decide)
  obtain ⟨u, eu, lu⟩ := roll_nat ((((d.go 5000).go 5000).go 30).go 9) 60 60 rfl (by decide)
  obtain ⟨w, ew, lw⟩ := roll_nat (((((d.go 5000).go 5000).go 30).go 9).go 60) 5 5 rfl (by decide)
  obtain ⟨ga1, ga2, ga3, ga4, ga5⟩ := gray_ok la
  obtain ⟨gb1, gb2, gb3, gb4, gb5⟩ := gray_ok lb
  have gn : gray (a + 1) < 8192 * 2 := by
    unfold gray
    exact Nat.xor_lt_two_pow (n := 14) (by omega) (by omega)
  have hx : (((List.range 13).filter fun k => !decide (((a / 2 ^ (13 - 1 - k) % 2 : Nat) : Int) = ((b / 2 ^ (13 - 1 - k) % 2 : Nat) : Int))).map (fun k => ((2 ^ (13 - 1 - k) : Nat) : Int))).sum = ((a ^^^ b : Nat) : Int) := by
    rw [xor_sum, Nat.mod_eq_of_lt (Nat.xor_lt_two_pow (by omega) (by omega))]
  have zr : Sz 8 (((r : Int) : Rat) / ((8 : Int) : Rat)) := by
    rw [← Rat.divInt_eq_div]
    exact (Sz.divInt (b := 8) (by unfold Iz; omega) (by unfold Iz; omega) (by omega))
  have zp : Sz 13 (t * (((r : Int) : Rat) / ((8 : Int) : Rat))) := Sz.mul zt zr
  have r0 : (0 : Rat) ≤ ((r : Int) : Rat) / ((8 : Int) : Rat) := by
    have h8 : ((8 : Int) : Rat) = 8 := rfl
    have : (0 : Rat) ≤ ((r : Int) : Rat) := Rat.intCast_nonneg.mpr (by omega)
    rw [h8]
    grind
  have r1 : ((r : Int) : Rat) / ((8 : Int) : Rat) ≤ 1 := by
    have h8 : ((8 : Int) : Rat) = 8 := rfl
    have : ((r : Int) : Rat) ≤ ((8 : Int) : Rat) := Rat.intCast_le_intCast.mpr (by omega)
    rw [h8] at *
    grind
  have p0 : 0 ≤ t * (((r : Int) : Rat) / ((8 : Int) : Rat)) := Rat.mul_nonneg (by grind) r0
  have p1 : t * (((r : Int) : Rat) / ((8 : Int) : Rat)) ≤ t := by
    have := Rat.mul_le_mul_of_nonneg_left r1 (show 0 ≤ t by grind)
    rw [Rat.mul_one] at this
    exact this
  generalize hpt : t * (((r : Int) : Rat) / ((8 : Int) : Rat)) = pt at *
  refine ⟨((((((d.go 5000).go 5000).go 30).go 9).go 60).go 5), ?_⟩
  refine Cl.ret (Γ := [.val (.ref 0), .val (sh t), .no, .no, .no, .no, .no, .no, .no, .no, .no, .no, .no, .no, .no, .no, .no]) fx42 rfl rfl ?_
  walk_at "nrm"
  refine Xs.cons (Xe.par (EvF.val (Ev.is (Ev.c2 (Ev.var rfl) Ev.int (L_roll (by decide) (by decide))) (congrArg D.int ea)) (EvF.val (Ev.is (Ev.c2 (Ev.var rfl) Ev.int (L_roll (by decide) (by decide))) (congrArg D.int eb)) EvF.nil)) rfl) ?_
  walk_at "nrm"
  refine Xs.cons (Xe.par (EvF.val (Ev.c2 (Ev.var rfl) Ev.int (L_bits (m := 13) (by decide))) (EvF.val (Ev.c2 (Ev.var rfl) Ev.int (L_bits (m := 13) (by decide))) EvF.nil)) rfl) ?_
  walk_at "nrm"
  refine Xs.cons (Xe.asg (Ev.is (Ev.sum (f := fun k : Nat => ((2 ^ (13 - 1 - k) : Nat) : Int)) (Ev.lc (EvI.rng (m := 13) Ev.int (by decide)) (compL_filter (fun k : Nat => D.int (k : Int)) (fun k : Nat => D.int ((2 ^ (13 - 1 - k) : Nat) : Int)) (fun k => !decide (((a / 2 ^ (13 - 1 - k) % 2 : Nat) : Int) = ((b / 2 ^ (13 - 1 - k) % 2 : Nat) : Int))) _ fun k hk => ?_) rfl)) (congrArg D.int hx)) rfl rfl) ?_
  · have hk := List.mem_range.mp hk
    refine ⟨_, rfl, ifs_one (EvT.bl (Ev.neI (Ev.ixL (Ev.var rfl) (Ev.var rfl) rfl (bits_at hk a)) (Ev.ixL (Ev.var rfl) (Ev.var rfl) rfl (bits_at hk b)))), fun _ => (Ev.c1 (Ev.sub Ev.int (Ev.var rfl)) (L_two' (m := 13 - 1 - k) (by omega) (by omega))).h⟩
  walk_at "nrm"
  refine Xs.cons (Xe.asg (Ev.lc (EvI.rng (m := 14) Ev.int (by decide)) (compL_filter (fun k : Nat => D.int (k : Int)) (fun k : Nat => D.int (k : Int)) (fun k => !decide (((gray a / 2 ^ (14 - 1 - k) % 2 : Nat) : Int) = ((gray (a + 1) / 2 ^ (14 - 1 - k) % 2 : Nat) : Int))) _ fun k hk => ?_) rfl) rfl rfl) ?_
  · have hk := List.mem_range.mp hk
    refine ⟨_, rfl, ifs_one (EvT.bl (Ev.neI (Ev.ixL (Ev.c2 (Ev.c1 (Ev.var rfl) (C_one (by omega))) Ev.int (L_bits (m := 14) (by decide))) (Ev.var rfl) rfl (bits_at hk _)) (Ev.ixL (Ev.c2 (Ev.c1 (Ev.is (Ev.add (Ev.var rfl) Ev.int) (show D.int ((a : Int) + 1) = .int ((a + 1 : Nat) : Int) from rfl)) (C_one (by omega))) Ev.int (L_bits (m := 14) (by decide))) (Ev.var rfl) rfl (bits_at hk _)))), fun _ => (Ev.var rfl).h⟩
  walk_at "nrm"
  refine Xs.cons (Xe.ifN (EvT.bl (Ev.or (EvO.consF (Ev.neF (Ev.c2 (Ev.var rfl) (Ev.var rfl) (C_crossed (by omega) (by omega))) (Ev.var rfl) rfl) (EvO.consF (Ev.is (Ev.neI (Ev.lenM (Ev.var rfl)) Ev.int) ?_) (EvO.consF (Ev.neF (d := .int (a : Int)) (Ev.is (Ev.c1 (Ev.c1 (Ev.var rfl) (C_one (by omega))) (C_from (by omega))) (by rw [ga2])) (Ev.var rfl) rfl) (EvO.one (Ev.neF (d := .int (b : Int)) (Ev.is (Ev.c1 (Ev.c1 (Ev.var rfl) (C_from (by omega))) (C_one (by omega))) (by rw [gb3])) (Ev.var rfl) rfl))))))) ) ?_
  · rw [dif_len, ga1]
    rfl
  have zk : ∀ k : Nat, k ≤ 100 → Sz 8 ((k : Int) : Rat) := fun k hk => Sz.int (by unfold Iz; omega) (by decide)
  have zpk : ∀ k : Nat, k ≤ 100 → Sz 21 (pt * ((k : Int) : Rat)) := fun k hk => Sz.mul zp (zk k hk)
  have tne : t ≠ 0 := by grind
  have ec : ∀ k : Nat, (pt * ((k : Int) : Rat) / t).floor = cnt pt t k := fun k => by
    show _ = (((k : Int) : Rat) * (pt / t)).floor
    rw [Rat.div_def, Rat.div_def, Rat.mul_comm pt, Rat.mul_assoc]
  walk_at "nrm"
  refine Xs.cons (Xe.par (EvF.val (Ev.is (Ev.c2 (Ev.var rfl) Ev.int (L_roll (by decide) (by decide))) (congrArg D.int es)) (EvF.val (Ev.c2 (Ev.var rfl) (Ev.c2 (Ev.is (Ev.c2 (Ev.var rfl) Ev.int (L_roll (by decide) (by decide))) (congrArg D.int er)) Ev.int (L_share (by decide) (by unfold Iz; decide))) (L_mul zt zr)) EvF.nil)) rfl) ?_
  rw [hpt]
  walk_at "nrm"
  refine Xs.cons (Xe.asg (Ev.lc (EvI.rng (m := s + 1) (Ev.is (Ev.add (Ev.var rfl) Ev.int) (show D.int ((s : Int) + 1) = .int ((s + 1 : Nat) : Int) from rfl)) (by omega)) (compL_map (fun k : Nat => D.int (k : Int)) (fun k : Nat => sh (pt * ((k : Int) : Rat))) _ fun k hk => ?_) (big_rng (by omega))) rfl rfl) ?_
  · have hk := List.mem_range.mp hk
    exact ⟨_, rfl, rfl, (Ev.c2 (Ev.var rfl) (Ev.whole (Ev.var rfl)) (L_mul zp (zk k (by omega)))).h⟩
  walk_at "nrm"
  refine Xs.cons (Xe.asg (Ev.lc (EvI.seqL (Ev.var rfl)) (compL_map (fun k : Nat => sh (pt * ((k : Int) : Rat))) (fun k : Nat => D.int (cnt pt t k)) _ fun k hk => ?_) (big_rng (by omega))) rfl rfl) ?_
  · have hk := List.mem_range.mp hk
    refine ⟨_, rfl, rfl, (Ev.is (Ev.floor (b := 30) (Ev.c2 (Ev.var rfl) (Ev.var rfl) (L_by tne (zpk k (by omega)) zt)) (Ev.c2 (Ev.var rfl) (Ev.var rfl) (L_by tne (zpk k (by omega)) zt)) (Sz.mono (Sz.div (zpk k (by omega)) zt) (by decide))) ?_).h⟩
    rw [ec]
  walk_at "nrm"
  refine Xs.cons (Xe.par (EvF.val (Ev.is (Ev.add Ev.int (Ev.c2 (Ev.var rfl) Ev.int (L_roll (by decide) (by decide)))) (show D.int (1 + _) = D.int (1 + (u : Int)) by rw [eu])) (EvF.val (Ev.is (Ev.add Ev.int (Ev.c2 (Ev.var rfl) Ev.int (L_roll (by decide) (by decide)))) (show D.int (1 + _) = D.int (1 + (w : Int)) by rw [ew])) EvF.nil)) rfl) ?_
  have zu : Sz 8 ((1 + (u : Int) : Int) : Rat) := Sz.int (by unfold Iz; omega) (by decide)
  walk_at "nrm"
  refine Xs.cons (Xe.asg (Ev.c2 (Ev.c2 (Ev.var rfl) (Ev.var rfl) (L_by tne zp zt)) (Ev.whole (Ev.var rfl)) (L_mul (Sz.div zp zt) zu)) rfl rfl) ?_
  walk_at "nrm"
  refine Xs.cons (Xe.ifN (EvT.bl (Ev.or (EvO.consF (Ev.neF (d := .lst ((List.range s).map fun k => .int (cnt pt t (k + 1) - cnt pt t k))) (Ev.b1 (Ev.c3 (Ev.var rfl) (Ev.var rfl) (Ev.var rfl) (C_summed (by omega) ht p0 p1 (zp.mono (by decide)) (zt.mono (by decide)))) rfl) (Ev.lc (EvI.rng (Ev.var rfl) (by omega)) (compL_map (fun k : Nat => D.int (k : Int)) (fun k : Nat => D.int (cnt pt t (k + 1) - cnt pt t k)) _ fun k hk => ?_) (big_rng (by omega))) (shp_map fun _ _ => rfl)) (EvO.one (Ev.neF (Ev.c4 (Ev.var rfl) (Ev.var rfl) (Ev.var rfl) (Ev.var rfl) (C_slopes (by omega) (by omega) (by omega) (by omega) ht p0 (zp.mono (by decide)) (zt.mono (by decide)))) (Ev.floor (Ev.var rfl) (Ev.var rfl) (Sz.mul (Sz.div zp zt) zu)) rfl)))))) ?_
  · have hk := List.mem_range.mp hk
    have at_ : ∀ j : Nat, j < s + 1 → ((List.range (s + 1)).map fun k : Nat => D.int (cnt pt t k))[j]? = some (.int (cnt pt t j)) := fun j hj => by
      rw [List.getElem?_map, List.getElem?_range hj]
      rfl
    exact ⟨_, rfl, rfl, (Ev.sub (Ev.ixL (Ev.var rfl) (Ev.add (Ev.var rfl) Ev.int) (k := k + 1) (by omega) (at_ _ (by omega))) (Ev.ixL (Ev.var rfl) (Ev.var rfl) rfl (at_ _ (by omega)))).h⟩
  exact Xs.leave (Xe.ret Ev.bl) rfl
end
end K14
end Eng
set_option maxHeartbeats 4000000
namespace Eng
namespace K14
open circuitstack_k14_values_told_as_bits
open PySem (Str)
local macro_rules | `(tactic| walk_at "sz") => `(tactic| (refine' Sz.mono ?hz ?hl; (case hz => repeat' (first | assumption | refine' Sz.add ?_ ?_ | refine' Sz.sub ?_ ?_ | refine' Sz.mul ?_ ?_ | refine' Sz.div ?_ ?_ | refine' Sz.neg ?_ | exact sz_0 | exact sz_1 | exact sz_h)); (case hl => decide)))
local macro_rules | `(tactic| walk_at "ev") => `(tactic| repeat' (first
  | exact Ev.int | exact Ev.var rfl | exact Ev.own rfl | exact Ev.bl | exact Ev.non | exact Ev.str | exact Ev.lamv | exact Ev.glob rfl
  | refine' Ev.add ?_ ?_ | refine' Ev.sub ?_ ?_ | refine' Ev.mul ?_ ?_ ?_ | refine' Ev.fdiv ?_ ?_ ?_ | refine' Ev.mod ?_ ?_ ?_ | refine' Ev.neg ?_
  | refine' Ev.ix ?_ ?_ ?_ | refine' Ev.lt ?_ ?_ | refine' Ev.le ?_ ?_ | refine' Ev.gt ?_ ?_ | refine' Ev.ge ?_ ?_ | refine' Ev.eq ?_ ?_ ?_ | refine' Ev.ne ?_ ?_ ?_
  | refine' Ev.not ?_ ?_ | refine' Ev.b1 ?_ ?_ | refine' Ev.b2 ?_ ?_ ?_ | refine' Ev.tup ?_ ?_ | refine' Ev.lst ?_ ?_ | exact Evs.nil | refine' Evs.cons ?_ ?_
  | refine' EvT.of ?_ ?_ | refine' Ev.and ?_ | refine' Ev.or ?_ | refine' EvA.one ?_ | refine' EvO.one ?_ | refine' EvA.cons ?_ (fun _ => ?_) | refine' EvO.cons ?_ (fun _ => ?_)
  | refine' Ev.call (runsF_succ _ _ _ _) ?_ ?_ | exact EvF.nil | refine' EvF.val ?_ ?_ | refine' EvF.own ?_ ?_
  | refine' C_plain ?_ ?_ ?_ | refine' C_added ?_ ?_ | refine' C_less ?_ ?_ | refine' C_times ?_ ?_ | refine' C_parted ?_ ?_ ?_ | refine' C_isless ?_ ?_
  | refine' C_check ?_ ?_ | refine' C_steps ?_ ?_
  | (walk_at "sz") | rfl))
local macro_rules | `(tactic| walk_at "nrm") => `(tactic| (try simp only [List.set_cons_zero, List.set_cons_succ]))
abbrev body : ISs := ISs.forBody b43
variable {x0 x1 x2 x3 x4 x5 x6 x7 x8 x9 x10 x11 x12 x13 x14 x15 x16 x17 x18 x19 x20 x21 x22 x23 x24 x25 x26 x27 x28 x29 x30 x31 x32 x33 x34 x35 : Sl}
section
variable {n : Nat} {p q t v : Rat} {m : Nat} {d : Dc}
theorem seg7 {Γ : Env} (h1 : Γ[1]? = some (.val (.ref 0))) (h18 : Γ[18]? = some (.val (sh t))) (ht : 0 < t) (zt : Sz 5 t) : ∃ d' : Dc, Xs prg (runsF prg fnsA fuel (n + 206)) fuel Γ [d.ob] (ISs.drop 27 body) (.nx Γ [d'.ob]) := by
  obtain ⟨d', h⟩ := C_rest (n := n) (rest := []) (d := d) ht zt
  exact ⟨d', Xs.cons (Xe.ifN (EvT.bl (Ev.notB (Ev.c2 (Ev.var h1) (Ev.var h18) h)))) Xs.nil⟩
/-- half of a small whole number -/
def Hf (k : Nat) (x : Rat) : Prop := ∃ i : Int, i.natAbs ≤ k ∧ x = (i : Rat) / ((2 : Int) : Rat)
theorem Hf.sz {k : Nat} {x : Rat} (h : Hf k x) (hk : k < 100) : Sz 8 x := by
  obtain ⟨i, hi, rfl⟩ := h
  rw [← Rat.divInt_eq_div]
  exact Sz.divInt (by unfold Iz; omega) (by unfold Iz; omega) (by decide)
theorem Hf_sz {l : List Rat} (h : ∀ x ∈ l, Hf 50 x) (k : Nat) : Sz 8 (l.getD k 0) := getD_sz (by decide) (fun x hx => (h x hx).sz (by decide)) k
theorem gap_small {l : List Rat} (hl : l.length ≤ 20) (h : ∀ x ∈ l, Hf 50 x) : Sz 23 (stepE l) :=
  Sz.mono (Sz.mul (Sz.sub (Hf_sz h _) (Hf_sz h _)) (inv_sz (b := 5) (by unfold Iz; omega) (by decide))) (by decide)
theorem off_small {l : List Rat} (hl : l.length ≤ 20) (h : ∀ x ∈ l, Hf 50 x) (k : Nat) : Sz 64 (gapE l k) :=
  Sz.mono (Sz.div (Sz.sub (Sz.sub (Hf_sz h _) (Hf_sz h _)) (gap_small hl h)) (gap_small hl h)) (by decide)
theorem line_small {l : List Rat} (hl : l.length ≤ 20) (h : ∀ x ∈ l, Hf 50 x) {k : Nat} (hk : k ≤ 20) : Sz 38 (l.getD 0 0 + stepE l * ((((k : Int) + 1) : Int) : Rat)) :=
  Sz.mono (Sz.add (Hf_sz h _) (Sz.mul (gap_small hl h) (Sz.int (b := 5) (by unfold Iz; omega) (by decide)))) (by decide)
theorem far_small {l : List Rat} (hl : l.length ≤ 20) (h : ∀ x ∈ l, Hf 50 x) {k : Nat} (hk : k ≤ 20) : Sz 70 (farE l k) :=
  Sz.mono (Sz.div (Sz.sub (Hf_sz h _) (line_small hl h hk)) (gap_small hl h)) (by decide)
/-- the greatest of a row, as the law tells it -/
theorem Ev.most {st : Sto} {R : List Rat} {s : Rat} (hl : R.length ≤ 500) (hz : ∀ x ∈ s :: R, Sz 2000 x) :
    Ev prg (runsF prg fnsA fuel (n + 206)) [x0, x1, x2, x3, x4, x5, x6, x7, x8, x9, x10, x11, x12, x13, x14, x15, x16, x17, x18, x19, x20, x21, x22, x23, x24, x25, x26, x27, x28, x29, x30, x31, x32, .val (.lst ((s :: R).map sh)), x34, x35] st (.ix (.lc [34] (.name 34) (.seq (.var 33)) (.cons (.cmp .eq (.lc [35] (.name 35) (.seq (.var 33)) (.cons (.call 35 (.cons (.var 34) (.cons (.var 35) .nil))) .nil) (.var 35)) (.lst .nil)) .nil) (.var 34)) (.int 0)) (sh (R.foldl mx s)) st := by
  refine Ev.ixL (k := 0) (Ev.lc (EvI.seqL (Ev.var rfl)) (compL_filter sh sh (fun x => ((s :: R).filter fun y => decide (x < y)).isEmpty) (s :: R) fun x hx => ⟨_, rfl, ifs_one (EvT.bl (Ev.eqNil (f := sh) (Ev.lc (EvI.seqL (Ev.var rfl)) (compL_filter sh sh (fun y => decide (x < y)) (s :: R) fun y hy => ⟨_, rfl, ifs_one (EvT.bl (Ev.c2 (Ev.var rfl) (Ev.var rfl) (L_less (hz x hx) (hz y hy)))), fun _ => (Ev.var rfl).h⟩) (big_map (by rw [List.length_cons]; omega))) (fun _ _ => rfl))), fun _ => (Ev.var rfl).h⟩) (big_map (by rw [List.length_cons]; omega))) Ev.int rfl ?_
  rw [List.getElem?_map, max_head]
  rfl
end
end K14
end Eng
set_option maxHeartbeats 4000000
namespace Eng
namespace K14
open circuitstack_k14_values_told_as_bits
open PySem (Str)
local macro_rules | `(tactic| walk_at "sz") => `(tactic| (refine' Sz.mono ?hz ?hl; (case hz => repeat' (first | assumption | refine' Sz.add ?_ ?_ | refine' Sz.sub ?_ ?_ | refine' Sz.mul ?_ ?_ | refine' Sz.div ?_ ?_ | refine' Sz.neg ?_ | exact sz_0 | exact sz_1 | exact sz_h)); (case hl => decide)))
local macro_rules | `(tactic| walk_at "ev") => `(tactic| repeat' (first
  | exact Ev.int | exact Ev.var rfl | exact Ev.own rfl | exact Ev.bl | exact Ev.non | exact Ev.str | exact Ev.lamv | exact Ev.glob rfl
  | refine' Ev.add ?_ ?_ | refine' Ev.sub ?_ ?_ | refine' Ev.mul ?_ ?_ ?_ | refine' Ev.fdiv ?_ ?_ ?_ | refine' Ev.mod ?_ ?_ ?_ | refine' Ev.neg ?_
  | refine' Ev.ix ?_ ?_ ?_ | refine' Ev.lt ?_ ?_ | refine' Ev.le ?_ ?_ | refine' Ev.gt ?_ ?_ | refine' Ev.ge ?_ ?_ | refine' Ev.eq ?_ ?_ ?_ | refine' Ev.ne ?_ ?_ ?_
  | refine' Ev.not ?_ ?_ | refine' Ev.b1 ?_ ?_ | refine' Ev.b2 ?_ ?_ ?_ | refine' Ev.tup ?_ ?_ | refine' Ev.lst ?_ ?_ | exact Evs.nil | refine' Evs.cons ?_ ?_
  | refine' EvT.of ?_ ?_ | refine' Ev.and ?_ | refine' Ev.or ?_ | refine' EvA.one ?_ | refine' EvO.one ?_ | refine' EvA.cons ?_ (fun _ => ?_) | refine' EvO.cons ?_ (fun _ => ?_)
  | refine' Ev.call (runsF_succ _ _ _ _) ?_ ?_ | exact EvF.nil | refine' EvF.val ?_ ?_ | refine' EvF.own ?_ ?_
  | refine' C_plain ?_ ?_ ?_ | refine' C_added ?_ ?_ | refine' C_less ?_ ?_ | refine' C_times ?_ ?_ | refine' C_parted ?_ ?_ ?_ | refine' C_isless ?_ ?_
  | refine' C_check ?_ ?_ | refine' C_steps ?_ ?_
  | (walk_at "sz") | rfl))
local macro_rules | `(tactic| walk_at "nrm") => `(tactic| (try simp only [List.set_cons_zero, List.set_cons_succ]))
variable {x0 x1 x2 x3 x4 x5 x6 x7 x8 x9 x10 x11 x12 x13 x14 x15 x16 x17 x18 x19 x20 x21 x22 x23 x24 x25 x26 x27 x28 x29 x30 x31 x32 x33 x34 x35 : Sl}
section
variable {n : Nat} {p q t v : Rat} {m : Nat} {d : Dc}
def toldV (l : List Rat) : D := if stepE l = 0 then .str (PySem.Str.ofString "TurnError") else .tup [sh (wstE l (l.length - 1)), sh (wfrE l (l.length - 1))]
abbrev offR (g : Nat → Rat) (k : Nat) : List Rat := (List.range k).map fun j => rabs (g j)
theorem offR_succ (g : Nat → Rat) (k : Nat) : ((0 : Rat) :: offR g (k + 1)).map sh = ((0 : Rat) :: offR g k).map sh ++ [sh (rabs (g k))] := by
  unfold offR
  rw [List.range_succ, List.map_append, ← List.cons_append, List.map_append]
  rfl
theorem offR_sz {g : Nat → Rat} {k b : Nat} (hb : 0 < b) (h : ∀ j, j < k → Sz b (g j)) : ∀ x ∈ (0 : Rat) :: offR g k, Sz b x := fun x hx => by
  rcases List.mem_cons.mp hx with e | hx
  · rw [e]; exact sz_0.mono hb
  · obtain ⟨j, hj, rfl⟩ := List.mem_map.mp hx
    exact rabs_sz (h j (List.mem_range.mp hj))
theorem seg6 {l : List Rat} (h2 : 2 ≤ l.length) (hl : l.length ≤ 20) (hh : ∀ x ∈ l, Hf 50 x) (ht : 0 < t) (zt : Sz 5 t) : ∃ (Γ' : Env) (d' : Dc), Xs prg (runsF prg fnsA fuel (n + 206)) fuel [x0, .val (.ref 0), x2, x3, x4, x5, x6, x7, x8, x9, x10, x11, x12, x13, .val (sh (stepE l)), x15, .val (toldV l), x17, .val (sh t), x19, x20, x21, x22, x23, x24, x25, .val (.lst (l.map sh)), x27, x28, x29, x30, x31, x32, x33, x34, x35] [d.ob] (ISs.drop 26 body) (.nx Γ' [d'.ob]) := by
  by_cases h0 : stepE l = 0
  · obtain ⟨d', h⟩ := seg7 (n := n) (t := t) (d := d) (Γ := [x0, .val (.ref 0), x2, x3, x4, x5, x6, x7, x8, x9, x10, x11, x12, x13, .val (sh (stepE l)), x15, .val (toldV l), x17, .val (sh t), x19, x20, x21, x22, x23, x24, x25, .val (.lst (l.map sh)), x27, x28, x29, x30, x31, x32, x33, x34, x35]) rfl rfl ht zt
    refine ⟨_, d', Xs.cons (Xe.ifN (EvT.is (EvT.bl (Ev.neI (Ev.top (Ev.var rfl)) Ev.int)) ?_)) h⟩
    rw [h0]
    rfl
  · have zs := gap_small hl hh
    obtain ⟨Γ', s', l1, rfl, y6, y29, y30, rfl⟩ := forL_rng (bind := bindP (.name 6)) (body := execs prg (runsF prg fnsA fuel (n + 206)) fuel (ISs.forBody (ISs.drop 1 (ISs.thenB (ISs.drop 26 body))))) (fun (k : Nat) => D.int ((k : Int) + 1))
      (fun k Γ s => s = [d.ob] ∧ ∃ y6 y29 y30, Γ = [x0, .val (.ref 0), x2, x3, x4, x5, y6, x7, x8, x9, x10, x11, x12, x13, .val (sh (stepE l)), x15, .val (toldV l), x17, .val (sh t), x19, x20, x21, x22, x23, x24, x25, .val (.lst (l.map sh)), .val (.lst (((0 : Rat) :: offR (gapE l) k).map sh)), .val (.lst (((0 : Rat) :: offR (farE l) k).map sh)), y29, y30, x31, x32, x33, x34, x35]) (l.length - 1)
      (Γ := [x0, .val (.ref 0), x2, x3, x4, x5, x6, x7, x8, x9, x10, x11, x12, x13, .val (sh (stepE l)), x15, .val (toldV l), x17, .val (sh t), x19, x20, x21, x22, x23, x24, x25, .val (.lst (l.map sh)), .val (.lst [sh 0]), .val (.lst [sh 0]), x29, x30, x31, x32, x33, x34, x35]) (st := [d.ob]) ⟨rfl, _, _, _, rfl⟩ (by
        rintro k Γ s hk ⟨rfl, y6, y29, y30, rfl⟩
        have zi : Sz 5 ((((k : Int) + 1 : Int)) : Rat) := Sz.int (by unfold Iz; omega) (by decide)
        have zl := line_small hl hh (k := k) (by omega)
        refine ⟨_, _, _, rfl, .inl (Xs.cons (Xe.asg (d := sh (gapE l k)) (Ev.c2 (Ev.c2 (Ev.c2 (Ev.ixL (Ev.var rfl) (Ev.var rfl) (k := k + 1) (by omega) (getD_some (by omega))) (Ev.ixL (Ev.var rfl) (Ev.sub (Ev.var rfl) Ev.int) (k := k) (by omega) (getD_some (by omega))) (L_minus (Hf_sz hh _) (Hf_sz hh _))) (Ev.var rfl) (L_minus (Sz.sub (Hf_sz hh _) (Hf_sz hh _)) zs)) (Ev.var rfl) (L_by h0 (Sz.sub (Sz.sub (Hf_sz hh _) (Hf_sz hh _)) zs) zs)) rfl rfl)
          (Xs.cons (Xe.asg (d := sh (farE l k)) (Ev.c2 (Ev.c2 (Ev.ixL (Ev.var rfl) (Ev.var rfl) (k := k + 1) (by omega) (getD_some (by omega))) (Ev.c2 (Ev.ixL (Ev.var rfl) Ev.int (k := 0) rfl (getD_some (by omega))) (Ev.c2 (Ev.var rfl) (Ev.whole (Ev.var rfl)) (L_mul zs zi)) (L_add (Hf_sz hh _) (Sz.mul zs zi))) (L_minus (Hf_sz hh _) zl)) (Ev.var rfl) (L_by h0 (Sz.sub (Hf_sz hh _) zl) zs)) rfl rfl)
          (Xs.cons (Xe.par (EvF.val (Ev.cat (Ev.var rfl) (Ev.lst (Evs.cons (Ev.absS (Ev.var rfl) (Ev.var rfl)) Evs.nil) rfl) (by rw [big_map (by rw [List.length_cons, List.length_map, List.length_range]; omega)]; rfl)) (EvF.val (Ev.cat (Ev.var rfl) (Ev.lst (Evs.cons (Ev.absS (Ev.var rfl) (Ev.var rfl)) Evs.nil) rfl) (by rw [big_map (by rw [List.length_cons, List.length_map, List.length_range]; omega)]; rfl)) EvF.nil)) rfl) Xs.nil))).h, rfl, .val (.int ((k : Int) + 1)), .val (sh (gapE l k)), .val (sh (farE l k)), ?_⟩
        rw [offR_succ, offR_succ]
        rfl)
    obtain ⟨d', h⟩ := seg7 (n := n) (t := t) (d := d) (Γ := [x0, .val (.ref 0), x2, x3, x4, x5, y6, x7, x8, x9, x10, x11, x12, x13, .val (sh (stepE l)), x15, .val (toldV l), x17, .val (sh t), x19, x20, x21, x22, x23, x24, x25, .val (.lst (l.map sh)), .val (.lst (((0 : Rat) :: offR (gapE l) (l.length - 1)).map sh)), .val (.lst (((0 : Rat) :: offR (farE l) (l.length - 1)).map sh)), y29, y30, x31, x32, x33, x34, x35]) rfl rfl ht zt
    refine ⟨_, d', Xs.cons (Xe.ifT (EvT.is (EvT.bl (Ev.neI (Ev.top (Ev.var rfl)) Ev.int)) (by rw [decide_eq_false (num_ne h0)]; rfl)) ?_) h⟩
    refine Xs.cons (Xe.par (EvF.val (Ev.lst (Evs.cons Ev.zero Evs.nil) rfl) (EvF.val (Ev.lst (Evs.cons Ev.zero Evs.nil) rfl) EvF.nil)) rfl) ?_
    walk_at "nrm"
    refine Xs.cons (Xe.forr (EvI.rng1 (m := l.length - 1) Ev.int (Ev.lenM (Ev.var rfl)) (by omega) (by omega)) l1) ?_
    refine Xs.cons (Xe.ifN (EvT.bl (Ev.neF (d := .tup [sh (wstE l (l.length - 1)), sh (wfrE l (l.length - 1))]) (Ev.is (Ev.var rfl) (by unfold toldV; rw [if_neg h0])) (Ev.b1 (Ev.lc (EvI.seqL (Ev.lst (Evs.cons (Ev.var rfl) (Evs.cons (Ev.var rfl) Evs.nil)) rfl)) (compL_map (fun R : List Rat => D.lst (((0 : Rat) :: R).map sh)) (fun R : List Rat => sh (R.foldl mx 0)) [offR (gapE l) (l.length - 1), offR (farE l) (l.length - 1)] fun R hR => ⟨_, rfl, rfl, (Ev.most ?_ ?_).h⟩) rfl) ?_) rfl))) Xs.nil
    · rcases List.mem_cons.mp hR with e | hR
      · rw [e, List.length_map, List.length_range]; omega
      · rw [List.mem_singleton.mp hR, List.length_map, List.length_range]; omega
    · intro x hx
      rcases List.mem_cons.mp hR with e | hR
      · subst e
        exact (offR_sz (b := 64) (by decide) (fun j _ => off_small hl hh j) x hx).mono (by decide)
      · have e := List.mem_singleton.mp hR
        subst e
        exact (offR_sz (b := 70) (by decide) (fun j hj => far_small hl hh (k := j) (by omega)) x hx).mono (by decide)
    · show some (D.tup [sh ((offR (gapE l) (l.length - 1)).foldl mx 0), sh ((offR (farE l) (l.length - 1)).foldl mx 0)]) = _
      rw [List.foldl_map, List.foldl_map]
end
end K14
end Eng
set_option maxHeartbeats 4000000
namespace Eng
namespace K14
open circuitstack_k14_values_told_as_bits
open PySem (Str)
local macro_rules | `(tactic| walk_at "sz") => `(tactic| (refine' Sz.mono ?hz ?hl; (case hz => repeat' (first | assumption | refine' Sz.add ?_ ?_ | refine' Sz.sub ?_ ?_ | refine' Sz.mul ?_ ?_ | refine' Sz.div ?_ ?_ | refine' Sz.neg ?_ | exact sz_0 | exact sz_1 | exact sz_h)); (case hl => decide)))
local macro_rules | `(tactic| walk_at "ev") => `(tactic| repeat' (first
  | exact Ev.int | exact Ev.var rfl | exact Ev.own rfl | exact Ev.bl | exact Ev.non | exact Ev.str | exact Ev.lamv | exact Ev.glob rfl
  | refine' Ev.add ?_ ?_ | refine' Ev.sub ?_ ?_ | refine' Ev.mul ?_ ?_ ?_ | refine' Ev.fdiv ?_ ?_ ?_ | refine' Ev.mod ?_ ?_ ?_ | refine' Ev.neg ?_
  | refine' Ev.ix ?_ ?_ ?_ | refine' Ev.lt ?_ ?_ | refine' Ev.le ?_ ?_ | refine' Ev.gt ?_ ?_ | refine' Ev.ge ?_ ?_ | refine' Ev.eq ?_ ?_ ?_ | refine' Ev.ne ?_ ?_ ?_
  | refine' Ev.not ?_ ?_ | refine' Ev.b1 ?_ ?_ | refine' Ev.b2 ?_ ?_ ?_ | refine' Ev.tup ?_ ?_ | refine' Ev.lst ?_ ?_ | exact Evs.nil | refine' Evs.cons ?_ ?_
  | refine' EvT.of ?_ ?_ | refine' Ev.and ?_ | refine' Ev.or ?_ | refine' EvA.one ?_ | refine' EvO.one ?_ | refine' EvA.cons ?_ (fun _ => ?_) | refine' EvO.cons ?_ (fun _ => ?_)
  | refine' Ev.call (runsF_succ _ _ _ _) ?_ ?_ | exact EvF.nil | refine' EvF.val ?_ ?_ | refine' EvF.own ?_ ?_
  | refine' C_plain ?_ ?_ ?_ | refine' C_added ?_ ?_ | refine' C_less ?_ ?_ | refine' C_times ?_ ?_ | refine' C_parted ?_ ?_ ?_ | refine' C_isless ?_ ?_
  | refine' C_check ?_ ?_ | refine' C_steps ?_ ?_
  | (walk_at "sz") | rfl))
local macro_rules | `(tactic| walk_at "nrm") => `(tactic| (try simp only [List.set_cons_zero, List.set_cons_succ]))
variable {x0 x1 x2 x3 x4 x5 x6 x7 x8 x9 x10 x11 x12 x13 x14 x15 x16 x17 x18 x19 x20 x21 x22 x23 x24 x25 x26 x27 x28 x29 x30 x31 x32 x33 x34 x35 : Sl}
section
variable {n : Nat} {p q t v : Rat} {m : Nat} {d : Dc}
theorem zip_tail (l : List Rat) : List.zip l l.tail = (List.range (l.length - 1)).map fun k => (l.getD k 0, l.getD (k + 1) 0) := by
  apply List.ext_getElem
  · rw [List.length_zip, List.length_tail, List.length_map, List.length_range]; omega
  · intro i h1 h2
    rw [List.length_map, List.length_range] at h2
    rw [List.getElem_zip, List.getElem_tail, List.getElem_map, List.getElem_range]
    rw [List.getD_eq_getElem?_getD, List.getD_eq_getElem?_getD, List.getElem?_eq_getElem (by omega), List.getElem?_eq_getElem (by omega)]
    rfl
theorem rise_eq (l : List Rat) : ((List.zip l l.tail).all fun p => !decide (p.2 < p.1)) = ((List.range (l.length - 1)).filter fun k => decide (l.getD (k + 1) 0 < l.getD k 0)).isEmpty := by
  rw [zip_tail, Bool.eq_iff_iff, List.all_eq_true, List.isEmpty_iff, List.filter_eq_nil_iff]
  constructor
  · intro h k hk
    have := h _ (List.mem_map_of_mem (f := fun k => (l.getD k 0, l.getD (k + 1) 0)) hk)
    simpa using this
  · intro h p hp
    obtain ⟨k, hk, rfl⟩ := List.mem_map.mp hp
    have := h k hk
    simpa using this
theorem Hf.mono {j k : Nat} {x : Rat} (h : Hf j x) (l : j ≤ k) : Hf k x := by
  obtain ⟨i, hi, e⟩ := h
  exact ⟨i, by omega, e⟩
theorem Hf_add {k r : Nat} {x : Rat} (h : Hf k x) (hr : r < 7) : Hf (k + 5) (x + (((r : Int) - 1 : Int) : Rat) / ((2 : Int) : Rat)) := by
  obtain ⟨i, hi, rfl⟩ := h
  refine ⟨i + ((r : Int) - 1), by omega, ?_⟩
  rw [Rat.intCast_add i, Rat.div_def, Rat.div_def, Rat.div_def, Rat.add_mul]
theorem told_eqb (l : List Rat) : D.eqb (toldV l) (.str (PySem.Str.ofString "TurnError")) = decide (stepE l = 0) := by
  unfold toldV
  by_cases h : stepE l = 0
  · rw [if_pos h, decide_eq_true h]
    unfold D.eqb
    exact beq_self_eq_true _
  · rw [if_neg h, decide_eq_false h]
    rfl
theorem told_shp (l : List Rat) : (D.shp 60 (toldV l) && D.shp 60 (.str (PySem.Str.ofString "TurnError"))) = true := by
  have e : D.shp 60 (.str (PySem.Str.ofString "TurnError")) = true := by decide +kernel
  rw [e, Bool.and_true]
  unfold toldV
  split
  · exact e
  · rfl
theorem seg5 (ht : 0 < t) (zt : Sz 5 t) : ∃ (Γ' : Env) (d' : Dc), Xs prg (runsF prg fnsA fuel (n + 206)) fuel [x0, .val (.ref 0), x2, x3, x4, x5, x6, x7, x8, x9, x10, x11, x12, x13, x14, x15, x16, x17, .val (sh t), x19, x20, x21, x22, x23, x24, x25, x26, x27, x28, x29, x30, x31, x32, x33, x34, x35] [d.ob] (ISs.drop 20 body) (.nx Γ' [d'.ob]) := by
  obtain ⟨r5, e5, l5⟩ := roll_nat d 5 5 rfl (by decide)
  obtain ⟨Γ2, s2, l1, dd, l0, h, y6, rfl, rfl, hlen, hl0, hh⟩ := forL_rng (bind := bindP (.name 6)) (body := execs prg (runsF prg fnsA fuel (n + 206)) fuel (ISs.forBody (ISs.drop 21 body))) (fun (k : Nat) => D.int (k : Int))
    (fun k Γ s => ∃ (dd : Dc) (l0 : List Rat) (h : Rat) (y6 : Sl), s = [dd.ob] ∧ Γ = [x0, .val (.ref 0), x2, x3, x4, x5, y6, x7, x8, x9, x10, x11, x12, x13, x14, x15, x16, x17, .val (sh t), x19, x20, x21, x22, .val (sh h), x24, x25, .val (.lst ((l0 ++ [h]).map sh)), x27, x28, x29, x30, x31, x32, x33, x34, x35] ∧ l0.length = k ∧ (∀ x ∈ l0, Hf (5 * k) x) ∧ Hf (5 * k) h) (r5 + 1)
    (Γ := [x0, .val (.ref 0), x2, x3, x4, x5, x6, x7, x8, x9, x10, x11, x12, x13, x14, x15, x16, x17, .val (sh t), x19, x20, x21, x22, .val (sh 0), x24, x25, .val (.lst [sh 0]), x27, x28, x29, x30, x31, x32, x33, x34, x35]) (st := [(d.go 5).ob]) ⟨_, [], 0, _, rfl, rfl, rfl, by simp, 0, by decide, by decide +kernel⟩ (by
      rintro k Γ s hk ⟨dd, l0, h, y6, rfl, rfl, hlen, hl0, hh⟩
      obtain ⟨r, er, lr⟩ := roll_nat dd 7 7 rfl (by decide)
      have zh : Sz 8 h := hh.sz (by omega)
      have zr : Sz 4 ((((r : Int) - 1 : Int) : Rat) / ((2 : Int) : Rat)) := by
        rw [← Rat.divInt_eq_div]
        exact Sz.divInt (by unfold Iz; omega) (by unfold Iz; omega) (by decide)
      refine ⟨_, _, _, rfl, .inl (Xs.cons (Xe.asg (Ev.c2 (Ev.var rfl) (Ev.c2 (Ev.sub (Ev.is (Ev.c2 (Ev.var rfl) Ev.int (L_roll (by decide) (by decide))) (congrArg D.int er)) Ev.int) Ev.int (L_share (by decide) (by unfold Iz; decide))) (L_add zh zr)) rfl rfl) (Xs.cons (Xe.asg (Ev.cat (Ev.var rfl) (Ev.lst (Evs.cons (Ev.var rfl) Evs.nil) rfl) (by rw [big_map (by rw [List.length_append, List.length_singleton]; omega)]; rfl)) rfl rfl) Xs.nil)).h, dd.go 7, l0 ++ [h], h + (((r : Int) - 1 : Int) : Rat) / ((2 : Int) : Rat), .val (.int (k : Int)), rfl, ?_, by rw [List.length_append, List.length_singleton, hlen], ?_, (Hf_add hh lr).mono (by omega)⟩
      · rw [List.map_append (l₁ := l0 ++ [h])]
        rfl
      · intro x hx
        rcases List.mem_append.mp hx with hx | hx
        · exact (hl0 x hx).mono (by omega)
        · rw [List.mem_singleton.mp hx]
          exact hh.mono (by omega))
  have hl : ∀ x ∈ l0 ++ [h], Hf 50 x := fun x hx => by
    rcases List.mem_append.mp hx with hx | hx
    · exact (hl0 x hx).mono (by omega)
    · rw [List.mem_singleton.mp hx]
      exact hh.mono (by omega)
  have hn : (l0 ++ [h]).length = r5 + 2 := by rw [List.length_append, List.length_singleton, hlen]
  generalize l0 ++ [h] = l at *
  have zs := gap_small (l := l) (by omega) hl
  have zg := Hf_sz hl
  have hz : ∀ x ∈ l, Sz 60 x := fun x hx => ((hl x hx).sz (by decide)).mono (by decide)
  obtain ⟨Γ', d', h6⟩ := seg6 (x0 := x0) (x2 := x2) (x3 := x3) (x4 := x4) (x5 := x5) (x6 := y6) (x7 := x7) (x8 := x8) (x9 := x9) (x10 := x10) (x11 := x11) (x12 := x12) (x13 := x13) (x15 := .val (.bl ((List.range (l.length - 1)).filter fun k => decide (l.getD (k + 1) 0 < l.getD k 0)).isEmpty)) (x17 := x17) (x19 := x19) (x20 := x20) (x21 := x21) (x22 := x22) (x23 := .val (sh h)) (x24 := x24) (x25 := x25) (x27 := x27) (x28 := x28) (x29 := x29) (x30 := x30) (x31 := x31) (x32 := x32) (x33 := x33) (x34 := x34) (x35 := x35) (n := n) (d := dd) (by omega) (by omega) hl ht zt
  refine ⟨Γ', d', ?_⟩
  refine Xs.cons (Xe.par (EvF.val (Ev.lst (Evs.cons Ev.zero Evs.nil) rfl) (EvF.val Ev.zero EvF.nil)) rfl) ?_
  walk_at "nrm"
  refine Xs.cons (Xe.forr (EvI.rng (m := r5 + 1) (Ev.is (Ev.add Ev.int (Ev.is (Ev.c2 (Ev.var rfl) Ev.int (L_roll (by decide) (by decide))) (congrArg D.int e5))) (by congr 1; omega)) (by omega)) l1) ?_
  refine Xs.cons (Xe.asg (d := sh (stepE l)) (Ev.c2 (Ev.c2 (Ev.ix (Ev.var rfl) (Ev.neg Ev.int) (ixV_last (getD_last (by omega)))) (Ev.ixL (Ev.var rfl) Ev.int (k := 0) rfl (getD_some (by omega))) (L_minus (zg _) (zg _))) (Ev.inv (Ev.sub (Ev.lenM (Ev.var rfl)) Ev.int) (by omega)) (L_mul (Sz.sub (zg _) (zg _)) (inv_sz (b := 5) (by unfold Iz; omega) (by decide)))) rfl rfl) ?_
  walk_at "nrm"
  refine Xs.cons (Xe.asg (Ev.eqNil (f := fun k : Nat => D.int (k : Int)) (Ev.lc (EvI.rng (m := l.length - 1) (Ev.is (Ev.sub (Ev.lenM (Ev.var rfl)) Ev.int) (by congr 1; omega)) (by omega)) (compL_filter (fun k : Nat => D.int (k : Int)) (fun k : Nat => D.int (k : Int)) (fun k => decide (l.getD (k + 1) 0 < l.getD k 0)) _ fun k hk => ?_) (big_rng (by omega))) (fun _ _ => rfl)) rfl rfl) ?_
  · have hk := List.mem_range.mp hk
    exact ⟨_, rfl, ifs_one (EvT.bl (Ev.c2 (Ev.ixL (Ev.var rfl) (Ev.add (Ev.var rfl) Ev.int) (k := k + 1) (by omega) (getD_some (by omega))) (Ev.ixL (Ev.var rfl) (Ev.var rfl) (k := k) rfl (getD_some (by omega))) (L_less (zg _) (zg _)))), fun _ => (Ev.var rfl).h⟩
  walk_at "nrm"
  refine Xs.cons (Xe.asg (d := toldV l) (st1 := [dd.ob]) ?_ rfl rfl) ?_
  · unfold toldV
    by_cases h0 : stepE l = 0
    · rw [if_pos h0]
      exact Ev.toldX (c := 2) rfl rfl rfl (EvX.call (runsF_succ _ _ _ _) (Evs.cons (Ev.var rfl) (Evs.cons (Ev.var rfl) Evs.nil)) (X_worst (by omega) (by omega) hz ht h0))
    · rw [if_neg h0]
      exact Ev.told rfl rfl (Ev.c2 (Ev.var rfl) (Ev.var rfl) (C_worst (by omega) (by omega) hz ht h0))
  walk_at "nrm"
  refine Xs.cons (Xe.ifN (EvT.bl (Ev.or (EvO.consF (Ev.neF (Ev.is (Ev.c1 (Ev.var rfl) (C_rising (by omega) (fun x hx => (hz x hx).mono (by decide)))) (by rw [rise_eq])) (Ev.var rfl) rfl) (EvO.one (Ev.neF (d := .bl (decide (stepE l = 0))) (Ev.is (Ev.eq (Ev.var rfl) Ev.str (told_shp l)) (by rw [told_eqb])) (Ev.is (Ev.eqI (Ev.top (Ev.var rfl)) Ev.int) (by congr 1; exact decide_eq_decide.mpr Rat.num_eq_zero)) rfl)))))) h6
end
end K14
end Eng
set_option maxHeartbeats 4000000
namespace Eng
namespace K14
open circuitstack_k14_values_told_as_bits
open PySem (Str)
local macro_rules | `(tactic| walk_at "sz") => `(tactic| (refine' Sz.mono ?hz ?hl; (case hz => repeat' (first | assumption | refine' Sz.add ?_ ?_ | refine' Sz.sub ?_ ?_ | refine' Sz.mul ?_ ?_ | refine' Sz.div ?_ ?_ | refine' Sz.neg ?_ | exact sz_0 | exact sz_1 | exact sz_h)); (case hl => decide)))
local macro_rules | `(tactic| walk_at "ev") => `(tactic| repeat' (first
  | exact Ev.int | exact Ev.var rfl | exact Ev.own rfl | exact Ev.bl | exact Ev.non | exact Ev.str | exact Ev.lamv | exact Ev.glob rfl
  | refine' Ev.add ?_ ?_ | refine' Ev.sub ?_ ?_ | refine' Ev.mul ?_ ?_ ?_ | refine' Ev.fdiv ?_ ?_ ?_ | refine' Ev.mod ?_ ?_ ?_ | refine' Ev.neg ?_
  | refine' Ev.ix ?_ ?_ ?_ | refine' Ev.lt ?_ ?_ | refine' Ev.le ?_ ?_ | refine' Ev.gt ?_ ?_ | refine' Ev.ge ?_ ?_ | refine' Ev.eq ?_ ?_ ?_ | refine' Ev.ne ?_ ?_ ?_
  | refine' Ev.not ?_ ?_ | refine' Ev.b1 ?_ ?_ | refine' Ev.b2 ?_ ?_ ?_ | refine' Ev.tup ?_ ?_ | refine' Ev.lst ?_ ?_ | exact Evs.nil | refine' Evs.cons ?_ ?_
  | refine' EvT.of ?_ ?_ | refine' Ev.and ?_ | refine' Ev.or ?_ | refine' EvA.one ?_ | refine' EvO.one ?_ | refine' EvA.cons ?_ (fun _ => ?_) | refine' EvO.cons ?_ (fun _ => ?_)
  | refine' Ev.call (runsF_succ _ _ _ _) ?_ ?_ | exact EvF.nil | refine' EvF.val ?_ ?_ | refine' EvF.own ?_ ?_
  | refine' C_plain ?_ ?_ ?_ | refine' C_added ?_ ?_ | refine' C_less ?_ ?_ | refine' C_times ?_ ?_ | refine' C_parted ?_ ?_ ?_ | refine' C_isless ?_ ?_
  | refine' C_check ?_ ?_ | refine' C_steps ?_ ?_
  | (walk_at "sz") | rfl))
local macro_rules | `(tactic| walk_at "nrm") => `(tactic| (try simp only [List.set_cons_zero, List.set_cons_succ]))
variable {x0 x1 x2 x3 x4 x5 x6 x7 x8 x9 x10 x11 x12 x13 x14 x15 x16 x17 x18 x19 x20 x21 x22 x23 x24 x25 x26 x27 x28 x29 x30 x31 x32 x33 x34 x35 : Sl}
section
variable {n : Nat} {p q t v : Rat} {m : Nat} {d : Dc}
abbrev stp (t : Rat) (m : Nat) : Rat := t * (1 / (((2 ^ m : Nat) : Int) : Rat))
theorem wpos (m : Nat) : (0 : Rat) < (((2 ^ m : Nat) : Int) : Rat) := by
  have := one_two m
  rw [Rat.intCast_pos]
  omega
theorem stp_mul (t : Rat) (m : Nat) (k : Int) : stp t m * (k : Rat) = mv t m k := by
  show t * (1 / (((2 ^ m : Nat) : Int) : Rat)) * (k : Rat) = t * ((k : Rat) / (((2 ^ m : Nat) : Int) : Rat))
  rw [Rat.div_def, Rat.div_def]
  grind
theorem stp_sz (h1 : m ≤ 7) (zt : Sz 5 t) : Sz 14 (stp t m) := by
  have hw : 2 ^ m ≤ 128 := Nat.pow_le_pow_right (n := 2) (by decide) h1
  exact Sz.mul zt (inv_sz (b := 8) (by unfold Iz; rw [Int.natAbs_natCast]; omega) (by decide))
theorem small_sz {k : Int} (k0 : 0 ≤ k) (k1 : k ≤ 255) : Sz 8 (k : Rat) := Sz.int (by unfold Iz; omega) (by decide)
theorem mv_small {k : Int} (h1 : m ≤ 7) (zt : Sz 5 t) (k0 : 0 ≤ k) (k1 : k ≤ 255) : Sz 22 (mv t m k) := stp_mul t m k ▸ Sz.mul (stp_sz h1 zt) (small_sz k0 k1)
theorem mv_lt {a b : Int} (ht : 0 < t) (h : a < b) : mv t m a < mv t m b := by
  apply Rat.mul_lt_mul_of_pos_left _ ht
  rw [Rat.lt_div_iff (wpos m), Rat.div_mul_cancel (by have := wpos m; grind)]
  exact Rat.intCast_lt_intCast.mpr h
/-- a mark, by the law's own sums -/
theorem L_mark {Γ : Env} {st : Sto} {e1 e2 : IE} {k : Int} (h1 : m ≤ 7) (zt : Sz 5 t) (k0 : 0 ≤ k) (k1 : k ≤ 255) (a1 : Ev prg (runsF prg fnsA fuel (n + 206)) Γ st e1 (sh (stp t m)) st) (a2 : Ev prg (runsF prg fnsA fuel (n + 206)) Γ st e2 (.int k) st) :
    Ev prg (runsF prg fnsA fuel (n + 206)) Γ st (.call 34 (.cons e1 (.cons (.tup (.cons e2 (.cons (.int 1) .nil))) .nil))) (sh (mv t m k)) st :=
  stp_mul t m k ▸ Ev.c2 a1 (Ev.whole a2) (L_mul (stp_sz h1 zt) (small_sz k0 k1))
theorem seg4 (h0 : 1 ≤ m) (h1 : m ≤ 7) (zv : Sz 20 v) (ht : 0 < t) (zt : Sz 5 t) : ∃ (Γ' : Env) (d' : Dc), Xs prg (runsF prg fnsA fuel (n + 206)) fuel [x0, .val (.ref 0), .val (.int (m : Int)), .val (.int ((2 ^ m : Nat) : Int)), x4, .val (sh (stp t m)), x6, x7, .val (sh v), x9, x10, x11, x12, x13, x14, x15, x16, x17, .val (sh t), x19, x20, x21, x22, x23, x24, x25, x26, x27, x28, x29, x30, x31, x32, x33, x34, x35] [d.ob] (ISs.drop 18 body) (.nx Γ' [d'.ob]) := by
  have hw : 2 ^ m ≤ 128 := Nat.pow_le_pow_right (n := 2) (by decide) h1
  have hp := one_two m
  have hL : ∀ k, k < 2 ^ m - 1 → ((List.range (2 ^ m - 1)).map fun k : Nat => mv t m ((k : Int) + 1)).getD k 0 = mv t m ((k : Int) + 1) := fun k hk => by
    rw [List.getD_eq_getElem?_getD, List.getElem?_map, List.getElem?_range hk]
    rfl
  have hz : ∀ x ∈ ((List.range (2 ^ m - 1)).map fun k : Nat => mv t m ((k : Int) + 1)), Sz 22 x := fun x hx => by
    obtain ⟨k, hk, rfl⟩ := List.mem_map.mp hx
    have hk := List.mem_range.mp hk
    exact mv_small h1 zt (by omega) (by omega)
  have hlen : ((List.range (2 ^ m - 1)).map fun k : Nat => mv t m ((k : Int) + 1)).length = 2 ^ m - 1 := by rw [List.length_map, List.length_range]
  have hr : ∀ p ∈ List.zip ((List.range (2 ^ m - 1)).map fun k : Nat => mv t m ((k : Int) + 1)) ((List.range (2 ^ m - 1)).map fun k : Nat => mv t m ((k : Int) + 1)).tail, p.1 < p.2 := fun p hp => by
    rw [zip_tail, hlen] at hp
    obtain ⟨k, hk, rfl⟩ := List.mem_map.mp hp
    have hk := List.mem_range.mp hk
    show List.getD _ k 0 < List.getD _ (k + 1) 0
    rw [hL _ (by omega), hL _ (by omega)]
    exact mv_lt ht (by omega)
  have hm : (List.range (2 ^ m - 1)).map (fun k : Nat => sh (mv t m ((k : Int) + 1))) = ((List.range (2 ^ m - 1)).map fun k : Nat => mv t m ((k : Int) + 1)).map sh := by rw [List.map_map]; rfl
  generalize ((List.range (2 ^ m - 1)).map fun k : Nat => mv t m ((k : Int) + 1)) = L at *
  obtain ⟨Γ', d', h5⟩ := seg5 (x0 := x0) (x2 := .val (.int (m : Int))) (x3 := .val (.int ((2 ^ m : Nat) : Int))) (x4 := x4) (x5 := .val (sh (stp t m))) (x6 := x6) (x7 := x7) (x8 := .val (sh v)) (x9 := x9) (x10 := x10) (x11 := x11) (x12 := x12) (x13 := .val (.lst (L.map sh))) (x14 := x14) (x15 := x15) (x16 := x16) (x17 := x17) (x19 := x19) (x20 := x20) (x21 := x21) (x22 := x22) (x23 := x23) (x24 := x24) (x25 := x25) (x26 := x26) (x27 := x27) (x28 := x28) (x29 := x29) (x30 := x30) (x31 := x31) (x32 := x32) (x33 := x33) (x34 := x34) (x35 := x35) (n := n) (d := d) ht zt
  refine ⟨Γ', d', ?_⟩
  refine Xs.cons (Xe.asg (d := .lst (L.map sh)) (st1 := [d.ob]) ?_ rfl rfl) ?_
  · rw [← hm]
    refine Ev.lc (EvI.rng1 (m := 2 ^ m - 1) Ev.int (Ev.var rfl) (by omega) (by omega)) (compL_map (fun k : Nat => D.int ((k : Int) + 1)) (fun k : Nat => sh (mv t m ((k : Int) + 1))) _ fun k hk => ?_) (big_rng (by omega))
    have hk := List.mem_range.mp hk
    exact ⟨_, rfl, rfl, (L_mark h1 zt (by omega) (by omega) (Ev.var rfl) (Ev.var rfl)).h⟩
  walk_at "nrm"
  refine Xs.cons (Xe.ifN (EvT.bl (Ev.or (EvO.consF (Ev.neF (d := .lst (L.map sh)) (Ev.b1 (Ev.c2 (Ev.var rfl) (Ev.var rfl) (C_marks h0 (by omega) (zt.mono (by decide)))) (show some (D.lst _) = _ by rw [hm])) (Ev.var rfl) shp_shs) (EvO.one (Ev.neF (Ev.c2 (Ev.var rfl) (Ev.var rfl) (C_flash (by omega) (fun x hx => (hz x hx).mono (by decide)) (zv.mono (by decide)) hr)) (Ev.lenM (f := sh) (Ev.lc (EvI.seqL (Ev.var rfl)) (compL_filter sh sh (fun x => !decide (v < x)) L fun x hx => ⟨_, rfl, ifs_one (EvT.bl (Ev.notB (Ev.c2 (Ev.var rfl) (Ev.var rfl) (L_less zv (hz x hx))))), fun _ => (Ev.var rfl).h⟩) (big_map (by omega)))) rfl)))))) h5
end
end K14
end Eng
set_option maxHeartbeats 4000000
namespace Eng
namespace K14
open circuitstack_k14_values_told_as_bits
open PySem (Str)
local macro_rules | `(tactic| walk_at "sz") => `(tactic| (refine' Sz.mono ?hz ?hl; (case hz => repeat' (first | assumption | refine' Sz.add ?_ ?_ | refine' Sz.sub ?_ ?_ | refine' Sz.mul ?_ ?_ | refine' Sz.div ?_ ?_ | refine' Sz.neg ?_ | exact sz_0 | exact sz_1 | exact sz_h)); (case hl => decide)))
local macro_rules | `(tactic| walk_at "ev") => `(tactic| repeat' (first
  | exact Ev.int | exact Ev.var rfl | exact Ev.own rfl | exact Ev.bl | exact Ev.non | exact Ev.str | exact Ev.lamv | exact Ev.glob rfl
  | refine' Ev.add ?_ ?_ | refine' Ev.sub ?_ ?_ | refine' Ev.mul ?_ ?_ ?_ | refine' Ev.fdiv ?_ ?_ ?_ | refine' Ev.mod ?_ ?_ ?_ | refine' Ev.neg ?_
  | refine' Ev.ix ?_ ?_ ?_ | refine' Ev.lt ?_ ?_ | refine' Ev.le ?_ ?_ | refine' Ev.gt ?_ ?_ | refine' Ev.ge ?_ ?_ | refine' Ev.eq ?_ ?_ ?_ | refine' Ev.ne ?_ ?_ ?_
  | refine' Ev.not ?_ ?_ | refine' Ev.b1 ?_ ?_ | refine' Ev.b2 ?_ ?_ ?_ | refine' Ev.tup ?_ ?_ | refine' Ev.lst ?_ ?_ | exact Evs.nil | refine' Evs.cons ?_ ?_
  | refine' EvT.of ?_ ?_ | refine' Ev.and ?_ | refine' Ev.or ?_ | refine' EvA.one ?_ | refine' EvO.one ?_ | refine' EvA.cons ?_ (fun _ => ?_) | refine' EvO.cons ?_ (fun _ => ?_)
  | refine' Ev.call (runsF_succ _ _ _ _) ?_ ?_ | exact EvF.nil | refine' EvF.val ?_ ?_ | refine' EvF.own ?_ ?_
  | refine' C_plain ?_ ?_ ?_ | refine' C_added ?_ ?_ | refine' C_less ?_ ?_ | refine' C_times ?_ ?_ | refine' C_parted ?_ ?_ ?_ | refine' C_isless ?_ ?_
  | refine' C_check ?_ ?_ | refine' C_steps ?_ ?_
  | (walk_at "sz") | rfl))
local macro_rules | `(tactic| walk_at "nrm") => `(tactic| (try simp only [List.set_cons_zero, List.set_cons_succ]))
variable {x0 x1 x2 x3 x4 x5 x6 x7 x8 x9 x10 x11 x12 x13 x14 x15 x16 x17 x18 x19 x20 x21 x22 x23 x24 x25 x26 x27 x28 x29 x30 x31 x32 x33 x34 x35 : Sl}
section
variable {n : Nat} {p q t v : Rat} {m : Nat} {d : Dc}
theorem sh_odd (r : Int) : D.tup [.int (2 * r + 1), .int 2] = sh (((2 * r + 1 : Int) : Rat) / ((2 : Int) : Rat)) := by
  rw [← Rat.divInt_eq_div]
  have hg : Int.gcd 2 (2 * r + 1) = 1 := by
    have h1 := Int.gcd_dvd_left (a := 2) (b := 2 * r + 1)
    have h2 := Int.gcd_dvd_right (a := 2) (b := 2 * r + 1)
    have h3 : (Int.gcd 2 (2 * r + 1)) ∣ 2 := by exact_mod_cast h1
    have h4 := Nat.le_of_dvd (by decide) h3
    have h5 : Int.gcd 2 (2 * r + 1) ≠ 2 := fun e => by
      rw [e] at h2
      obtain ⟨c, hc⟩ := h2
      have : (2 * r + 1) = 2 * c := hc
      omega
    have h6 : Int.gcd 2 (2 * r + 1) ≠ 0 := fun e => by rw [e] at h3; omega
    omega
  unfold sh
  rw [Rat.num_divInt, Rat.den_divInt, hg]
  simp
  rw [show Int.sign 2 = 1 from rfl, Int.one_mul]
theorem L_below {Γ : Env} {st : Sto} {e0 e1 e2 : IE} {k : Int} (h1 : m ≤ 7) (ht : 0 < t) (zv : Sz 20 v) (zt : Sz 5 t) (k0 : 0 ≤ k) (k1 : k ≤ 255) (a0 : Ev prg (runsF prg fnsA fuel (n + 206)) Γ st e0 (sh v) st) (a1 : Ev prg (runsF prg fnsA fuel (n + 206)) Γ st e1 (sh (stp t m)) st) (a2 : Ev prg (runsF prg fnsA fuel (n + 206)) Γ st e2 (.int k) st) :
    Ev prg (runsF prg fnsA fuel (n + 206)) Γ st (.call 35 (.cons e0 (.cons (.call 34 (.cons e1 (.cons (.tup (.cons e2 (.cons (.int 1) .nil))) .nil))) .nil))) (.bl (decide (fl v t (2 ^ m) < k))) st := by
  have e : decide (v < mv t m k) = decide (fl v t (2 ^ m) < k) := decide_eq_decide.mpr (ls_iff ht (one_two m))
  rw [← e]
  exact Ev.c2 a0 (L_mark h1 zt k0 k1 a1 a2) (L_less zv (mv_small h1 zt k0 k1))
theorem rd_q (F : Int) (w : Nat) (hw : 0 < w) : rd F w = if min (F + 1).toNat w = 0 then 0 else ((min (F + 1).toNat w : Nat) : Int) - 1 := by
  rw [rd_eq]
  split <;> omega
theorem head_find (F : Int) (w : Nat) : (((List.range w).filter fun k : Nat => decide (F < (k : Int))).map (fun k : Nat => D.int (k : Int)) ++ [D.int (w : Int)])[0]? = some (.int ((((List.range w).find? fun k : Nat => decide (F < (k : Int))).getD w : Nat) : Int)) := by
  rw [← List.head?_filter]
  cases (List.range w).filter fun k : Nat => decide (F < (k : Int)) with
  | nil => rfl
  | cons z zs => rfl
theorem seg3 (h0 : 1 ≤ m) (h1 : m ≤ 7) (ht : 0 < t) (zt : Sz 5 t) : ∃ (Γ' : Env) (d' : Dc), Xs prg (runsF prg fnsA fuel (n + 206)) fuel [x0, .val (.ref 0), .val (.int (m : Int)), .val (.int ((2 ^ m : Nat) : Int)), x4, .val (sh (stp t m)), x6, x7, x8, x9, x10, x11, x12, x13, x14, x15, x16, x17, .val (sh t), x19, x20, x21, x22, x23, x24, x25, x26, x27, x28, x29, x30, x31, x32, x33, x34, x35] [d.ob] (ISs.drop 10 body) (.nx Γ' [d'.ob]) := by
  have hw : 2 ^ m ≤ 128 := Nat.pow_le_pow_right (n := 2) (by decide) h1
  have hp := one_two m
  obtain ⟨r, er, lr⟩ := roll_nat d 60 60 rfl (by decide)
  have zr : Sz 6 ((((r : Int) - 10 : Int) : Rat) / ((40 : Int) : Rat)) := by
    rw [← Rat.divInt_eq_div]
    exact Sz.divInt (by unfold Iz; omega) (by unfold Iz; omega) (by decide)
  have zv : Sz 11 (t * ((((r : Int) - 10 : Int) : Rat) / ((40 : Int) : Rat))) := Sz.mul zt zr
  generalize hv : t * ((((r : Int) - 10 : Int) : Rat) / ((40 : Int) : Rat)) = v at *
  have zv' : Sz 20 v := zv.mono (by decide)
  generalize hF : fl v t (2 ^ m) = F
  obtain ⟨Γ2, s2, l1, rfl, h, l, y6, y24, y25, rfl, hl, hE, _, _, _⟩ := forL_rng (bind := bindP (.name 6)) (body := execs prg (runsF prg fnsA fuel (n + 206)) fuel (ISs.forBody (ISs.drop 14 body))) (fun (k : Nat) => D.int (k : Int))
    (fun k Γ s => s = [(d.go 60).ob] ∧ ∃ (h : Int) (l : List (Int × Int)) (y6 y24 y25 : Sl), Γ = [x0, .val (.ref 0), .val (.int (m : Int)), .val (.int ((2 ^ m : Nat) : Int)), x4, .val (sh (stp t m)), y6, x7, .val (sh v), .val (.lst ((List.range (min (F + 1).toNat (2 ^ m))).map fun k : Nat => D.int (k : Int))), .val (.int (rd F (2 ^ m))), x11, x12, x13, x14, x15, x16, x17, .val (sh t), x19, x20, x21, .val (.lst (l.map pr2)), .val (.int h), y24, y25, x26, x27, x28, x29, x30, x31, x32, x33, x34, x35] ∧ l ++ srch F (m - k) h = srch F m 0 ∧ srchE F (m - k) h = srchE F m 0 ∧ 0 ≤ h ∧ h + 2 ^ (m - k) ≤ ((2 ^ m : Nat) : Int) ∧ l.length = k) m
    (Γ := [x0, .val (.ref 0), .val (.int (m : Int)), .val (.int ((2 ^ m : Nat) : Int)), x4, .val (sh (stp t m)), x6, x7, .val (sh v), .val (.lst ((List.range (min (F + 1).toNat (2 ^ m))).map fun k : Nat => D.int (k : Int))), .val (.int (rd F (2 ^ m))), x11, x12, x13, x14, x15, x16, x17, .val (sh t), x19, x20, x21, .val (.lst []), .val (.int 0), x24, x25, x26, x27, x28, x29, x30, x31, x32, x33, x34, x35]) (st := [(d.go 60).ob]) ⟨rfl, 0, [], _, _, _, rfl, rfl, rfl, by decide, by rw [nat_two, Nat.sub_zero, Int.zero_add]; exact Int.le_refl _, rfl⟩ (by
      rintro k Γ s hk ⟨rfl, h, l, y6, y24, y25, rfl, hl, hE, hh, hb, hlen⟩
      obtain ⟨j, ej⟩ : ∃ j, m - k = j + 1 := ⟨m - k - 1, by omega⟩
      have ej2 : m - (k + 1) = j := by omega
      rw [ej] at hl hE hb
      rw [ej2]
      have tj := two_pos j
      rw [Int.pow_succ] at hb
      obtain ⟨b, hbb, hcase⟩ : ∃ b : Bool, (!decide (F < h + 2 ^ j)) = b ∧ ((b = true ∧ ¬ F < h + 2 ^ j) ∨ (b = false ∧ F < h + 2 ^ j)) := by
        by_cases hf : F < h + 2 ^ j
        · exact ⟨false, by rw [decide_eq_true hf]; rfl, .inr ⟨rfl, hf⟩⟩
        · exact ⟨true, by rw [decide_eq_false hf]; rfl, .inl ⟨rfl, hf⟩⟩
      refine ⟨_, _, _, rfl, .inl (Xs.cons (Xe.asg (d := .int (h + 2 ^ j)) (Ev.is (Ev.add (Ev.var rfl) (Ev.c1 (Ev.sub (Ev.sub (Ev.var rfl) Ev.int) (Ev.var rfl)) (L_two' (m := j) (by omega) (by omega)))) (by rw [nat_two])) rfl rfl)
        (Xs.cons (Xe.asg (d := .bl b) (Ev.is (Ev.notB (L_below h1 ht zv' zt (k := h + 2 ^ j) (by omega) (by omega) (Ev.var rfl) (Ev.var rfl) (Ev.var rfl))) (by rw [hF, hbb])) rfl rfl)
        (Xs.cons (Xe.par (EvF.val (Ev.cat (Ev.var rfl) (Ev.lst (Evs.cons (Ev.pair (Ev.var rfl) (Ev.b1 (Ev.var rfl) rfl)) Evs.nil) rfl) (by rw [big_map (by omega)]; rfl)) (EvF.val (Ev.iteI (EvT.bl (Ev.var rfl)) (fun _ => Ev.var rfl) (fun _ => Ev.var rfl)) EvF.nil)) rfl) Xs.nil))).h, rfl, (if b = true then h + 2 ^ j else h), l ++ [(h + 2 ^ j, if b = true then 1 else 0)], .val (.int (k : Int)), .val (.int (h + 2 ^ j)), .val (.bl b), ?_, ?_, ?_, ?_, ?_, by rw [List.length_append, List.length_singleton, hlen]⟩
      · rw [List.map_append]
        rfl
      · rcases hcase with ⟨rfl, hf⟩ | ⟨rfl, hf⟩
        · rw [List.append_assoc, ← hl]
          conv => rhs; unfold srch
          rw [if_neg hf]
          rfl
        · rw [List.append_assoc, ← hl]
          conv => rhs; unfold srch
          rw [if_pos hf]
          rfl
      · rcases hcase with ⟨rfl, hf⟩ | ⟨rfl, hf⟩
        · rw [← hE]
          conv => rhs; unfold srchE
          rw [if_neg hf]
          rfl
        · rw [← hE]
          conv => rhs; unfold srchE
          rw [if_pos hf]
          rfl
      · split <;> omega
      · split <;> omega)
  rw [Nat.sub_self] at hl hE
  replace hl : l ++ [] = srch F m 0 := hl
  rw [List.append_nil] at hl
  replace hE : h = srchE F m 0 := hE
  rw [srch_read] at hE
  subst hE
  subst hl
  have hr := rd_eq F (2 ^ m)
  have zm : Sz 9 (((2 * rd F (2 ^ m) + 1 : Int) : Rat) / ((2 : Int) : Rat)) := by
    rw [← Rat.divInt_eq_div]
    exact Sz.divInt (by unfold Iz; omega) (by unfold Iz; omega) (by decide)
  have em : t * (((2 * rd F (2 ^ m) + 1 : Int) : Rat) / ((2 * ((2 ^ m : Nat) : Int) : Int) : Rat)) = stp t m * (((2 * rd F (2 ^ m) + 1 : Int) : Rat) / ((2 : Int) : Rat)) := by
    show _ = t * (1 / (((2 ^ m : Nat) : Int) : Rat)) * _
    rw [Rat.intCast_mul, Rat.div_def, Rat.div_def, Rat.div_def, Rat.inv_mul_rev]
    grind
  obtain ⟨Γ', d', h4⟩ := seg4 (x0 := x0) (x4 := x4) (x6 := y6) (x7 := x7) (x9 := .val (.lst ((List.range (min (F + 1).toNat (2 ^ m))).map fun k : Nat => D.int (k : Int)))) (x10 := .val (.int (rd F (2 ^ m)))) (x11 := .val (.lst (((List.range (2 ^ m)).filter fun k : Nat => decide (F < (k : Int))).map fun k : Nat => D.int (k : Int)))) (x12 := .val (sh (stp t m * (((2 * rd F (2 ^ m) + 1 : Int) : Rat) / ((2 : Int) : Rat))))) (x13 := x13) (x14 := x14) (x15 := x15) (x16 := x16) (x17 := x17) (x19 := x19) (x20 := x20) (x21 := x21) (x22 := .val (.lst ((srch F m 0).map pr2))) (x23 := .val (.int (rd F (2 ^ m)))) (x24 := y24) (x25 := y25) (x26 := x26) (x27 := x27) (x28 := x28) (x29 := x29) (x30 := x30) (x31 := x31) (x32 := x32) (x33 := x33) (x34 := x34) (x35 := x35) (n := n) (d := d.go 60) h0 h1 zv' ht zt
  refine ⟨Γ', d', ?_⟩
  refine Xs.cons (Xe.asg (d := sh v) (st1 := [(d.go 60).ob]) (Ev.is (Ev.c2 (Ev.var rfl) (Ev.c2 (Ev.sub (Ev.is (Ev.c2 (Ev.var rfl) Ev.int (L_roll (by decide) (by decide))) (congrArg D.int er)) Ev.int) Ev.int (L_share (by decide) (by unfold Iz; decide))) (L_mul zt zr)) (by rw [hv])) rfl rfl) ?_
  walk_at "nrm"
  refine Xs.cons (Xe.asg (d := .lst ((List.range (min (F + 1).toNat (2 ^ m))).map fun k : Nat => D.int (k : Int))) (st1 := [(d.go 60).ob]) ?_ rfl rfl) ?_
  · rw [← fits_eq]
    refine Ev.lc (EvI.rng (Ev.var rfl) (by omega)) (compL_filter (fun k : Nat => D.int (k : Int)) (fun k : Nat => D.int (k : Int)) (fun k : Nat => !decide (F < (k : Int))) _ fun k hk => ?_) (big_rng (by omega))
    have hk := List.mem_range.mp hk
    exact ⟨_, rfl, ifs_one (EvT.bl (Ev.is (Ev.notB (L_below h1 ht zv' zt (k := (k : Int)) (by omega) (by omega) (Ev.var rfl) (Ev.var rfl) (Ev.var rfl))) (by rw [hF]))), fun _ => (Ev.var rfl).h⟩
  walk_at "nrm"
  refine Xs.cons (Xe.asg (d := .int (rd F (2 ^ m))) (st1 := [(d.go 60).ob]) ?_ rfl rfl) ?_
  · rw [rd_q F (2 ^ m) hp]
    have hq : min (F + 1).toNat (2 ^ m) ≤ 2 ^ m := Nat.min_le_right _ _
    generalize min (F + 1).toNat (2 ^ m) = q at hq ⊢
    by_cases hq0 : q = 0
    · subst hq0
      exact Ev.iteF (EvT.is (EvT.bl (Ev.neNil (f := fun k : Nat => D.int (k : Int)) (Ev.var rfl) (fun _ _ => rfl))) rfl) Ev.int
    · rw [if_neg hq0]
      refine Ev.iteT (EvT.is (EvT.bl (Ev.neNil (f := fun k : Nat => D.int (k : Int)) (Ev.var rfl) (fun _ _ => rfl))) ?_) (Ev.ix (Ev.var rfl) (Ev.neg Ev.int) (ixV_last ?_))
      · cases q with
        | zero => exact absurd rfl hq0
        | succ q => rw [List.range_succ_eq_map]; rfl
      · rw [List.getLast?_eq_getElem?, List.length_map, List.length_range, List.getElem?_map, List.getElem?_range (by omega)]
        show some (D.int ((q - 1 : Nat) : Int)) = some (D.int ((q : Int) - 1))
        congr 2
        omega
  walk_at "nrm"
  refine Xs.cons (Xe.par (EvF.val (Ev.lst Evs.nil rfl) (EvF.val Ev.int EvF.nil)) rfl) ?_
  walk_at "nrm"
  refine Xs.cons (Xe.forr (EvI.rng (Ev.var rfl) (by omega)) l1) ?_
  refine Xs.cons (Xe.asg (d := .lst (((List.range (2 ^ m)).filter fun k : Nat => decide (F < (k : Int))).map fun k : Nat => D.int (k : Int))) (st1 := [(d.go 60).ob]) ?_ rfl rfl) ?_
  · refine Ev.lc (EvI.rng (Ev.var rfl) (by omega)) (compL_filter (fun k : Nat => D.int (k : Int)) (fun k : Nat => D.int (k : Int)) (fun k : Nat => decide (F < (k : Int))) _ fun k hk => ?_) (big_rng (by omega))
    have hk := List.mem_range.mp hk
    exact ⟨_, rfl, ifs_one (EvT.bl (Ev.is (L_below h1 ht zv' zt (k := (k : Int)) (by omega) (by omega) (Ev.var rfl) (Ev.var rfl) (Ev.var rfl)) (by rw [hF]))), fun _ => (Ev.var rfl).h⟩
  walk_at "nrm"
  refine Xs.cons (Xe.asg (Ev.c2 (Ev.var rfl) (Ev.is (Ev.pair (Ev.add (Ev.mul Ev.int (Ev.var rfl) mulOk_l) Ev.int) Ev.int) (sh_odd _)) (L_mul (stp_sz h1 zt) zm)) rfl rfl) ?_
  walk_at "nrm"
  have hsz : (((List.range (2 ^ m)).filter fun k : Nat => decide (F < (k : Int))).map fun k : Nat => D.int (k : Int)).length ≤ 1000 := by
    rw [List.length_map]
    have := List.length_filter_le (fun k : Nat => decide (F < (k : Int))) (List.range (2 ^ m))
    rw [List.length_range] at this
    omega
  subst hF
  refine Xs.cons (Xe.ifN (EvT.bl (Ev.or (EvO.consF (Ev.neF (Ev.c3 (Ev.var rfl) (Ev.var rfl) (Ev.var rfl) (C_read h0 (by omega) ht (zv.mono (by decide)) (zt.mono (by decide)))) (Ev.var rfl) rfl)
    (EvO.consF (Ev.neF (Ev.b1 (Ev.c3 (Ev.var rfl) (Ev.var rfl) (Ev.var rfl) (C_search h0 (by omega) ht (zv.mono (by decide)) (zt.mono (by decide)))) rfl) (Ev.var rfl) (shp_map fun _ _ => rfl))
    (EvO.consF (Ev.neF (Ev.var rfl) (Ev.var rfl) rfl)
    (EvO.consF (Ev.neF (Ev.c3 (Ev.var rfl) (Ev.var rfl) (Ev.var rfl) (C_count h0 (by omega) ht (zv.mono (by decide)) (zt.mono (by decide)))) (Ev.ixL (Ev.cat (Ev.var rfl) (Ev.lst (Evs.cons (Ev.var rfl) Evs.nil) rfl) (by rw [big_len hsz]; rfl)) Ev.int (k := 0) rfl (head_find _ _)) rfl)
    (EvO.one (Ev.neF (Ev.is (Ev.c3 (Ev.var rfl) (Ev.var rfl) (Ev.var rfl) (C_off h0 (by omega) ht (zv.mono (by decide)) (zt.mono (by decide)))) (by rw [em])) (Ev.c2 (Ev.var rfl) (Ev.var rfl) (L_minus zv (Sz.mul (stp_sz h1 zt) zm))) rfl))))))))) h4
end
end K14
end Eng
set_option maxHeartbeats 4000000
namespace Eng
namespace K14
open circuitstack_k14_values_told_as_bits
open PySem (Str)
local macro_rules | `(tactic| walk_at "sz") => `(tactic| (refine' Sz.mono ?hz ?hl; (case hz => repeat' (first | assumption | refine' Sz.add ?_ ?_ | refine' Sz.sub ?_ ?_ | refine' Sz.mul ?_ ?_ | refine' Sz.div ?_ ?_ | refine' Sz.neg ?_ | exact sz_0 | exact sz_1 | exact sz_h)); (case hl => decide)))
local macro_rules | `(tactic| walk_at "ev") => `(tactic| repeat' (first
  | exact Ev.int | exact Ev.var rfl | exact Ev.own rfl | exact Ev.bl | exact Ev.non | exact Ev.str | exact Ev.lamv | exact Ev.glob rfl
  | refine' Ev.add ?_ ?_ | refine' Ev.sub ?_ ?_ | refine' Ev.mul ?_ ?_ ?_ | refine' Ev.fdiv ?_ ?_ ?_ | refine' Ev.mod ?_ ?_ ?_ | refine' Ev.neg ?_
  | refine' Ev.ix ?_ ?_ ?_ | refine' Ev.lt ?_ ?_ | refine' Ev.le ?_ ?_ | refine' Ev.gt ?_ ?_ | refine' Ev.ge ?_ ?_ | refine' Ev.eq ?_ ?_ ?_ | refine' Ev.ne ?_ ?_ ?_
  | refine' Ev.not ?_ ?_ | refine' Ev.b1 ?_ ?_ | refine' Ev.b2 ?_ ?_ ?_ | refine' Ev.tup ?_ ?_ | refine' Ev.lst ?_ ?_ | exact Evs.nil | refine' Evs.cons ?_ ?_
  | refine' EvT.of ?_ ?_ | refine' Ev.and ?_ | refine' Ev.or ?_ | refine' EvA.one ?_ | refine' EvO.one ?_ | refine' EvA.cons ?_ (fun _ => ?_) | refine' EvO.cons ?_ (fun _ => ?_)
  | refine' Ev.call (runsF_succ _ _ _ _) ?_ ?_ | exact EvF.nil | refine' EvF.val ?_ ?_ | refine' EvF.own ?_ ?_
  | refine' C_plain ?_ ?_ ?_ | refine' C_added ?_ ?_ | refine' C_less ?_ ?_ | refine' C_times ?_ ?_ | refine' C_parted ?_ ?_ ?_ | refine' C_isless ?_ ?_
  | refine' C_check ?_ ?_ | refine' C_steps ?_ ?_
  | (walk_at "sz") | rfl))
local macro_rules | `(tactic| walk_at "nrm") => `(tactic| (try simp only [List.set_cons_zero, List.set_cons_succ]))
variable {x0 x1 x2 x3 x4 x5 x6 x7 x8 x9 x10 x11 x12 x13 x14 x15 x16 x17 x18 x19 x20 x21 x22 x23 x24 x25 x26 x27 x28 x29 x30 x31 x32 x33 x34 x35 : Sl}
section
variable {n : Nat} {p q t : Rat} {v : Int} {m : Nat} {d : Dc}
theorem flip_sh {q : Rat} (h : 0 < q) : D.tup [.int (q.den : Int), .int q.num] = sh (1 / q) := by
  rw [Rat.div_def, Rat.one_mul, inv_sh (by grind), if_pos (num_pos.mpr h)]
theorem inv_pos {q : Rat} (h : 0 < q) : 0 < 1 / q := by
  rw [Rat.lt_div_iff h, Rat.zero_mul]
  decide +kernel
theorem wF_pos : ∀ (l : List (Int × Rat)) (s : Rat × Rat), (∀ x ∈ l, 0 < x.2) → 0 ≤ s.2 → (0 < s.2 ∨ l ≠ []) → 0 < (l.foldl wF s).2
  | [], s, _, _, h => by
    rcases h with h | h
    · exact h
    · exact absurd rfl h
  | x :: l, s, h, h0, _ => by
    have hx := inv_pos (h x (by simp))
    refine wF_pos l (wF s x) (fun y hy => h y (by simp [hy])) ?_ (.inl ?_)
    · show 0 ≤ s.2 + 1 / x.2; grind
    · show 0 < s.2 + 1 / x.2; grind
abbrev evenL (m : Nat) : List Rat := (List.range m).map fun k => (((2 ^ k : Nat) : Int) : Rat)
theorem even_fold (m : Nat) (v : Int) : ∀ k, k ≤ m → (((List.zip (bitsL m v) (evenL m)).take k).foldl wF (0, 0)).1 * 2 ^ k = 2 * ((v / 2 ^ (m - k) : Int) : Rat) - 2 * ((v / 2 ^ m : Int) : Rat) * 2 ^ k ∧ (((List.zip (bitsL m v) (evenL m)).take k).foldl wF (0, 0)).2 * 2 ^ k = 2 * (2 ^ k - 1)
  | 0, _ => by
    rw [List.take_zero]
    show (0 : Rat) * 2 ^ 0 = _ ∧ (0 : Rat) * 2 ^ 0 = _
    rw [Nat.sub_zero]
    constructor <;> grind
  | k + 1, h => by
    obtain ⟨h1, h2⟩ := even_fold m v k (by omega)
    have hb : (bitsL m v)[k]? = some (v / 2 ^ (m - 1 - k) % 2) := by rw [bitsL_get, List.getElem?_map, List.getElem?_range (by omega)]; rfl
    have he : (evenL m)[k]? = some (((2 ^ k : Nat) : Int) : Rat) := by rw [List.getElem?_map, List.getElem?_range (by omega)]; rfl
    have hz : (List.zip (bitsL m v) (evenL m))[k]? = some (v / 2 ^ (m - 1 - k) % 2, (((2 ^ k : Nat) : Int) : Rat)) := by
      rw [List.getElem?_zip_eq_some]
      exact ⟨hb, he⟩
    rw [wF_take hz]
    generalize ((List.zip (bitsL m v) (evenL m)).take k).foldl wF (0, 0) = s at *
    have e1 : m - (k + 1) = m - 1 - k := by omega
    have e2 : v / 2 ^ (m - k) = v / 2 ^ (m - 1 - k) / 2 := by rw [half_pow]; congr 2; omega
    rw [e1]
    rw [e2] at h1
    have hT := Int.mul_ediv_add_emod (v / 2 ^ (m - 1 - k)) 2
    have hc := Int.emod_two_eq (v / 2 ^ (m - 1 - k))
    have n2 := rat_two_ne k
    have z := Rat.mul_inv_cancel _ n2
    generalize v / 2 ^ (m - 1 - k) = T at *
    generalize v / 2 ^ m = V at *
    have hTr : ((T : Int) : Rat) = 2 * ((T / 2 : Int) : Rat) + ((T % 2 : Int) : Rat) := by
      conv => lhs; rw [← hT]
      rw [Rat.intCast_add, Rat.intCast_mul]; rfl
    have pe : (2 : Rat) ^ (k + 1) = 2 * 2 ^ k := by rw [Rat.pow_succ]; grind
    have ew : (((2 ^ k : Nat) : Int) : Rat) = 2 ^ k := nat_two_rat k
    have goal1 : (wF s (T % 2, (((2 ^ k : Nat) : Int) : Rat))).1 = s.1 + ((T % 2 : Int) : Rat) * (2 ^ k)⁻¹ := by
      show (if T % 2 = 1 then s.1 + 1 / (((2 ^ k : Nat) : Int) : Rat) else s.1) = _
      rw [ew]
      rcases hc with hc | hc
      · rw [hc, if_neg (by decide)]
        have : ((0 : Int) : Rat) = 0 := rfl
        rw [this]; grind
      · rw [hc, if_pos rfl]
        have : ((1 : Int) : Rat) = 1 := rfl
        rw [this, Rat.div_def]
    have goal2 : (wF s (T % 2, (((2 ^ k : Nat) : Int) : Rat))).2 = s.2 + (2 ^ k)⁻¹ := by
      show s.2 + 1 / (((2 ^ k : Nat) : Int) : Rat) = _
      rw [ew, Rat.div_def, Rat.one_mul]
    rw [goal1, goal2, pe, hTr]
    generalize (2 : Rat) ^ k = Z at *
    generalize Z⁻¹ = Y at *
    constructor <;> grind
theorem even_sum (h0 : 1 ≤ m) (v0 : 0 ≤ v) (v1 : v < 2 ^ m) : ((List.zip (bitsL m v) (evenL m)).foldl wF (0, 0)).1 / ((List.zip (bitsL m v) (evenL m)).foldl wF (0, 0)).2 = (v : Rat) / ((((2 ^ m : Nat) : Int) - 1 : Int) : Rat) ∧ ((List.zip (bitsL m v) (evenL m)).foldl wF (0, 0)).2 ≠ 0 := by
  have h := even_fold m v m (Nat.le_refl _)
  have hl : (List.zip (bitsL m v) (evenL m)).length = m := by rw [List.length_zip, bitsL_len, List.length_map, List.length_range]; omega
  rw [List.take_of_length_le (by omega), Nat.sub_self, Int.ediv_eq_zero_of_lt v0 v1, Int.pow_zero, Int.ediv_one] at h
  generalize (List.zip (bitsL m v) (evenL m)).foldl wF (0, 0) = s at *
  obtain ⟨h1, h2⟩ := h
  have e0 : ((0 : Int) : Rat) = 0 := rfl
  rw [e0] at h1
  have hw : ((((2 ^ m : Nat) : Int) - 1 : Int) : Rat) = 2 ^ m - 1 := by rw [Rat.intCast_sub, nat_two_rat]; rfl
  have hp : (0 : Rat) < ((((2 ^ m : Nat) : Int) - 1 : Int) : Rat) := by
    rw [Rat.intCast_pos]
    have : 2 ^ 1 ≤ 2 ^ m := Nat.pow_le_pow_right (by decide) h0
    omega
  rw [hw] at hp ⊢
  have n2 := rat_two_ne m
  have z := Rat.mul_inv_cancel _ n2
  have hs : s.2 ≠ 0 := by
    intro e
    rw [e, Rat.zero_mul] at h2
    grind
  refine ⟨?_, hs⟩
  have z1 := Rat.mul_inv_cancel _ hs
  have z2 := Rat.mul_inv_cancel (2 ^ m - 1 : Rat) (by grind)
  rw [Rat.div_def, Rat.div_def]
  generalize (2 : Rat) ^ m = Z at *
  generalize s.2⁻¹ = A at *
  generalize (Z - 1)⁻¹ = B at *
  grind
end
end K14
end Eng
set_option maxHeartbeats 4000000
namespace Eng
namespace K14
open circuitstack_k14_values_told_as_bits
open PySem (Str)
local macro_rules | `(tactic| walk_at "sz") => `(tactic| (refine' Sz.mono ?hz ?hl; (case hz => repeat' (first | assumption | refine' Sz.add ?_ ?_ | refine' Sz.sub ?_ ?_ | refine' Sz.mul ?_ ?_ | refine' Sz.div ?_ ?_ | refine' Sz.neg ?_ | exact sz_0 | exact sz_1 | exact sz_h)); (case hl => decide)))
local macro_rules | `(tactic| walk_at "ev") => `(tactic| repeat' (first
  | exact Ev.int | exact Ev.var rfl | exact Ev.own rfl | exact Ev.bl | exact Ev.non | exact Ev.str | exact Ev.lamv | exact Ev.glob rfl
  | refine' Ev.add ?_ ?_ | refine' Ev.sub ?_ ?_ | refine' Ev.mul ?_ ?_ ?_ | refine' Ev.fdiv ?_ ?_ ?_ | refine' Ev.mod ?_ ?_ ?_ | refine' Ev.neg ?_
  | refine' Ev.ix ?_ ?_ ?_ | refine' Ev.lt ?_ ?_ | refine' Ev.le ?_ ?_ | refine' Ev.gt ?_ ?_ | refine' Ev.ge ?_ ?_ | refine' Ev.eq ?_ ?_ ?_ | refine' Ev.ne ?_ ?_ ?_
  | refine' Ev.not ?_ ?_ | refine' Ev.b1 ?_ ?_ | refine' Ev.b2 ?_ ?_ ?_ | refine' Ev.tup ?_ ?_ | refine' Ev.lst ?_ ?_ | exact Evs.nil | refine' Evs.cons ?_ ?_
  | refine' EvT.of ?_ ?_ | refine' Ev.and ?_ | refine' Ev.or ?_ | refine' EvA.one ?_ | refine' EvO.one ?_ | refine' EvA.cons ?_ (fun _ => ?_) | refine' EvO.cons ?_ (fun _ => ?_)
  | refine' Ev.call (runsF_succ _ _ _ _) ?_ ?_ | exact EvF.nil | refine' EvF.val ?_ ?_ | refine' EvF.own ?_ ?_
  | refine' C_plain ?_ ?_ ?_ | refine' C_added ?_ ?_ | refine' C_less ?_ ?_ | refine' C_times ?_ ?_ | refine' C_parted ?_ ?_ ?_ | refine' C_isless ?_ ?_
  | refine' C_check ?_ ?_ | refine' C_steps ?_ ?_
  | (walk_at "sz") | rfl))
local macro_rules | `(tactic| walk_at "nrm") => `(tactic| (try simp only [List.set_cons_zero, List.set_cons_succ]))
variable {x0 x1 x2 x3 x4 x5 x6 x7 x8 x9 x10 x11 x12 x13 x14 x15 x16 x17 x18 x19 x20 x21 x22 x23 x24 x25 x26 x27 x28 x29 x30 x31 x32 x33 x34 x35 : Sl}
section
variable {n : Nat} {p q t : Rat} {v : Int} {m : Nat} {d : Dc}
theorem bits_len (m : Nat) (v : Int) : 1 ≤ m → m ≤ 7 → 1 ≤ (bitsL m v).length ∧ (bitsL m v).length ≤ 16 := fun h0 h1 => by rw [bitsL_len]; omega
theorem div_one' (q : Rat) : q / ((1 : Int) : Rat) = q := by
  have : ((1 : Int) : Rat) = 1 := rfl
  rw [this, Rat.div_def]
  grind
theorem seg2 (h0 : 1 ≤ m) (h1 : m ≤ 7) (v0 : 0 ≤ v) (v1 : v < 2 ^ m) (ht : 0 < t) (zt : Sz 5 t) : ∃ (Γ' : Env) (d' : Dc), Xs prg (runsF prg fnsA fuel (n + 206)) fuel [x0, .val (.ref 0), .val (.int (m : Int)), .val (.int ((2 ^ m : Nat) : Int)), .val (.lst ((bitsL m v).map D.int)), .val (sh (stp t m)), x6, x7, x8, x9, x10, x11, x12, x13, x14, x15, x16, .val (.int v), .val (sh t), x19, x20, x21, x22, x23, x24, x25, x26, x27, x28, x29, x30, x31, x32, x33, x34, x35] [d.ob] (ISs.drop 6 body) (.nx Γ' [d'.ob]) := by
  have hw : 2 ^ m ≤ 128 := Nat.pow_le_pow_right (n := 2) (by decide) h1
  have hw1 : 2 ^ 1 ≤ 2 ^ m := Nat.pow_le_pow_right (n := 2) (by decide) h0
  have hp := one_two m
  have hbl := bitsL_len m v
  have h01 := bitsL_01 m v
  have hval := even_sum h0 v0 v1
  obtain ⟨ps, d2, hc, hlen, hps⟩ := compL_st (bind := bindP (.name 31)) (cond := evIfs prg (runsF prg fnsA fuel (n + 206)) .nil) (f := ev prg (runsF prg fnsA fuel (n + 206)) (.call 36 (.cons (.var 1) .nil))) (Γ := wipeE [x0, .val (.ref 0), .val (.int (m : Int)), .val (.int ((2 ^ m : Nat) : Int)), .val (.lst ((bitsL m v).map D.int)), .val (sh (stp t m)), x6, x7, x8, x9, x10, x11, x12, x13, x14, x15, x16, .val (.int v), .val (sh t), x19, x20, x21, x22, x23, x24, x25, x26, x27, x28, x29, x30, x31, x32, x33, x34, x35] [31]) D.int (fun d : Dc => [d.ob]) sh (fun q => 0 < q ∧ Sz 5 q) (bitsL m v) d
    (fun x _ dd => ⟨_, oneV dd, (dd.go 20).go 3, rfl, rfl, (Ev.c1 (Ev.var rfl) L_one).h, oneV_pos dd⟩)
  generalize hbits : bitsL m v = bs at *
  have pb : ∀ x ∈ List.zip bs ps, 0 < x.2 ∧ Sz 5 x.2 := fun x hx => hps x.2 (List.of_mem_zip hx).2
  have zl : (List.zip bs ps).length = m := by rw [List.length_zip]; omega
  have zw : ∀ k, Sz 50 (((List.zip bs ps).take k).foldl wF (0, 0)).1 ∧ Sz 50 (((List.zip bs ps).take k).foldl wF (0, 0)).2 := fun k => by
    have h := wF_sz (c := 5) (by decide) ((List.zip bs ps).take k) (0, 0) 1 (fun x hx => (pb x (List.mem_of_mem_take hx)).2) sz_0 sz_0
    have hl : ((List.zip bs ps).take k).length ≤ 7 := by rw [List.length_take]; omega
    exact ⟨h.1.mono (by omega), h.2.mono (by omega)⟩
  obtain ⟨Γ2, s2, l1, rfl, y6, rfl⟩ := forL_rng (bind := bindP (.name 6)) (body := execs prg (runsF prg fnsA fuel (n + 206)) fuel (ISs.forBody (ISs.drop 7 body))) (fun (k : Nat) => D.int (k : Int))
    (fun k Γ s => s = [d2.ob] ∧ ∃ (y6 : Sl), Γ = [x0, .val (.ref 0), .val (.int (m : Int)), .val (.int ((2 ^ m : Nat) : Int)), .val (.lst (bs.map D.int)), .val (sh (stp t m)), y6, x7, x8, x9, x10, x11, x12, x13, x14, x15, x16, .val (.int v), .val (sh t), .val (.lst (ps.map sh)), .val (sh (((List.zip bs ps).take k).foldl wF (0, 0)).1), .val (sh (((List.zip bs ps).take k).foldl wF (0, 0)).2), x22, x23, x24, x25, x26, x27, x28, x29, x30, x31, x32, x33, x34, x35]) m
    (Γ := [x0, .val (.ref 0), .val (.int (m : Int)), .val (.int ((2 ^ m : Nat) : Int)), .val (.lst (bs.map D.int)), .val (sh (stp t m)), x6, x7, x8, x9, x10, x11, x12, x13, x14, x15, x16, .val (.int v), .val (sh t), .val (.lst (ps.map sh)), .val (sh 0), .val (sh 0), x22, x23, x24, x25, x26, x27, x28, x29, x30, x31, x32, x33, x34, x35]) (st := [d2.ob]) ⟨rfl, _, rfl⟩ (by
      rintro k Γ s hk ⟨rfl, y6, rfl⟩
      have hkb : k < bs.length := by omega
      have hkp : k < ps.length := by omega
      have gb : bs[k]? = some bs[k] := List.getElem?_eq_getElem hkb
      have gp : ps[k]? = some ps[k] := List.getElem?_eq_getElem hkp
      have gz : (List.zip bs ps)[k]? = some (bs[k], ps[k]) := by
        rw [List.getElem?_zip_eq_some]
        exact ⟨gb, gp⟩
      have hq := hps ps[k] (List.getElem_mem hkp)
      generalize bs[k] = b at *
      generalize ps[k] = q at *
      have gbD : (bs.map D.int)[k]? = some (.int b) := by rw [List.getElem?_map, gb]; rfl
      have gpD : (ps.map sh)[k]? = some (sh q) := by rw [List.getElem?_map, gp]; rfl
      have zi : Sz 6 (1 / q) := Sz.mono (Sz.div sz_1 hq.2) (by decide)
      refine ⟨_, _, _, rfl, .inl (Xs.cons (Xe.asg (Ev.c2 (Ev.var rfl) (Ev.is (Ev.pair (Ev.bot (Ev.ixL (Ev.var rfl) (Ev.var rfl) rfl gpD)) (Ev.top (Ev.ixL (Ev.var rfl) (Ev.var rfl) rfl gpD))) (flip_sh hq.1)) (L_add (zw k).2 zi)) rfl rfl)
        (Xs.cons (Xe.asg (Ev.iteP (f := sh) (p := b = 1) (EvT.bl (Ev.eqI (Ev.ixL (Ev.var rfl) (Ev.var rfl) rfl gbD) Ev.int)) (fun _ => Ev.c2 (Ev.var rfl) (Ev.is (Ev.pair (Ev.bot (Ev.ixL (Ev.var rfl) (Ev.var rfl) rfl gpD)) (Ev.top (Ev.ixL (Ev.var rfl) (Ev.var rfl) rfl gpD))) (flip_sh hq.1)) (L_add (zw k).1 zi)) (fun _ => Ev.var rfl)) rfl rfl) Xs.nil)).h, rfl, .val (.int (k : Int)), ?_⟩
      rw [wF_take gz]
      rfl)
  have zwm := zw m
  rw [List.take_of_length_le (by omega)] at zwm l1
  have hpos : 0 < ((List.zip bs ps).foldl wF (0, 0)).2 := wF_pos _ _ (fun x hx => (pb x hx).1) (by decide +kernel) (.inr (by intro e; rw [e] at zl; simp at zl; omega))
  have hne : ((List.zip bs ps).foldl wF (0, 0)).2 ≠ 0 := by grind
  have hpe : ∀ x ∈ evenL m, 0 < x ∧ Sz 20 x := fun x hx => by
    obtain ⟨k, hk, rfl⟩ := List.mem_map.mp hx
    have hk := List.mem_range.mp hk
    exact ⟨wpos k, (w_sz (m := k) (by omega)).mono (by decide)⟩
  have hem : (List.range m).map (fun k : Nat => sh (((2 ^ k : Nat) : Int) : Rat)) = (evenL m).map sh := by rw [List.map_map]; rfl
  obtain ⟨Γ', d', h3⟩ := seg3 (x0 := x0) (x4 := .val (.lst (bs.map D.int))) (x6 := y6) (x7 := .val (.lst ((evenL m).map sh))) (x8 := x8) (x9 := x9) (x10 := x10) (x11 := x11) (x12 := x12) (x13 := x13) (x14 := x14) (x15 := x15) (x16 := x16) (x17 := .val (.int v)) (x19 := .val (.lst (ps.map sh))) (x20 := .val (sh ((List.zip bs ps).foldl wF (0, 0)).1)) (x21 := .val (sh ((List.zip bs ps).foldl wF (0, 0)).2)) (x22 := x22) (x23 := x23) (x24 := x24) (x25 := x25) (x26 := x26) (x27 := x27) (x28 := x28) (x29 := x29) (x30 := x30) (x31 := x31) (x32 := x32) (x33 := x33) (x34 := x34) (x35 := x35) (n := n) (d := d2) h0 h1 ht zt
  refine ⟨Γ', d', ?_⟩
  refine Xs.cons (Xe.par (EvF.val (Ev.lc (EvI.seqL (Ev.var rfl)) hc (big_map (by omega))) (EvF.val Ev.zero (EvF.val Ev.zero EvF.nil))) rfl) ?_
  walk_at "nrm"
  refine Xs.cons (Xe.forr (EvI.rng (Ev.var rfl) (by omega)) l1) ?_
  refine Xs.cons (Xe.asg (d := .lst ((evenL m).map sh)) (st1 := [d2.ob]) ?_ rfl rfl) ?_
  · rw [← hem]
    refine Ev.lc (EvI.rng (Ev.var rfl) (by omega)) (compL_map (fun k : Nat => D.int (k : Int)) (fun k : Nat => sh (((2 ^ k : Nat) : Int) : Rat)) _ fun k hk => ?_) (big_rng (by omega))
    have hk := List.mem_range.mp hk
    exact ⟨_, rfl, rfl, (Ev.is (Ev.c2 (Ev.c1 (Ev.var rfl) (L_two' (m := k) (by omega) rfl)) Ev.int (L_share (by decide) (by unfold Iz; decide))) (by rw [div_one'])).h⟩
  walk_at "nrm"
  have zs : Sz 8 ((v : Rat) / ((((2 ^ m : Nat) : Int) - 1 : Int) : Rat)) := by
    rw [← Rat.divInt_eq_div]
    rw [← nat_two] at v1
    exact Sz.divInt (by unfold Iz; omega) (by unfold Iz; omega) (by omega)
  refine Xs.cons (Xe.ifN (EvT.bl (Ev.or (EvO.consF (Ev.neF (Ev.c3 (Ev.var rfl) (Ev.var rfl) (Ev.var rfl) (C_weight (by omega) (by omega) h01 (fun x hx => ⟨(hps x hx).1, (hps x hx).2.mono (by decide)⟩) (by omega) hne (zt.mono (by decide)))) (Ev.c2 (Ev.var rfl) (Ev.c2 (Ev.var rfl) (Ev.var rfl) (L_by hne zwm.1 zwm.2)) (L_mul zt (Sz.div zwm.1 zwm.2))) rfl)
    (EvO.one (Ev.neF (Ev.is (Ev.c3 (Ev.var rfl) (Ev.var rfl) (Ev.var rfl) (C_weight (by omega) (by omega) h01 hpe (by rw [List.length_map, List.length_range]; omega) hval.2 (zt.mono (by decide)))) (by rw [hval.1])) (Ev.c2 (Ev.var rfl) (Ev.c2 (Ev.var rfl) (Ev.sub (Ev.var rfl) Ev.int) (L_share (by omega) (by unfold Iz; omega))) (L_mul zt zs)) rfl)))))) h3
end
end K14
end Eng
set_option maxHeartbeats 4000000
namespace Eng
namespace K14
open circuitstack_k14_values_told_as_bits
open PySem (Str)
local macro_rules | `(tactic| walk_at "sz") => `(tactic| (refine' Sz.mono ?hz ?hl; (case hz => repeat' (first | assumption | refine' Sz.add ?_ ?_ | refine' Sz.sub ?_ ?_ | refine' Sz.mul ?_ ?_ | refine' Sz.div ?_ ?_ | refine' Sz.neg ?_ | exact sz_0 | exact sz_1 | exact sz_h)); (case hl => decide)))
local macro_rules | `(tactic| walk_at "ev") => `(tactic| repeat' (first
  | exact Ev.int | exact Ev.var rfl | exact Ev.own rfl | exact Ev.bl | exact Ev.non | exact Ev.str | exact Ev.lamv | exact Ev.glob rfl
  | refine' Ev.add ?_ ?_ | refine' Ev.sub ?_ ?_ | refine' Ev.mul ?_ ?_ ?_ | refine' Ev.fdiv ?_ ?_ ?_ | refine' Ev.mod ?_ ?_ ?_ | refine' Ev.neg ?_
  | refine' Ev.ix ?_ ?_ ?_ | refine' Ev.lt ?_ ?_ | refine' Ev.le ?_ ?_ | refine' Ev.gt ?_ ?_ | refine' Ev.ge ?_ ?_ | refine' Ev.eq ?_ ?_ ?_ | refine' Ev.ne ?_ ?_ ?_
  | refine' Ev.not ?_ ?_ | refine' Ev.b1 ?_ ?_ | refine' Ev.b2 ?_ ?_ ?_ | refine' Ev.tup ?_ ?_ | refine' Ev.lst ?_ ?_ | exact Evs.nil | refine' Evs.cons ?_ ?_
  | refine' EvT.of ?_ ?_ | refine' Ev.and ?_ | refine' Ev.or ?_ | refine' EvA.one ?_ | refine' EvO.one ?_ | refine' EvA.cons ?_ (fun _ => ?_) | refine' EvO.cons ?_ (fun _ => ?_)
  | refine' Ev.call (runsF_succ _ _ _ _) ?_ ?_ | exact EvF.nil | refine' EvF.val ?_ ?_ | refine' EvF.own ?_ ?_
  | refine' C_plain ?_ ?_ ?_ | refine' C_added ?_ ?_ | refine' C_less ?_ ?_ | refine' C_times ?_ ?_ | refine' C_parted ?_ ?_ ?_ | refine' C_isless ?_ ?_
  | refine' C_check ?_ ?_ | refine' C_steps ?_ ?_
  | (walk_at "sz") | rfl))
local macro_rules | `(tactic| walk_at "nrm") => `(tactic| (try simp only [List.set_cons_zero, List.set_cons_succ]))
variable {x0 x1 x2 x3 x4 x5 x6 x7 x8 x9 x10 x11 x12 x13 x14 x15 x16 x17 x18 x19 x20 x21 x22 x23 x24 x25 x26 x27 x28 x29 x30 x31 x32 x33 x34 x35 : Sl}
section
variable {n : Nat} {p q t : Rat} {v : Int} {m : Nat} {d : Dc}
theorem two_eq {m : Nat} {v : Int} (h0 : 1 ≤ m) (v0 : 0 ≤ v) (v1 : v < 2 ^ m) : (if ((2 ^ m : Nat) : Int) / 2 ≤ v then v - ((2 ^ m : Nat) : Int) else v) = v - ((2 ^ m : Nat) : Int) * (v / 2 ^ (m - 1)) := by
  obtain ⟨k, rfl⟩ : ∃ k, m = k + 1 := ⟨m - 1, by omega⟩
  rw [nat_two, pow_half, Nat.add_sub_cancel]
  have tk := two_pos k
  rw [Int.pow_succ] at v1 ⊢
  by_cases h : (2 : Int) ^ k ≤ v
  · rw [if_pos h]
    have : v / 2 ^ k = 1 := by
      rw [Int.ediv_eq_iff_of_pos tk]
      omega
    rw [this, Int.mul_one]
  · rw [if_neg h, Int.ediv_eq_zero_of_lt v0 (by omega), Int.mul_zero, Int.sub_zero]
theorem seg1 : ∃ (Γ' : Env) (d' : Dc), Xs prg (runsF prg fnsA fuel (n + 206)) fuel [x0, .val (.ref 0), x2, x3, x4, x5, x6, x7, x8, x9, x10, x11, x12, x13, x14, x15, x16, x17, x18, x19, x20, x21, x22, x23, x24, x25, x26, x27, x28, x29, x30, x31, x32, x33, x34, x35] [d.ob] body (.nx Γ' [d'.ob]) := by
  obtain ⟨x, ex, lx⟩ := roll_nat d 7 7 rfl (by decide)
  obtain ⟨m, em⟩ : ∃ m, m = x + 1 := ⟨_, rfl⟩
  have h0 : 1 ≤ m := by omega
  have h1 : m ≤ 7 := by omega
  have hw : 2 ^ m ≤ 128 := Nat.pow_le_pow_right (n := 2) (by decide) h1
  have hp := one_two m
  obtain ⟨v, ev, lv⟩ := roll_nat (d.go 7) ((2 ^ m : Nat) : Int) (2 ^ m) rfl hp
  have v0 : (0 : Int) ≤ (v : Int) := by omega
  have v1 : (v : Int) < 2 ^ m := by rw [← nat_two]; omega
  obtain ⟨ht, zt⟩ := oneV_pos ((d.go 7).go ((2 ^ m : Nat) : Int))
  have hval : valL (bitsL m (v : Int)) = (v : Int) := bitsL_val m v v0 v1
  have hlen := bitsL_len m (v : Int)
  have hb0 : ((bitsL m (v : Int)).map D.int)[0]? = some (.int ((v : Int) / 2 ^ (m - 1))) := by
    obtain ⟨k, rfl⟩ : ∃ k, m = k + 1 := ⟨m - 1, by omega⟩
    rw [List.getElem?_map, bits_head v0 v1]
    rfl
  obtain ⟨Γ', d', h2⟩ := seg2 (x0 := x0) (x6 := x6) (x7 := x7) (x8 := x8) (x9 := x9) (x10 := x10) (x11 := x11) (x12 := x12) (x13 := x13) (x14 := x14) (x15 := x15) (x16 := x16) (x19 := x19) (x20 := x20) (x21 := x21) (x22 := x22) (x23 := x23) (x24 := x24) (x25 := x25) (x26 := x26) (x27 := x27) (x28 := x28) (x29 := x29) (x30 := x30) (x31 := x31) (x32 := x32) (x33 := x33) (x34 := x34) (x35 := x35) (n := n) (d := (((d.go 7).go ((2 ^ m : Nat) : Int)).go 20).go 3) h0 h1 v0 v1 ht zt
  refine ⟨Γ', d', ?_⟩
  refine Xs.cons (Xe.asg (d := .int (m : Int)) (Ev.is (Ev.add Ev.int (Ev.is (Ev.c2 (Ev.var rfl) Ev.int (L_roll (by decide) (by decide))) (congrArg D.int ex))) (by congr 1; omega)) rfl rfl) ?_
  walk_at "nrm"
  refine Xs.cons (Xe.asg (Ev.c1 (Ev.var rfl) (L_two' (m := m) (by omega) rfl)) rfl rfl) ?_
  walk_at "nrm"
  refine Xs.cons (Xe.par (EvF.val (Ev.is (Ev.c2 (Ev.var rfl) (Ev.var rfl) (L_roll (by omega) (by omega))) (congrArg D.int ev)) (EvF.val (Ev.c1 (Ev.var rfl) L_one) EvF.nil)) rfl) ?_
  walk_at "nrm"
  refine Xs.cons (Xe.asg (Ev.c2 (Ev.var rfl) (Ev.var rfl) (L_bits (by omega))) rfl rfl) ?_
  walk_at "nrm"
  refine Xs.cons (Xe.asg (Ev.c2 (Ev.var rfl) (Ev.inv (Ev.var rfl) (by omega)) (L_mul zt (inv_sz (b := 8) (by unfold Iz; rw [Int.natAbs_natCast]; omega) (by decide)))) rfl rfl) ?_
  walk_at "nrm"
  have mk : ∀ (s : Sto) (Γ : Env), Γ[5]? = some (.val (sh (stp (oneV ((d.go 7).go ((2 ^ m : Nat) : Int))) m))) → Γ[17]? = some (.val (.int (v : Int))) → Ev prg (runsF prg fnsA fuel (n + 206)) Γ s (.call 34 (.cons (.var 5) (.cons (.tup (.cons (.var 17) (.cons (.int 1) .nil))) .nil))) (sh (mv (oneV ((d.go 7).go ((2 ^ m : Nat) : Int))) m (v : Int))) s := fun s Γ a b =>
    L_mark h1 zt (by omega) (by omega) (Ev.var a) (Ev.var b)
  generalize oneV ((d.go 7).go ((2 ^ m : Nat) : Int)) = t at *
  refine Xs.cons (Xe.ifN (EvT.bl (Ev.or (EvO.consF (Ev.neF (Ev.b1 (Ev.c2 (Ev.var rfl) (Ev.var rfl) (C_bits h0 (by omega) v0 v1)) rfl) (Ev.var rfl) shp_ints)
    (EvO.consF (Ev.neF (Ev.is (Ev.c1 (Ev.var rfl) (C_value (by omega) (by omega) (bitsL_01 m v))) (by rw [hval])) (Ev.var rfl) rfl)
    (EvO.consF (Ev.neF (Ev.c1 (Ev.var rfl) (C_steps h0 (by omega))) (Ev.var rfl) rfl)
    (EvO.consF (Ev.neF (Ev.c3 (Ev.var rfl) (Ev.var rfl) (Ev.var rfl) (C_made' h0 (by omega) v0 v1 (zt.mono (by decide)))) (mk _ _ rfl rfl) rfl)
    (EvO.consF (Ev.neF (Ev.is (Ev.c2 (Ev.var rfl) (Ev.var rfl) (C_ladder (by omega) (by omega) (bitsL_01 m v) (zt.mono (by decide)))) (by rw [hval, hlen])) (mk _ _ rfl rfl) rfl)
    (EvO.one (Ev.neF (Ev.is (Ev.c2 (Ev.var rfl) (Ev.var rfl) (C_two h0 (by omega) v0 v1)) (by rw [two_eq h0 v0 v1])) (Ev.sub (Ev.var rfl) (Ev.mul (Ev.var rfl) (Ev.ixL (Ev.var rfl) Ev.int (k := 0) rfl hb0) (mulOk_l (by omega)))) rfl)))))))))) h2
theorem law_ok (ns : List Int) : ∃ st', callF prg fnsA fuel 230 43 [.scr (ns.map .int)] [] = .ok (.bl true) st' := by
  obtain ⟨d, hd⟩ := rounds_S (P := prg) (F := fuel) (n := 228) (ns := ns) fx30 fx28
  obtain ⟨Γ', d', hb⟩ := seg1 (x0 := .val (.scr (ns.map .int))) (x2 := .no) (x3 := .no) (x4 := .no) (x5 := .no) (x6 := .no) (x7 := .no) (x8 := .no) (x9 := .no) (x10 := .no) (x11 := .no) (x12 := .no) (x13 := .no) (x14 := .no) (x15 := .no) (x16 := .no) (x17 := .no) (x18 := .no) (x19 := .no) (x20 := .no) (x21 := .no) (x22 := .no) (x23 := .no) (x24 := .no) (x25 := .no) (x26 := .no) (x27 := .no) (x28 := .no) (x29 := .no) (x30 := .no) (x31 := .no) (x32 := .no) (x33 := .no) (x34 := .no) (x35 := .no) (n := 24) (d := d)
  have hb' : Xs prg (runsF prg fnsA fuel 230) fuel [.val (.scr (ns.map .int)), .val (.ref 0), .no, .no, .no, .no, .no, .no, .no, .no, .no, .no, .no, .no, .no, .no, .no, .no, .no, .no, .no, .no, .no, .no, .no, .no, .no, .no, .no, .no, .no, .no, .no, .no, .no, .no] [d.ob] body (.nx Γ' [d'.ob]) := hb
  clear hb
  obtain ⟨st', hp⟩ := isT_ok (plain_ok [d'.ob])
  refine ⟨st', Cl.h (c := callF prg fnsA fuel 230) ?_⟩
  have l1 : forL (bindP (.name 1)) (execs prg (runsF prg fnsA fuel 230) fuel body) [.ref 0] [.val (.scr (ns.map .int)), .no, .no, .no, .no, .no, .no, .no, .no, .no, .no, .no, .no, .no, .no, .no, .no, .no, .no, .no, .no, .no, .no, .no, .no, .no, .no, .no, .no, .no, .no, .no, .no, .no, .no, .no] [d.ob] = .nx Γ' [d'.ob] := forL_one rfl hb'.h
  refine Cl.ret (Γ := [.val (.scr (ns.map .int)), .no, .no, .no, .no, .no, .no, .no, .no, .no, .no, .no, .no, .no, .no, .no, .no, .no, .no, .no, .no, .no, .no, .no, .no, .no, .no, .no, .no, .no, .no, .no, .no, .no, .no, .no]) fx43 rfl rfl ?_
  refine Xs.cons (Xe.forr (EvI.seqL (Ev.c2 (n := 229) (Ev.var rfl) Ev.int hd)) l1) ?_
  exact Xs.leave (Xe.ret (Ev.c0 (n := 229) ⟨hp⟩)) rfl
end
end K14
end Eng
open PySem PySem.W PyProof.Rows
set_option maxHeartbeats 0 in
theorem PySem.Challenge.cw_circuitstack_k14_values_told_as_bits_holds : PySem.Challenge.rw_circuitstack_k14_values_told_as_bits.Holds := by
  w_on; o_law; k_head; (case hw => w_witness2)
  k_fill
  refine Eng.walk_tabs (l := PySem.Challenge.rw_circuitstack_k14_values_told_as_bits) (n := 63) (k := Eng.circuitstack_k14_values_told_as_bits.lev + 1) (x := "script") (CX := fun w => L2.CX PySem.Challenge.pw_circuitstack_k14_values_told_as_bits w) rfl (by decide) rfl ⟨rfl, by decide, by decide⟩ (fun w h Y => PySem.W.km_in_of Y) ?F ?hCX
  case hCX =>
    intro w H s e s' hh
    obtain ⟨_, _, _, _, _, _, _, _, _, _, _, _, z⟩ := hh
    exact z.elim
  case F =>
    intro w mg fa h Y KX G hmg own
    have tb : Eng.WithK KX fun K => ∃ f12 c12 P12 fd12 f16 c16 P16 fd16 f17 c17 P17 fd17 f21 c21 P21 fd21 f41 c41 P41 fd41 f43 c43 P43 fd43, Eng.DefT K "weighted_volts" Eng.circuitstack_k14_values_told_as_bits.s12 f12 c12 P12 fd12 ∧ Eng.DefT K "marks" Eng.circuitstack_k14_values_told_as_bits.s16 f16 c16 P16 fd16 ∧ Eng.DefT K "flash" Eng.circuitstack_k14_values_told_as_bits.s17 f17 c17 P17 fd17 ∧ Eng.DefT K "is_rising" Eng.circuitstack_k14_values_told_as_bits.s21 f21 c21 P21 fd21 ∧ Eng.DefT K "_law_plain" Eng.circuitstack_k14_values_told_as_bits.s41 f41 c41 P41 fd41 ∧ Eng.DefT K "law" Eng.circuitstack_k14_values_told_as_bits.s43 f43 c43 P43 fd43 ∧ [P12, P16, P17, P21, P41, P43].Nodup := by
      refine' ⟨_, _, _, _, _, _, _, _, _, _, _, _, _, _, _, _, _, _, _, _, _, _, _, _, Eng.DefT.mk' (Eng.DefK.mk' ?a12 ?l12 ?c12 ?k12) ?y12 ?p12 ?h12 ?n12, Eng.DefT.mk' (Eng.DefK.mk' ?a16 ?l16 ?c16 ?k16) ?y16 ?p16 ?h16 ?n16, Eng.DefT.mk' (Eng.DefK.mk' ?a17 ?l17 ?c17 ?k17) ?y17 ?p17 ?h17 ?n17, Eng.DefT.mk' (Eng.DefK.mk' ?a21 ?l21 ?c21 ?k21) ?y21 ?p21 ?h21 ?n21, Eng.DefT.mk' (Eng.DefK.mk' ?a41 ?l41 ?c41 ?k41) ?y41 ?p41 ?h41 ?n41, Eng.DefT.mk' (Eng.DefK.mk' ?a43 ?l43 ?c43 ?k43) ?y43 ?p43 ?h43 ?n43, ?nd⟩
      (case a12 => k_is); (case l12 => k_is); (case c12 => k_is); (case k12 => k_is); (case y12 => k_is)
      (case p12 => rfl); (case h12 => first | rfl | kernel_rfl); (case n12 => first | rfl | kernel_rfl)
      (case a16 => k_is); (case l16 => k_is); (case c16 => k_is); (case k16 => k_is); (case y16 => k_is)
      (case p16 => rfl); (case h16 => first | rfl | kernel_rfl); (case n16 => first | rfl | kernel_rfl)
      (case a17 => k_is); (case l17 => k_is); (case c17 => k_is); (case k17 => k_is); (case y17 => k_is)
      (case p17 => rfl); (case h17 => first | rfl | kernel_rfl); (case n17 => first | rfl | kernel_rfl)
      (case a21 => k_is); (case l21 => k_is); (case c21 => k_is); (case k21 => k_is); (case y21 => k_is)
      (case p21 => rfl); (case h21 => first | rfl | kernel_rfl); (case n21 => first | rfl | kernel_rfl)
      (case a41 => k_is); (case l41 => k_is); (case c41 => k_is); (case k41 => k_is); (case y41 => k_is)
      (case p41 => rfl); (case h41 => first | rfl | kernel_rfl); (case n41 => first | rfl | kernel_rfl)
      (case a43 => k_is); (case l43 => k_is); (case c43 => k_is); (case k43 => k_is); (case y43 => k_is)
      (case p43 => rfl); (case h43 => first | rfl | kernel_rfl); (case n43 => first | rfl | kernel_rfl)
      (case nd => decide)
    obtain ⟨f12, c12, P12, fd12, f16, c16, P16, fd16, f17, c17, P17, fd17, f21, c21, P21, fd21, f41, c41, P41, fd41, f43, c43, P43, fd43, T12, T16, T17, T21, T41, T43, nd⟩ := tb
    have D12 := T12.d
    have D16 := T16.d
    have D17 := T17.d
    have D21 := T21.d
    have D41 := T41.d
    have D43 := T43.d
    have d0 : Eng.WithK KX fun K => ∃ f c fd, Eng.DefK K "plain" Eng.circuitstack_k14_values_told_as_bits.s0 f c fd := by
      refine' ⟨_, _, _, Eng.DefK.mk' ?a ?l ?c ?k⟩
      (case a => k_is); (case l => k_is); (case c => k_is); (case k => k_is)
    obtain ⟨f0, c0, fd0, D0⟩ := d0
    have d1 : Eng.WithK KX fun K => ∃ f c fd, Eng.DefK K "added" Eng.circuitstack_k14_values_told_as_bits.s1 f c fd := by
      refine' ⟨_, _, _, Eng.DefK.mk' ?a ?l ?c ?k⟩
      (case a => k_is); (case l => k_is); (case c => k_is); (case k => k_is)
    obtain ⟨f1, c1, fd1, D1⟩ := d1
    have d2 : Eng.WithK KX fun K => ∃ f c fd, Eng.DefK K "less" Eng.circuitstack_k14_values_told_as_bits.s2 f c fd := by
      refine' ⟨_, _, _, Eng.DefK.mk' ?a ?l ?c ?k⟩
      (case a => k_is); (case l => k_is); (case c => k_is); (case k => k_is)
    obtain ⟨f2, c2, fd2, D2⟩ := d2
    have d3 : Eng.WithK KX fun K => ∃ f c fd, Eng.DefK K "times" Eng.circuitstack_k14_values_told_as_bits.s3 f c fd := by
      refine' ⟨_, _, _, Eng.DefK.mk' ?a ?l ?c ?k⟩
      (case a => k_is); (case l => k_is); (case c => k_is); (case k => k_is)
    obtain ⟨f3, c3, fd3, D3⟩ := d3
    have d4 : Eng.WithK KX fun K => ∃ f c fd, Eng.DefK K "parted" Eng.circuitstack_k14_values_told_as_bits.s4 f c fd := by
      refine' ⟨_, _, _, Eng.DefK.mk' ?a ?l ?c ?k⟩
      (case a => k_is); (case l => k_is); (case c => k_is); (case k => k_is)
    obtain ⟨f4, c4, fd4, D4⟩ := d4
    have d5 : Eng.WithK KX fun K => ∃ f c fd, Eng.DefK K "is_less" Eng.circuitstack_k14_values_told_as_bits.s5 f c fd := by
      refine' ⟨_, _, _, Eng.DefK.mk' ?a ?l ?c ?k⟩
      (case a => k_is); (case l => k_is); (case c => k_is); (case k => k_is)
    obtain ⟨f5, c5, fd5, D5⟩ := d5
    have d6 : Eng.WithK KX fun K => ∃ f c fd, Eng.DefK K "check_bits" Eng.circuitstack_k14_values_told_as_bits.s6 f c fd := by
      refine' ⟨_, _, _, Eng.DefK.mk' ?a ?l ?c ?k⟩
      (case a => k_is); (case l => k_is); (case c => k_is); (case k => k_is)
    obtain ⟨f6, c6, fd6, D6⟩ := d6
    have d7 : Eng.WithK KX fun K => ∃ f c fd, Eng.DefK K "steps_of" Eng.circuitstack_k14_values_told_as_bits.s7 f c fd := by
      refine' ⟨_, _, _, Eng.DefK.mk' ?a ?l ?c ?k⟩
      (case a => k_is); (case l => k_is); (case c => k_is); (case k => k_is)
    obtain ⟨f7, c7, fd7, D7⟩ := d7
    have d8 : Eng.WithK KX fun K => ∃ f c fd, Eng.DefK K "bits_of" Eng.circuitstack_k14_values_told_as_bits.s8 f c fd := by
      refine' ⟨_, _, _, Eng.DefK.mk' ?a ?l ?c ?k⟩
      (case a => k_is); (case l => k_is); (case c => k_is); (case k => k_is)
    obtain ⟨f8, c8, fd8, D8⟩ := d8
    have d9 : Eng.WithK KX fun K => ∃ f c fd, Eng.DefK K "value_of_bits" Eng.circuitstack_k14_values_told_as_bits.s9 f c fd := by
      refine' ⟨_, _, _, Eng.DefK.mk' ?a ?l ?c ?k⟩
      (case a => k_is); (case l => k_is); (case c => k_is); (case k => k_is)
    obtain ⟨f9, c9, fd9, D9⟩ := d9
    have d10 : Eng.WithK KX fun K => ∃ f c fd, Eng.DefK K "made_volts" Eng.circuitstack_k14_values_told_as_bits.s10 f c fd := by
      refine' ⟨_, _, _, Eng.DefK.mk' ?a ?l ?c ?k⟩
      (case a => k_is); (case l => k_is); (case c => k_is); (case k => k_is)
    obtain ⟨f10, c10, fd10, D10⟩ := d10
    have d11 : Eng.WithK KX fun K => ∃ f c fd, Eng.DefK K "ladder_volts" Eng.circuitstack_k14_values_told_as_bits.s11 f c fd := by
      refine' ⟨_, _, _, Eng.DefK.mk' ?a ?l ?c ?k⟩
      (case a => k_is); (case l => k_is); (case c => k_is); (case k => k_is)
    obtain ⟨f11, c11, fd11, D11⟩ := d11
    have d13 : Eng.WithK KX fun K => ∃ f c fd, Eng.DefK K "read_volts" Eng.circuitstack_k14_values_told_as_bits.s13 f c fd := by
      refine' ⟨_, _, _, Eng.DefK.mk' ?a ?l ?c ?k⟩
      (case a => k_is); (case l => k_is); (case c => k_is); (case k => k_is)
    obtain ⟨f13, c13, fd13, D13⟩ := d13
    have d14 : Eng.WithK KX fun K => ∃ f c fd, Eng.DefK K "searched" Eng.circuitstack_k14_values_told_as_bits.s14 f c fd := by
      refine' ⟨_, _, _, Eng.DefK.mk' ?a ?l ?c ?k⟩
      (case a => k_is); (case l => k_is); (case c => k_is); (case k => k_is)
    obtain ⟨f14, c14, fd14, D14⟩ := d14
    have d15 : Eng.WithK KX fun K => ∃ f c fd, Eng.DefK K "counted" Eng.circuitstack_k14_values_told_as_bits.s15 f c fd := by
      refine' ⟨_, _, _, Eng.DefK.mk' ?a ?l ?c ?k⟩
      (case a => k_is); (case l => k_is); (case c => k_is); (case k => k_is)
    obtain ⟨f15, c15, fd15, D15⟩ := d15
    have d18 : Eng.WithK KX fun K => ∃ f c fd, Eng.DefK K "off_by" Eng.circuitstack_k14_values_told_as_bits.s18 f c fd := by
      refine' ⟨_, _, _, Eng.DefK.mk' ?a ?l ?c ?k⟩
      (case a => k_is); (case l => k_is); (case c => k_is); (case k => k_is)
    obtain ⟨f18, c18, fd18, D18⟩ := d18
    have d19 : Eng.WithK KX fun K => ∃ f c fd, Eng.DefK K "worst_steps" Eng.circuitstack_k14_values_told_as_bits.s19 f c fd := by
      refine' ⟨_, _, _, Eng.DefK.mk' ?a ?l ?c ?k⟩
      (case a => k_is); (case l => k_is); (case c => k_is); (case k => k_is)
    obtain ⟨f19, c19, fd19, D19⟩ := d19
    have d20 : Eng.WithK KX fun K => ∃ f c fd, Eng.DefK K "greater" Eng.circuitstack_k14_values_told_as_bits.s20 f c fd := by
      refine' ⟨_, _, _, Eng.DefK.mk' ?a ?l ?c ?k⟩
      (case a => k_is); (case l => k_is); (case c => k_is); (case k => k_is)
    obtain ⟨f20, c20, fd20, D20⟩ := d20
    have d22 : Eng.WithK KX fun K => ∃ f c fd, Eng.DefK K "one_change" Eng.circuitstack_k14_values_told_as_bits.s22 f c fd := by
      refine' ⟨_, _, _, Eng.DefK.mk' ?a ?l ?c ?k⟩
      (case a => k_is); (case l => k_is); (case c => k_is); (case k => k_is)
    obtain ⟨f22, c22, fd22, D22⟩ := d22
    have d23 : Eng.WithK KX fun K => ∃ f c fd, Eng.DefK K "crossed" Eng.circuitstack_k14_values_told_as_bits.s23 f c fd := by
      refine' ⟨_, _, _, Eng.DefK.mk' ?a ?l ?c ?k⟩
      (case a => k_is); (case l => k_is); (case c => k_is); (case k => k_is)
    obtain ⟨f23, c23, fd23, D23⟩ := d23
    have d24 : Eng.WithK KX fun K => ∃ f c fd, Eng.DefK K "from_one_change" Eng.circuitstack_k14_values_told_as_bits.s24 f c fd := by
      refine' ⟨_, _, _, Eng.DefK.mk' ?a ?l ?c ?k⟩
      (case a => k_is); (case l => k_is); (case c => k_is); (case k => k_is)
    obtain ⟨f24, c24, fd24, D24⟩ := d24
    have d25 : Eng.WithK KX fun K => ∃ f c fd, Eng.DefK K "two_sided" Eng.circuitstack_k14_values_told_as_bits.s25 f c fd := by
      refine' ⟨_, _, _, Eng.DefK.mk' ?a ?l ?c ?k⟩
      (case a => k_is); (case l => k_is); (case c => k_is); (case k => k_is)
    obtain ⟨f25, c25, fd25, D25⟩ := d25
    have d26 : Eng.WithK KX fun K => ∃ f c fd, Eng.DefK K "summed_bits" Eng.circuitstack_k14_values_told_as_bits.s26 f c fd := by
      refine' ⟨_, _, _, Eng.DefK.mk' ?a ?l ?c ?k⟩
      (case a => k_is); (case l => k_is); (case c => k_is); (case k => k_is)
    obtain ⟨f26, c26, fd26, D26⟩ := d26
    have d27 : Eng.WithK KX fun K => ∃ f c fd, Eng.DefK K "two_slopes" Eng.circuitstack_k14_values_told_as_bits.s27 f c fd := by
      refine' ⟨_, _, _, Eng.DefK.mk' ?a ?l ?c ?k⟩
      (case a => k_is); (case l => k_is); (case c => k_is); (case k => k_is)
    obtain ⟨f27, c27, fd27, D27⟩ := d27
    have d28 : Eng.WithK KX fun K => ∃ f c fd, Eng.DefK K "_law_dice" Eng.circuitstack_k14_values_told_as_bits.s28 f c fd := by
      refine' ⟨_, _, _, Eng.DefK.mk' ?a ?l ?c ?k⟩
      (case a => k_is); (case l => k_is); (case c => k_is); (case k => k_is)
    obtain ⟨f28, c28, fd28, D28⟩ := d28
    have d29 : Eng.WithK KX fun K => ∃ f c fd, Eng.DefK K "_law_roll" Eng.circuitstack_k14_values_told_as_bits.s29 f c fd := by
      refine' ⟨_, _, _, Eng.DefK.mk' ?a ?l ?c ?k⟩
      (case a => k_is); (case l => k_is); (case c => k_is); (case k => k_is)
    obtain ⟨f29, c29, fd29, D29⟩ := d29
    have d30 : Eng.WithK KX fun K => ∃ f c fd, Eng.DefK K "_law_rounds" Eng.circuitstack_k14_values_told_as_bits.s30 f c fd := by
      refine' ⟨_, _, _, Eng.DefK.mk' ?a ?l ?c ?k⟩
      (case a => k_is); (case l => k_is); (case c => k_is); (case k => k_is)
    obtain ⟨f30, c30, fd30, D30⟩ := d30
    have d31 : Eng.WithK KX fun K => ∃ f c fd, Eng.DefK K "_law_gcd" Eng.circuitstack_k14_values_told_as_bits.s31 f c fd := by
      refine' ⟨_, _, _, Eng.DefK.mk' ?a ?l ?c ?k⟩
      (case a => k_is); (case l => k_is); (case c => k_is); (case k => k_is)
    obtain ⟨f31, c31, fd31, D31⟩ := d31
    have d32 : Eng.WithK KX fun K => ∃ f c fd, Eng.DefK K "_law_share" Eng.circuitstack_k14_values_told_as_bits.s32 f c fd := by
      refine' ⟨_, _, _, Eng.DefK.mk' ?a ?l ?c ?k⟩
      (case a => k_is); (case l => k_is); (case c => k_is); (case k => k_is)
    obtain ⟨f32, c32, fd32, D32⟩ := d32
    have d33 : Eng.WithK KX fun K => ∃ f c fd, Eng.DefK K "_law_add" Eng.circuitstack_k14_values_told_as_bits.s33 f c fd := by
      refine' ⟨_, _, _, Eng.DefK.mk' ?a ?l ?c ?k⟩
      (case a => k_is); (case l => k_is); (case c => k_is); (case k => k_is)
    obtain ⟨f33, c33, fd33, D33⟩ := d33
    have d34 : Eng.WithK KX fun K => ∃ f c fd, Eng.DefK K "_law_mul" Eng.circuitstack_k14_values_told_as_bits.s34 f c fd := by
      refine' ⟨_, _, _, Eng.DefK.mk' ?a ?l ?c ?k⟩
      (case a => k_is); (case l => k_is); (case c => k_is); (case k => k_is)
    obtain ⟨f34, c34, fd34, D34⟩ := d34
    have d35 : Eng.WithK KX fun K => ∃ f c fd, Eng.DefK K "_law_less" Eng.circuitstack_k14_values_told_as_bits.s35 f c fd := by
      refine' ⟨_, _, _, Eng.DefK.mk' ?a ?l ?c ?k⟩
      (case a => k_is); (case l => k_is); (case c => k_is); (case k => k_is)
    obtain ⟨f35, c35, fd35, D35⟩ := d35
    have d36 : Eng.WithK KX fun K => ∃ f c fd, Eng.DefK K "_law_one" Eng.circuitstack_k14_values_told_as_bits.s36 f c fd := by
      refine' ⟨_, _, _, Eng.DefK.mk' ?a ?l ?c ?k⟩
      (case a => k_is); (case l => k_is); (case c => k_is); (case k => k_is)
    obtain ⟨f36, c36, fd36, D36⟩ := d36
    have d37 : Eng.WithK KX fun K => ∃ f c fd, Eng.DefK K "_law_minus" Eng.circuitstack_k14_values_told_as_bits.s37 f c fd := by
      refine' ⟨_, _, _, Eng.DefK.mk' ?a ?l ?c ?k⟩
      (case a => k_is); (case l => k_is); (case c => k_is); (case k => k_is)
    obtain ⟨f37, c37, fd37, D37⟩ := d37
    have d38 : Eng.WithK KX fun K => ∃ f c fd, Eng.DefK K "_law_by" Eng.circuitstack_k14_values_told_as_bits.s38 f c fd := by
      refine' ⟨_, _, _, Eng.DefK.mk' ?a ?l ?c ?k⟩
      (case a => k_is); (case l => k_is); (case c => k_is); (case k => k_is)
    obtain ⟨f38, c38, fd38, D38⟩ := d38
    have d39 : Eng.WithK KX fun K => ∃ f c fd, Eng.DefK K "_law_two" Eng.circuitstack_k14_values_told_as_bits.s39 f c fd := by
      refine' ⟨_, _, _, Eng.DefK.mk' ?a ?l ?c ?k⟩
      (case a => k_is); (case l => k_is); (case c => k_is); (case k => k_is)
    obtain ⟨f39, c39, fd39, D39⟩ := d39
    have d40 : Eng.WithK KX fun K => ∃ f c fd, Eng.DefK K "_law_bits" Eng.circuitstack_k14_values_told_as_bits.s40 f c fd := by
      refine' ⟨_, _, _, Eng.DefK.mk' ?a ?l ?c ?k⟩
      (case a => k_is); (case l => k_is); (case c => k_is); (case k => k_is)
    obtain ⟨f40, c40, fd40, D40⟩ := d40
    have d42 : Eng.WithK KX fun K => ∃ f c fd, Eng.DefK K "_law_rest" Eng.circuitstack_k14_values_told_as_bits.s42 f c fd := by
      refine' ⟨_, _, _, Eng.DefK.mk' ?a ?l ?c ?k⟩
      (case a => k_is); (case l => k_is); (case c => k_is); (case k => k_is)
    obtain ⟨f42, c42, fd42, D42⟩ := d42
    have dq : Eng.WithK KX fun K => ∃ f c fd, Eng.DefK K "_law_told" (Eng.circuitstack_k14_values_told_as_bits.topS 39) f c fd := by
      refine' ⟨_, _, _, Eng.DefK.mk' ?a ?l ?c ?k⟩
      (case a => k_is); (case l => k_is); (case c => k_is); (case k => k_is)
    obtain ⟨fq, cq, fdq, Dq⟩ := dq
    have e0 : Eng.WithK KX fun K => ∃ e, Eng.ExcK K "CircuitFault" e [.type "ValueError", .type "Exception", .type "BaseException", .type "object"] "ValueError.__new__" ∧ PySem.W.isClsIn K e = true ∧ PySem.W.subIn K (.ref e) (.ref e) = some true := by
      refine' ⟨_, ⟨?xg0, ?xq0, ?xk0, ?xb0, ?xt0⟩, ?xi0, ?xs0⟩
      (case xg0 => k_is); (case xq0 => k_exc); (case xk0 => k_is); (case xb0 => k_is); (case xt0 => k_is); (case xi0 => k_is); (case xs0 => first | rfl | k_is)
    obtain ⟨e0, E0, I0, S0⟩ := e0
    have e1 : Eng.WithK KX fun K => ∃ e, Eng.ExcK K "ShareError" e [.type "ValueError", .type "Exception", .type "BaseException", .type "object"] "ValueError.__new__" ∧ PySem.W.isClsIn K e = true ∧ PySem.W.subIn K (.ref e) (.ref e) = some true := by
      refine' ⟨_, ⟨?xg1, ?xq1, ?xk1, ?xb1, ?xt1⟩, ?xi1, ?xs1⟩
      (case xg1 => k_is); (case xq1 => k_exc); (case xk1 => k_is); (case xb1 => k_is); (case xt1 => k_is); (case xi1 => k_is); (case xs1 => first | rfl | k_is)
    obtain ⟨e1, E1, I1, S1⟩ := e1
    have e2 : Eng.WithK KX fun K => ∃ e, Eng.ExcK K "TurnError" e [.type "ValueError", .type "Exception", .type "BaseException", .type "object"] "ValueError.__new__" ∧ PySem.W.isClsIn K e = true ∧ PySem.W.subIn K (.ref e) (.ref e) = some true := by
      refine' ⟨_, ⟨?xg2, ?xq2, ?xk2, ?xb2, ?xt2⟩, ?xi2, ?xs2⟩
      (case xg2 => k_is); (case xq2 => k_exc); (case xk2 => k_is); (case xb2 => k_is); (case xt2 => k_is); (case xi2 => k_is); (case xs2 => first | rfl | k_is)
    obtain ⟨e2, E2, I2, S2⟩ := e2
    have u0 : Eng.WithK KX fun K => Eng.GlI K "MOST_BITS" 16 := by
      refine' Eng.GlI.mk' ?xu0
      (case xu0 => k_is)
    obtain ⟨t0, u0⟩ := u0.ex
    have zs : Eng.WithK KX fun K => PySem.W.nsIn K mainGlobals "abs" = some none ∧ PySem.W.nsIn K mainGlobals "len" = some none ∧ PySem.W.nsIn K mainGlobals "int" = some none ∧ PySem.W.nsIn K mainGlobals "tuple" = some none ∧ PySem.W.nsIn K mainGlobals "list" = some none ∧ PySem.W.nsIn K mainGlobals "sum" = some none ∧ PySem.W.nsIn K mainGlobals "str" = some none ∧ PySem.W.nsIn K mainGlobals "min" = some none ∧ PySem.W.nsIn K mainGlobals "max" = some none ∧ PySem.W.nsIn K mainGlobals "range" = some none ∧ PySem.W.nsIn K mainGlobals "enumerate" = some none ∧ PySem.W.nsIn K mainGlobals "zip" = some none ∧ PySem.W.nsIn K mainGlobals "any" = some none ∧ PySem.W.nsIn K mainGlobals "all" = some none := by
      refine' ⟨?z0, ?z1, ?z2, ?z3, ?z4, ?z5, ?z6, ?z7, ?z8, ?z9, ?z10, ?z11, ?z12, ?z13⟩
      all_goals k_is
    obtain ⟨z0, z1, z2, z3, z4, z5, z6, z7, z8, z9, z10, z11, z12, z13⟩ := zs
    have ef : f43 = fa := by
      have q := (PySem.W.mg_of KX G D43.a).symm.trans hmg
      cases q; rfl
    refine Eng.law_at (K := _) (kL := 43) (lev := Eng.circuitstack_k14_values_told_as_bits.lev) (G := ⟨_, fun k => [e0, e1, e2].getD k 0, [(P12, none), (P16, none), (P17, none), (P21, none), (P41, some (("_law_plain" : Str) ++ ".<locals>." ++ "<lambda>")), (P43, some (("law" : Str) ++ ".<locals>." ++ "<lambda>"))], Eng.circuitstack_k14_values_told_as_bits.lmB, Eng.circuitstack_k14_values_told_as_bits.nm⟩) (P := Eng.circuitstack_k14_values_told_as_bits.prg) (C := Eng.circuitstack_k14_values_told_as_bits.nm) (fns := Eng.circuitstack_k14_values_told_as_bits.fnsA) (F := Eng.circuitstack_k14_values_told_as_bits.fuel) (Df := fun k => [(f0, fd0, [("one" : Str), ("under" : Str)]), (f1, fd1, [("one" : Str), ("other" : Str)]), (f2, fd2, [("one" : Str), ("other" : Str)]), (f3, fd3, [("one" : Str), ("other" : Str)]), (f4, fd4, [("one" : Str), ("other" : Str)]), (f5, fd5, [("one" : Str), ("other" : Str)]), (f6, fd6, [("many" : Str)]), (f7, fd7, [("many" : Str)]), (f8, fd8, [("value" : Str), ("many" : Str)]), (f9, fd9, [("bits" : Str)]), (f10, fd10, [("value" : Str), ("many" : Str), ("top" : Str)]), (f11, fd11, [("bits" : Str), ("top" : Str)]), (f12, fd12, [("bits" : Str), ("values" : Str), ("top" : Str)]), (f13, fd13, [("volts" : Str), ("many" : Str), ("top" : Str)]), (f14, fd14, [("volts" : Str), ("many" : Str), ("top" : Str)]), (f15, fd15, [("volts" : Str), ("many" : Str), ("top" : Str)]), (f16, fd16, [("many" : Str), ("top" : Str)]), (f17, fd17, [("volts" : Str), ("levels" : Str)]), (f18, fd18, [("volts" : Str), ("many" : Str), ("top" : Str)]), (f19, fd19, [("made" : Str), ("top" : Str)]), (f20, fd20, [("one" : Str), ("other" : Str)]), (f21, fd21, [("made" : Str)]), (f22, fd22, [("value" : Str)]), (f23, fd23, [("one" : Str), ("other" : Str)]), (f24, fd24, [("code" : Str)]), (f25, fd25, [("value" : Str), ("many" : Str)]), (f26, fd26, [("volts" : Str), ("top" : Str), ("steps" : Str)]), (f27, fd27, [("volts" : Str), ("top" : Str), ("up" : Str), ("clock" : Str)]), (f28, fd28, [("cell" : Str)]), (f29, fd29, [("dice" : Str), ("many" : Str)]), (f30, fd30, [("script" : Str), ("most" : Str)]), (f31, fd31, [("one" : Str), ("other" : Str)]), (f32, fd32, [("one" : Str), ("under" : Str)]), (f33, fd33, [("one" : Str), ("other" : Str)]), (f34, fd34, [("one" : Str), ("other" : Str)]), (f35, fd35, [("one" : Str), ("other" : Str)]), (f36, fd36, [("dice" : Str)]), (f37, fd37, [("one" : Str), ("other" : Str)]), (f38, fd38, [("one" : Str), ("other" : Str)]), (f39, fd39, [("many" : Str)]), (f40, fd40, [("value" : Str), ("many" : Str)]), (f41, fd41, []), (f42, fd42, [("dice" : Str), ("top" : Str)]), (f43, fd43, [("script" : Str)])].getD k (0, fd43, [])) (cs := [(c12, P12), (c16, P16), (c17, P17), (c21, P21), (c41, P41), (c43, P43)]) ?hT ?nT ?hC rfl ?hTs rfl rfl ef (fun s u => ?hb) (fun base kb nb TB => ?hPk) ?hev
    case hT =>
      intro p hp
      simp only [List.mem_cons, List.not_mem_nil, or_false] at hp
      rcases hp with rfl | rfl | rfl | rfl | rfl | rfl
      · exact T12.own (own "weighted_volts" f12 (by first | rfl | decide +kernel) (PySem.W.mg_of KX G D12.a))
      · exact T16.own (own "marks" f16 (by first | rfl | decide +kernel) (PySem.W.mg_of KX G D16.a))
      · exact T17.own (own "flash" f17 (by first | rfl | decide +kernel) (PySem.W.mg_of KX G D17.a))
      · exact T21.own (own "is_rising" f21 (by first | rfl | decide +kernel) (PySem.W.mg_of KX G D21.a))
      · exact T41.own (own "_law_plain" f41 (by first | rfl | decide +kernel) (PySem.W.mg_of KX G D41.a))
      · exact T43.own (own "law" f43 (by first | rfl | decide +kernel) (PySem.W.mg_of KX G D43.a))
    case nT =>
      intro p hp
      simp only [List.mem_cons, List.not_mem_nil, or_false] at hp
      rcases hp with rfl | rfl | rfl | rfl | rfl | rfl
      · exact T12.no
      · exact T16.no
      · exact T17.no
      · exact T21.no
      · exact T41.no
      · exact T43.no
    case hC =>
      intro p hp
      simp only [List.mem_cons, List.not_mem_nil, or_false] at hp
      rcases hp with rfl | rfl | rfl | rfl | rfl | rfl
      · exact T12.code KX
      · exact T16.code KX
      · exact T17.code KX
      · exact T21.code KX
      · exact T41.code KX
      · exact T43.code KX
    case hTs =>
      intro q hq
      simp only [List.mem_cons, List.not_mem_nil, or_false] at hq
      rcases hq with rfl | rfl | rfl | rfl | rfl | rfl
      · exact ⟨(c12, P12), by simp, rfl⟩
      · exact ⟨(c16, P16), by simp, rfl⟩
      · exact ⟨(c17, P17), by simp, rfl⟩
      · exact ⟨(c21, P21), by simp, rfl⟩
      · exact ⟨(c41, P41), by simp, rfl⟩
      · exact ⟨(c43, P43), by simp, rfl⟩
    case hb =>
      obtain ⟨_, _, _, _, _, _, _, _, _, e, _⟩ := D43.ex
      subst e
      exact .of_eq rfl
    case hPk =>
      refine ⟨rfl, ?mgn, ?mgc, ?mgt, rfl, rfl, Eng.circuitstack_k14_values_told_as_bits.lmH _ _ _, Eng.circuitstack_k14_values_told_as_bits.lms _ _ _, ?exc, ?fn⟩
      case mgn =>
        intro x hx
        simp only [Eng.bNames, List.mem_cons, List.not_mem_nil, or_false] at hx
        rcases hx with rfl | rfl | rfl | rfl | rfl | rfl | rfl | rfl | rfl | rfl | rfl | rfl | rfl | rfl
        · exact PySem.W.mg_none_of KX G z0
        · exact PySem.W.mg_none_of KX G z1
        · exact PySem.W.mg_none_of KX G z2
        · exact PySem.W.mg_none_of KX G z3
        · exact PySem.W.mg_none_of KX G z4
        · exact PySem.W.mg_none_of KX G z5
        · exact PySem.W.mg_none_of KX G z6
        · exact PySem.W.mg_none_of KX G z7
        · exact PySem.W.mg_none_of KX G z8
        · exact PySem.W.mg_none_of KX G z9
        · exact PySem.W.mg_none_of KX G z10
        · exact PySem.W.mg_none_of KX G z11
        · exact PySem.W.mg_none_of KX G z12
        · exact PySem.W.mg_none_of KX G z13
      case mgc =>
        intro k x hx
        match k, hx with
        | 0, hx => cases hx; exact ⟨_, _, .int 16, rfl, PySem.W.mg_of KX G u0, ⟨_, rfl⟩, rfl⟩
        | n + 1, hx => cases n <;> cases hx
      case mgt =>
        intro k x hx
        match k, hx with
        | n + 1, hx => cases n <;> cases hx
        | 0, hx =>
          cases hx
          have bnd := Eng.circuitstack_k14_values_told_as_bits.bnT Dq.fn_
          obtain ⟨oc, od, kV, doc, pm, ct, an, osl, o, rfl, lk⟩ := Dq.ex
          refine ⟨2, "TurnError", "what", "TurnError", fq, e2, _, _, _, .none, kV, doc, pm, cq, ct, o, an, od, osl, ["what"], 0, _, _, _, _, _, _, _, _, rfl, fun c1 hc => ?_, PySem.W.mg_of KX G Dq.a, Dq.k, lk, Dq.c, bnd, Eng.circuitstack_k14_values_told_as_bits.scT, rfl, .inl rfl, rfl, rfl, PySem.W.mg_of KX G E2.g, by decide, by decide, by decide⟩
          have hc : (c1 == 2) = true := hc
          rw [beq_iff_eq] at hc
          subst hc
          exact Eng.exm_self' E2.b I2 E2.t S2
      case exc =>
        intro k x hx
        match k, hx with
        | 0, hx => cases hx; exact ⟨_, _, _, _, PySem.F.excBase_ValueError, E0.q, PySem.W.mg_of KX G E0.g, E0.k, E0.b, E0.t⟩
        | 1, hx => cases hx; exact ⟨_, _, _, _, PySem.F.excBase_ValueError, E1.q, PySem.W.mg_of KX G E1.g, E1.k, E1.b, E1.t⟩
        | 2, hx => cases hx; exact ⟨_, _, _, _, PySem.F.excBase_ValueError, E2.q, PySem.W.mg_of KX G E2.g, E2.k, E2.b, E2.t⟩
        | n + 3, hx => cases n <;> cases hx
      case fn =>
        refine ⟨?w0, ?w1, ?w2, ?w3, ?w4, ?w5, ?w6, ?w7, ?w8, ?w9, ?w10, ?w11, ?w12, ?w13, ?w14, ?w15, ?w16, ?w17, ?w18, ?w19, ?w20, ?w21, ?w22, ?w23, ?w24, ?w25, ?w26, ?w27, ?w28, ?w29, ?w30, ?w31, ?w32, ?w33, ?w34, ?w35, ?w36, ?w37, ?w38, ?w39, ?w40, ?w41, ?w42, ?w43, trivial⟩
        case w0 => exact Eng.fnCase0 (f := f0) (fd := fd0) rfl Eng.circuitstack_k14_values_told_as_bits.fx0 ⟨Eng.circuitstack_k14_values_told_as_bits.sc0, rfl, rfl, Eng.circuitstack_k14_values_told_as_bits.m0⟩ (D0.in_ KX G) (Eng.circuitstack_k14_values_told_as_bits.bn0 D0.fn_)
        case w1 => exact Eng.fnCase0 (f := f1) (fd := fd1) rfl Eng.circuitstack_k14_values_told_as_bits.fx1 ⟨Eng.circuitstack_k14_values_told_as_bits.sc1, rfl, rfl, Eng.circuitstack_k14_values_told_as_bits.m1⟩ (D1.in_ KX G) (Eng.circuitstack_k14_values_told_as_bits.bn1 D1.fn_)
        case w2 => exact Eng.fnCase0 (f := f2) (fd := fd2) rfl Eng.circuitstack_k14_values_told_as_bits.fx2 ⟨Eng.circuitstack_k14_values_told_as_bits.sc2, rfl, rfl, Eng.circuitstack_k14_values_told_as_bits.m2⟩ (D2.in_ KX G) (Eng.circuitstack_k14_values_told_as_bits.bn2 D2.fn_)
        case w3 => exact Eng.fnCase0 (f := f3) (fd := fd3) rfl Eng.circuitstack_k14_values_told_as_bits.fx3 ⟨Eng.circuitstack_k14_values_told_as_bits.sc3, rfl, rfl, Eng.circuitstack_k14_values_told_as_bits.m3⟩ (D3.in_ KX G) (Eng.circuitstack_k14_values_told_as_bits.bn3 D3.fn_)
        case w4 => exact Eng.fnCase0 (f := f4) (fd := fd4) rfl Eng.circuitstack_k14_values_told_as_bits.fx4 ⟨Eng.circuitstack_k14_values_told_as_bits.sc4, rfl, rfl, Eng.circuitstack_k14_values_told_as_bits.m4⟩ (D4.in_ KX G) (Eng.circuitstack_k14_values_told_as_bits.bn4 D4.fn_)
        case w5 => exact Eng.fnCase0 (f := f5) (fd := fd5) rfl Eng.circuitstack_k14_values_told_as_bits.fx5 ⟨Eng.circuitstack_k14_values_told_as_bits.sc5, rfl, rfl, Eng.circuitstack_k14_values_told_as_bits.m5⟩ (D5.in_ KX G) (Eng.circuitstack_k14_values_told_as_bits.bn5 D5.fn_)
        case w6 => exact Eng.fnCase0 (f := f6) (fd := fd6) rfl Eng.circuitstack_k14_values_told_as_bits.fx6 ⟨Eng.circuitstack_k14_values_told_as_bits.sc6, rfl, rfl, Eng.circuitstack_k14_values_told_as_bits.m6⟩ (D6.in_ KX G) (Eng.circuitstack_k14_values_told_as_bits.bn6 D6.fn_)
        case w7 => exact Eng.fnCase0 (f := f7) (fd := fd7) rfl Eng.circuitstack_k14_values_told_as_bits.fx7 ⟨Eng.circuitstack_k14_values_told_as_bits.sc7, rfl, rfl, Eng.circuitstack_k14_values_told_as_bits.m7⟩ (D7.in_ KX G) (Eng.circuitstack_k14_values_told_as_bits.bn7 D7.fn_)
        case w8 => exact Eng.fnCase0 (f := f8) (fd := fd8) rfl Eng.circuitstack_k14_values_told_as_bits.fx8 ⟨Eng.circuitstack_k14_values_told_as_bits.sc8, rfl, rfl, Eng.circuitstack_k14_values_told_as_bits.m8⟩ (D8.in_ KX G) (Eng.circuitstack_k14_values_told_as_bits.bn8 D8.fn_)
        case w9 => exact Eng.fnCase0 (f := f9) (fd := fd9) rfl Eng.circuitstack_k14_values_told_as_bits.fx9 ⟨Eng.circuitstack_k14_values_told_as_bits.sc9, rfl, rfl, Eng.circuitstack_k14_values_told_as_bits.m9⟩ (D9.in_ KX G) (Eng.circuitstack_k14_values_told_as_bits.bn9 D9.fn_)
        case w10 => exact Eng.fnCase0 (f := f10) (fd := fd10) rfl Eng.circuitstack_k14_values_told_as_bits.fx10 ⟨Eng.circuitstack_k14_values_told_as_bits.sc10, rfl, rfl, Eng.circuitstack_k14_values_told_as_bits.m10⟩ (D10.in_ KX G) (Eng.circuitstack_k14_values_told_as_bits.bn10 D10.fn_)
        case w11 => exact Eng.fnCase0 (f := f11) (fd := fd11) rfl Eng.circuitstack_k14_values_told_as_bits.fx11 ⟨Eng.circuitstack_k14_values_told_as_bits.sc11, rfl, rfl, Eng.circuitstack_k14_values_told_as_bits.m11⟩ (D11.in_ KX G) (Eng.circuitstack_k14_values_told_as_bits.bn11 D11.fn_)
        case w12 => exact Eng.fnCaseT (f := f12) (fd := fd12) (b := false) (c := c12) (Pa := P12) rfl Eng.circuitstack_k14_values_told_as_bits.fx12 ⟨Eng.circuitstack_k14_values_told_as_bits.sc12, rfl, rfl, Eng.circuitstack_k14_values_told_as_bits.m12⟩ (D12.in_ KX G) (Eng.circuitstack_k14_values_told_as_bits.bn12 D12.fn_) (TB (c12, P12) (.head _)) (.head _) Eng.zG nd
        case w13 => exact Eng.fnCase0 (f := f13) (fd := fd13) rfl Eng.circuitstack_k14_values_told_as_bits.fx13 ⟨Eng.circuitstack_k14_values_told_as_bits.sc13, rfl, rfl, Eng.circuitstack_k14_values_told_as_bits.m13⟩ (D13.in_ KX G) (Eng.circuitstack_k14_values_told_as_bits.bn13 D13.fn_)
        case w14 => exact Eng.fnCase0 (f := f14) (fd := fd14) rfl Eng.circuitstack_k14_values_told_as_bits.fx14 ⟨Eng.circuitstack_k14_values_told_as_bits.sc14, rfl, rfl, Eng.circuitstack_k14_values_told_as_bits.m14⟩ (D14.in_ KX G) (Eng.circuitstack_k14_values_told_as_bits.bn14 D14.fn_)
        case w15 => exact Eng.fnCase0 (f := f15) (fd := fd15) rfl Eng.circuitstack_k14_values_told_as_bits.fx15 ⟨Eng.circuitstack_k14_values_told_as_bits.sc15, rfl, rfl, Eng.circuitstack_k14_values_told_as_bits.m15⟩ (D15.in_ KX G) (Eng.circuitstack_k14_values_told_as_bits.bn15 D15.fn_)
        case w16 => exact Eng.fnCaseT (f := f16) (fd := fd16) (b := false) (c := c16) (Pa := P16) rfl Eng.circuitstack_k14_values_told_as_bits.fx16 ⟨Eng.circuitstack_k14_values_told_as_bits.sc16, rfl, rfl, Eng.circuitstack_k14_values_told_as_bits.m16⟩ (D16.in_ KX G) (Eng.circuitstack_k14_values_told_as_bits.bn16 D16.fn_) (TB (c16, P16) (.tail _ (.head _))) (.tail _ (.head _)) Eng.zG nd
        case w17 => exact Eng.fnCaseT (f := f17) (fd := fd17) (b := false) (c := c17) (Pa := P17) rfl Eng.circuitstack_k14_values_told_as_bits.fx17 ⟨Eng.circuitstack_k14_values_told_as_bits.sc17, rfl, rfl, Eng.circuitstack_k14_values_told_as_bits.m17⟩ (D17.in_ KX G) (Eng.circuitstack_k14_values_told_as_bits.bn17 D17.fn_) (TB (c17, P17) (.tail _ (.tail _ (.head _)))) (.tail _ (.tail _ (.head _))) Eng.zG nd
        case w18 => exact Eng.fnCase0 (f := f18) (fd := fd18) rfl Eng.circuitstack_k14_values_told_as_bits.fx18 ⟨Eng.circuitstack_k14_values_told_as_bits.sc18, rfl, rfl, Eng.circuitstack_k14_values_told_as_bits.m18⟩ (D18.in_ KX G) (Eng.circuitstack_k14_values_told_as_bits.bn18 D18.fn_)
        case w19 => exact Eng.fnCase0 (f := f19) (fd := fd19) rfl Eng.circuitstack_k14_values_told_as_bits.fx19 ⟨Eng.circuitstack_k14_values_told_as_bits.sc19, rfl, rfl, Eng.circuitstack_k14_values_told_as_bits.m19⟩ (D19.in_ KX G) (Eng.circuitstack_k14_values_told_as_bits.bn19 D19.fn_)
        case w20 => exact Eng.fnCase0 (f := f20) (fd := fd20) rfl Eng.circuitstack_k14_values_told_as_bits.fx20 ⟨Eng.circuitstack_k14_values_told_as_bits.sc20, rfl, rfl, Eng.circuitstack_k14_values_told_as_bits.m20⟩ (D20.in_ KX G) (Eng.circuitstack_k14_values_told_as_bits.bn20 D20.fn_)
        case w21 => exact Eng.fnCaseT (f := f21) (fd := fd21) (b := false) (c := c21) (Pa := P21) rfl Eng.circuitstack_k14_values_told_as_bits.fx21 ⟨Eng.circuitstack_k14_values_told_as_bits.sc21, rfl, rfl, Eng.circuitstack_k14_values_told_as_bits.m21⟩ (D21.in_ KX G) (Eng.circuitstack_k14_values_told_as_bits.bn21 D21.fn_) (TB (c21, P21) (.tail _ (.tail _ (.tail _ (.head _))))) (.tail _ (.tail _ (.tail _ (.head _)))) Eng.zG nd
        case w22 => exact Eng.fnCase0 (f := f22) (fd := fd22) rfl Eng.circuitstack_k14_values_told_as_bits.fx22 ⟨Eng.circuitstack_k14_values_told_as_bits.sc22, rfl, rfl, Eng.circuitstack_k14_values_told_as_bits.m22⟩ (D22.in_ KX G) (Eng.circuitstack_k14_values_told_as_bits.bn22 D22.fn_)
        case w23 => exact Eng.fnCase0 (f := f23) (fd := fd23) rfl Eng.circuitstack_k14_values_told_as_bits.fx23 ⟨Eng.circuitstack_k14_values_told_as_bits.sc23, rfl, rfl, Eng.circuitstack_k14_values_told_as_bits.m23⟩ (D23.in_ KX G) (Eng.circuitstack_k14_values_told_as_bits.bn23 D23.fn_)
        case w24 => exact Eng.fnCase0 (f := f24) (fd := fd24) rfl Eng.circuitstack_k14_values_told_as_bits.fx24 ⟨Eng.circuitstack_k14_values_told_as_bits.sc24, rfl, rfl, Eng.circuitstack_k14_values_told_as_bits.m24⟩ (D24.in_ KX G) (Eng.circuitstack_k14_values_told_as_bits.bn24 D24.fn_)
        case w25 => exact Eng.fnCase0 (f := f25) (fd := fd25) rfl Eng.circuitstack_k14_values_told_as_bits.fx25 ⟨Eng.circuitstack_k14_values_told_as_bits.sc25, rfl, rfl, Eng.circuitstack_k14_values_told_as_bits.m25⟩ (D25.in_ KX G) (Eng.circuitstack_k14_values_told_as_bits.bn25 D25.fn_)
        case w26 => exact Eng.fnCase0 (f := f26) (fd := fd26) rfl Eng.circuitstack_k14_values_told_as_bits.fx26 ⟨Eng.circuitstack_k14_values_told_as_bits.sc26, rfl, rfl, Eng.circuitstack_k14_values_told_as_bits.m26⟩ (D26.in_ KX G) (Eng.circuitstack_k14_values_told_as_bits.bn26 D26.fn_)
        case w27 => exact Eng.fnCase0 (f := f27) (fd := fd27) rfl Eng.circuitstack_k14_values_told_as_bits.fx27 ⟨Eng.circuitstack_k14_values_told_as_bits.sc27, rfl, rfl, Eng.circuitstack_k14_values_told_as_bits.m27⟩ (D27.in_ KX G) (Eng.circuitstack_k14_values_told_as_bits.bn27 D27.fn_)
        case w28 => exact Eng.fnCase0 (f := f28) (fd := fd28) rfl Eng.circuitstack_k14_values_told_as_bits.fx28 ⟨Eng.circuitstack_k14_values_told_as_bits.sc28, rfl, rfl, Eng.circuitstack_k14_values_told_as_bits.m28⟩ (D28.in_ KX G) (Eng.circuitstack_k14_values_told_as_bits.bn28 D28.fn_)
        case w29 => exact Eng.fnCase0 (f := f29) (fd := fd29) rfl Eng.circuitstack_k14_values_told_as_bits.fx29 ⟨Eng.circuitstack_k14_values_told_as_bits.sc29, rfl, rfl, Eng.circuitstack_k14_values_told_as_bits.m29⟩ (D29.in_ KX G) (Eng.circuitstack_k14_values_told_as_bits.bn29 D29.fn_)
        case w30 => exact Eng.fnCase0 (f := f30) (fd := fd30) rfl Eng.circuitstack_k14_values_told_as_bits.fx30 ⟨Eng.circuitstack_k14_values_told_as_bits.sc30, rfl, rfl, Eng.circuitstack_k14_values_told_as_bits.m30⟩ (D30.in_ KX G) (Eng.circuitstack_k14_values_told_as_bits.bn30 D30.fn_)
        case w31 => exact Eng.fnCase0 (f := f31) (fd := fd31) rfl Eng.circuitstack_k14_values_told_as_bits.fx31 ⟨Eng.circuitstack_k14_values_told_as_bits.sc31, rfl, rfl, Eng.circuitstack_k14_values_told_as_bits.m31⟩ (D31.in_ KX G) (Eng.circuitstack_k14_values_told_as_bits.bn31 D31.fn_)
        case w32 => exact Eng.fnCase0 (f := f32) (fd := fd32) rfl Eng.circuitstack_k14_values_told_as_bits.fx32 ⟨Eng.circuitstack_k14_values_told_as_bits.sc32, rfl, rfl, Eng.circuitstack_k14_values_told_as_bits.m32⟩ (D32.in_ KX G) (Eng.circuitstack_k14_values_told_as_bits.bn32 D32.fn_)
        case w33 => exact Eng.fnCase0 (f := f33) (fd := fd33) rfl Eng.circuitstack_k14_values_told_as_bits.fx33 ⟨Eng.circuitstack_k14_values_told_as_bits.sc33, rfl, rfl, Eng.circuitstack_k14_values_told_as_bits.m33⟩ (D33.in_ KX G) (Eng.circuitstack_k14_values_told_as_bits.bn33 D33.fn_)
        case w34 => exact Eng.fnCase0 (f := f34) (fd := fd34) rfl Eng.circuitstack_k14_values_told_as_bits.fx34 ⟨Eng.circuitstack_k14_values_told_as_bits.sc34, rfl, rfl, Eng.circuitstack_k14_values_told_as_bits.m34⟩ (D34.in_ KX G) (Eng.circuitstack_k14_values_told_as_bits.bn34 D34.fn_)
        case w35 => exact Eng.fnCase0 (f := f35) (fd := fd35) rfl Eng.circuitstack_k14_values_told_as_bits.fx35 ⟨Eng.circuitstack_k14_values_told_as_bits.sc35, rfl, rfl, Eng.circuitstack_k14_values_told_as_bits.m35⟩ (D35.in_ KX G) (Eng.circuitstack_k14_values_told_as_bits.bn35 D35.fn_)
        case w36 => exact Eng.fnCase0 (f := f36) (fd := fd36) rfl Eng.circuitstack_k14_values_told_as_bits.fx36 ⟨Eng.circuitstack_k14_values_told_as_bits.sc36, rfl, rfl, Eng.circuitstack_k14_values_told_as_bits.m36⟩ (D36.in_ KX G) (Eng.circuitstack_k14_values_told_as_bits.bn36 D36.fn_)
        case w37 => exact Eng.fnCase0 (f := f37) (fd := fd37) rfl Eng.circuitstack_k14_values_told_as_bits.fx37 ⟨Eng.circuitstack_k14_values_told_as_bits.sc37, rfl, rfl, Eng.circuitstack_k14_values_told_as_bits.m37⟩ (D37.in_ KX G) (Eng.circuitstack_k14_values_told_as_bits.bn37 D37.fn_)
        case w38 => exact Eng.fnCase0 (f := f38) (fd := fd38) rfl Eng.circuitstack_k14_values_told_as_bits.fx38 ⟨Eng.circuitstack_k14_values_told_as_bits.sc38, rfl, rfl, Eng.circuitstack_k14_values_told_as_bits.m38⟩ (D38.in_ KX G) (Eng.circuitstack_k14_values_told_as_bits.bn38 D38.fn_)
        case w39 => exact Eng.fnCase0 (f := f39) (fd := fd39) rfl Eng.circuitstack_k14_values_told_as_bits.fx39 ⟨Eng.circuitstack_k14_values_told_as_bits.sc39, rfl, rfl, Eng.circuitstack_k14_values_told_as_bits.m39⟩ (D39.in_ KX G) (Eng.circuitstack_k14_values_told_as_bits.bn39 D39.fn_)
        case w40 => exact Eng.fnCase0 (f := f40) (fd := fd40) rfl Eng.circuitstack_k14_values_told_as_bits.fx40 ⟨Eng.circuitstack_k14_values_told_as_bits.sc40, rfl, rfl, Eng.circuitstack_k14_values_told_as_bits.m40⟩ (D40.in_ KX G) (Eng.circuitstack_k14_values_told_as_bits.bn40 D40.fn_)
        case w41 => exact Eng.fnCaseT (f := f41) (fd := fd41) (b := true) (c := c41) (Pa := P41) rfl Eng.circuitstack_k14_values_told_as_bits.fx41 ⟨Eng.circuitstack_k14_values_told_as_bits.sc41, rfl, rfl, Eng.circuitstack_k14_values_told_as_bits.m41⟩ (D41.in_ KX G) (Eng.circuitstack_k14_values_told_as_bits.bn41 D41.fn_) (TB (c41, P41) (.tail _ (.tail _ (.tail _ (.tail _ (.head _)))))) (.tail _ (.tail _ (.tail _ (.tail _ (.head _))))) Eng.zL nd
        case w42 => exact Eng.fnCase0 (f := f42) (fd := fd42) rfl Eng.circuitstack_k14_values_told_as_bits.fx42 ⟨Eng.circuitstack_k14_values_told_as_bits.sc42, rfl, rfl, Eng.circuitstack_k14_values_told_as_bits.m42⟩ (D42.in_ KX G) (Eng.circuitstack_k14_values_told_as_bits.bn42 D42.fn_)
        case w43 => exact Eng.fnCaseT (f := f43) (fd := fd43) (b := true) (c := c43) (Pa := P43) rfl Eng.circuitstack_k14_values_told_as_bits.fx43 ⟨Eng.circuitstack_k14_values_told_as_bits.sc43, rfl, rfl, Eng.circuitstack_k14_values_told_as_bits.m43⟩ (D43.in_ KX G) (Eng.circuitstack_k14_values_told_as_bits.bn43 D43.fn_) (TB (c43, P43) (.tail _ (.tail _ (.tail _ (.tail _ (.tail _ (.head _))))))) (.tail _ (.tail _ (.tail _ (.tail _ (.tail _ (.head _)))))) Eng.zL nd
    case hev => exact fun ns _ _ => Eng.K14.law_ok ns
