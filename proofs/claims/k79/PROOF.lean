import PyProof.Rows.All
import Wide.All
import OpenK.AllK
import Wide.FinOn
import PySem.Challenge.RW_closedsums_k79_ranges_and_totals
import HandS.Head0
import HandS.Head1
import HandS.Head2
import HandS.Head3
import HandS.HeadEnd
import HandS.HeadHook1
import HandS.HeadHook2
import HandS.HeadHook3
import HandS.HeadHook4
import KE.KStateDown
import HandS.ForMost
import HandS.Exc
import HandS.ExcOwn
import HandS.TryMany
import HandS.TryOnly
import HandS.IsInst
import HandS.Defaults
import HandS.Wide
import HandS.Gcd
import HandS.TupAny
import HandS.TupMul
import HandS.TupLe
import HandS.Style
import HandS.Comp
import HandS.Zip
import HandS.New0
import HandS.New
import HandS.HeadWalk
import KE.GoesMore
import PyProof.EnumMake
import PyProof.ExcBaseAll.ValueError
set_option Elab.async false
set_option linter.all false
/-! Q1: compact terms for a part of Python, plain data, and an evaluator. -/
namespace QQ
open PySem

/-! ### data -/
inductive D where
  | non
  | bl (b : Bool)
  | int (i : Int)
  | str (x : Str)
  | tup (ds : List D)
  | ref (n : Nat)
  | frz (ds : List D)
abbrev Env := List (Option D)
/-- what stands in the store -/
inductive Cell where
  | lst (ds : List D)
  | ins (c : Nat) (fs : List (Nat × D))
structure W where
  cs : List Cell
  lo : Nat
inductive R (α : Type) where
  | ok (a : α)
  | ex (c : Nat) (p : D) (ρ : Env) (w : W)
  | bad
def R.bind {α β : Type} (r : R α) (f : α → R β) : R β := match r with
  | .ok a => f a
  | .ex c p ρ w => .ex c p ρ w
  | .bad => .bad
/-- the exception flies from the slots ρ -/
def R.env {α : Type} (r : R α) (ρ : Env) : R α := match r with
  | .ok a => .ok a
  | .ex c p _ w => .ex c p ρ w
  | .bad => .bad
/-- no exception may leave -/
def R.calm {α : Type} (r : R α) : R α := match r with
  | .ok a => .ok a
  | .ex _ _ _ _ => .bad
  | .bad => .bad
def ofO {α : Type} : Option α → R α
  | some a => .ok a
  | none => .bad
/-! ### the store -/
def W.new (w : W) (c : Cell) : W := ⟨w.cs ++ [c], w.lo⟩
def W.put (w : W) (n : Nat) (c : Cell) : W := ⟨w.cs.set n c, min w.lo n⟩
def W.lst (w : W) (n : Nat) : Option (List D) := match w.cs[n]? with
  | some (.lst ds) => some ds
  | _ => none
/-- a new list -/
def W.mkl (w : W) (ds : List D) : D × W := (.ref w.cs.length, w.new (.lst ds))
mutual
/-- no object within -/
def flat : D → Bool
  | .tup ds => flats ds
  | .ref _ => false
  | .frz _ => false
  | .non => true
  | .bl _ => true
  | .int _ => true
  | .str _ => true
def flats : List D → Bool
  | [] => true
  | d :: ds => flat d && flats ds
end
def optAll {α : Type} : List (Option α) → Option (List α)
  | [] => some []
  | none :: _ => none
  | some x :: r => match optAll r with
    | some xs => some (x :: xs)
    | none => none
/-- as data, n deep at most -/
def toP (cs : List Cell) : Nat → D → Option PyData
  | 0, d => match d with
    | .non => some .none
    | .bl b => some (.bool b)
    | .int i => some (.int i)
    | .str x => if PyData.strOk x = true then some (.str x) else none
    | _ => none
  | n + 1, d => match d with
    | .non => some .none
    | .bl b => some (.bool b)
    | .int i => some (.int i)
    | .str x => if PyData.strOk x = true then some (.str x) else none
    | .tup ds => (optAll (ds.map (toP cs n))).map .tuple
    | .frz ds => (optAll (ds.map (toP cs n))).map .list
    | .ref i => match cs[i]? with
      | some (.lst ds) => (optAll (ds.map (toP cs n))).map .list
      | _ => none
/-- the items of a list or a tuple -/
def items (w : W) : D → Option (List D)
  | .tup ds => some ds
  | .frz ds => some ds
  | .ref n => w.lst n
  | _ => none
/-- the items of a list -/
def litems (w : W) : D → Option (List D)
  | .frz ds => some ds
  | .ref n => w.lst n
  | _ => none
/-- a list of the store -/
def isL (w : W) : D → Bool
  | .ref n => (w.lst n).isSome
  | _ => false
def cutA {α : Type} (xs : List α) (lo hi : Option Int) : List α := (xs.drop (HT.sIx xs.length 0 lo)).take (HT.sIx xs.length xs.length hi - HT.sIx xs.length 0 lo)
def putN (f : Nat) (v : D) : List (Nat × D) → List (Nat × D)
  | [] => [(f, v)]
  | (g, u) :: r => if g = f then (g, v) :: r else (g, u) :: putN f v r
def intsD : List D → Option (List Int)
  | [] => some []
  | .int i :: r => match intsD r with
    | some ns => some (i :: ns)
    | none => none
  | _ :: _ => none
def boolsD : List D → Option (List Bool)
  | [] => some []
  | .bl b :: r => match boolsD r with
    | some bs => some (b :: bs)
    | none => none
  | _ :: _ => none
def minI (i : Int) (ns : List Int) : Int := ns.foldl (fun a b => if b < a then b else a) i
def maxI (i : Int) (ns : List Int) : Int := ns.foldl (fun a b => if a < b then b else a) i

/-! ### operators -/
inductive Op2 where
  | add | sub | mul | fdiv | mod | pow
  deriving DecidableEq
inductive Cp where
  | eq | ne | lt | le | gt | ge | is | isnot | inn | notin
  deriving DecidableEq
def nb (i : Int) : Nat := i.natAbs.log2
def mulOk (i j : Int) : Bool := decide (nb i + nb j < 100000000) || (decide (nb i < 64) || decide (nb j < 64))
def divOk (i j : Int) : Bool := decide (j ≠ 0) && !Builtin.divisionGoesByPylong i j
def line : Nat := 16777216
def opInt (o : Op2) (i j : Int) : Option D := match o with
  | .add => some (.int (i + j))
  | .sub => some (.int (i - j))
  | .mul => if mulOk i j = true then some (.int (i * j)) else none
  | .fdiv => if divOk i j = true then some (.int (i.fdiv j)) else none
  | .mod => if j ≠ 0 then some (.int (i.fmod j)) else none
  | .pow => if 0 ≤ j ∧ j ≤ 1000000 ∧ i.natAbs < 2 ^ 64 then some (.int (i ^ j.toNat)) else none
def opSem (o : Op2) (x y : D) (w : W) : Option (D × W) := match x, y with
  | .int i, .int j => match opInt o i j with
    | some d => some (d, w)
    | none => none
  | .tup xs, .tup ys => if o = .add ∧ xs.length + ys.length ≤ line then some (.tup (xs ++ ys), w) else none
  | .tup xs, .int k => if o = .mul ∧ xs ≠ [] ∧ 2 ≤ k ∧ k ≤ 1000 ∧ xs.length ≤ 1000 then some (.tup (List.replicate k.toNat xs).flatten, w) else none
  | .ref a, .ref b => match w.lst a, w.lst b with
    | some xs, some ys => if o = .add ∧ xs.length + ys.length ≤ line then some (w.mkl (xs ++ ys)) else none
    | _, _ => none
  | .ref a, .int k => match w.lst a with
    | some xs => if o = .mul ∧ -(2 ^ 63) ≤ k ∧ k < 2 ^ 63 ∧ xs.length * k.toNat ≤ line then some (w.mkl (List.replicate k.toNat xs).flatten) else none
    | none => none
  | .str x, .str y => if o = .add ∧ x.length + y.length ≤ line then some (.str (x ++ y), w) else none
  | _, _ => none
/-- flat atoms for in -/
def atomB : D → Bool
  | .non => true
  | .bl _ => true
  | .int _ => true
  | .str _ => true
  | _ => false
def atomEq : D → D → Bool
  | .non, .non => true
  | .bl a, .bl b => a == b
  | .bl a, .int j => (if a then 1 else 0) == j
  | .int i, .bl b => i == (if b then 1 else 0)
  | .int i, .int j => i == j
  | .str x, .str y => x == y
  | _, _ => false
def eqSem (x y : D) (w : W) : Option Bool := match toP w.cs 60 x, toP w.cs 60 y with
  | some p, some q => some (PyData.eqv p q)
  | _, _ => none
def inSem (x y : D) (w : W) : Option Bool := match items w y with
  | some ds => if atomB x = true ∧ ds.all atomB = true then some (ds.any fun d => atomEq d x) else none
  | none => none
def cpSem (c : Cp) (x y : D) (w : W) : Option Bool := match c with
  | .eq => eqSem x y w
  | .ne => (eqSem x y w).map (!·)
  | .inn => inSem x y w
  | .notin => (inSem x y w).map (!·)
  | .is => match x, y with
    | .bl a, .bl b => some (decide (a = b))
    | .non, .non => some true
    | _, .non => some false
    | _, _ => none
  | .isnot => match x, y with
    | .bl a, .bl b => some (!decide (a = b))
    | .non, .non => some false
    | _, .non => some true
    | _, _ => none
  | .lt => match x, y with
    | .int i, .int j => some (decide (i < j))
    | _, _ => none
  | .le => match x, y with
    | .int i, .int j => some (decide (i ≤ j))
    | _, _ => none
  | .gt => match x, y with
    | .int i, .int j => some (decide (j < i))
    | _, _ => none
  | .ge => match x, y with
    | .int i, .int j => some (decide (j ≤ i))
    | _, _ => none

/-! ### built-in functions and methods -/
inductive Blt where
  | len | abs | max2 | min2 | int1 | list1 | tuple1 | all1 | any1 | gcd | fact | min1 | max1 | min0 | max0 | bool1
  deriving DecidableEq
inductive Ty where
  | int | bool | tuple | str | list
  deriving DecidableEq
def bltSem (b : Blt) (vs : List D) (w : W) : Option (D × W) := match b, vs with
  | .len, [x] => match x with
    | .str s => if s.length ≤ line then some (.int s.length, w) else none
    | _ => match items w x with
      | some ds => some (.int ds.length, w)
      | none => none
  | .abs, [.int i] => some (.int (if i < 0 then -i else i), w)
  | .max2, [.int i, .int j] => some (.int (if i < j then j else i), w)
  | .min2, [.int i, .int j] => some (.int (if j < i then j else i), w)
  | .int1, [.int i] => some (.int i, w)
  | .int1, [.bl b] => some (.int (if b then 1 else 0), w)
  | .bool1, [.int i] => some (.bl (i != 0), w)
  | .bool1, [.bl b] => some (.bl b, w)
  | .list1, [x] => match items w x with
    | some ds => some (w.mkl ds)
    | none => none
  | .tuple1, [x] => match items w x with
    | some ds => some (.tup ds, w)
    | none => none
  | .all1, [.ref n] => match (w.lst n).bind boolsD with
    | some bs => some (.bl (bs.all id), w)
    | none => none
  | .any1, [.ref n] => match (w.lst n).bind boolsD with
    | some bs => some (.bl (bs.any id), w)
    | none => none
  | .gcd, [.int i, .int j] => some (.int (Nat.gcd i.natAbs j.natAbs), w)
  | .fact, [.int i] => if 0 ≤ i ∧ i ≤ 10000 ∧ (Builtin.Math.factorialNat i.toNat).log2 < 100000000 then some (.int (Builtin.Math.factorialNat i.toNat), w) else none
  | .min1, [.ref n] => match (w.lst n).bind intsD with
    | some (i :: ns) => some (.int (minI i ns), w)
    | _ => none
  | .max1, [.ref n] => match (w.lst n).bind intsD with
    | some (i :: ns) => some (.int (maxI i ns), w)
    | _ => none
  | _, _ => none
def tyOf (w : W) : D → Option Ty
  | .bl _ => some .bool
  | .int _ => some .int
  | .str _ => some .str
  | .tup _ => some .tuple
  | .frz _ => some .list
  | .ref n => match w.cs[n]? with
    | some (.lst _) => some .list
    | _ => none
  | .non => none
/-- isinstance -/
def isiSem (t : Ty) (x : D) (w : W) : Option Bool := match x with
  | .non => some false
  | _ => match tyOf w x with
    | some u => some (decide (u = t) || (decide (u = .bool) && decide (t = .int)))
    | none => none
inductive Bm where
  | append | extend | pop0 | pop1
  deriving DecidableEq
def bmSem (b : Bm) (o : D) (vs : List D) (w : W) : Option (D × W) := match b, o, vs with
  | .append, .ref n, [x] => match w.lst n with
    | some ds => if ds.length < line then some (.non, w.put n (.lst (ds ++ [x]))) else none
    | none => none
  | .extend, .ref n, [.ref m] => match w.lst n, w.lst m with
    | some xs, some ys => if xs.length + ys.length ≤ line then some (.non, w.put n (.lst (xs ++ ys))) else none
    | _, _ => none
  | .pop0, .ref n, [] => match w.lst n with
    | some ds => match ds[ds.length - 1]? with
      | some x => some (x, w.put n (.lst ds.dropLast))
      | none => none
    | none => none
  | .pop1, .ref n, [.int i] => match w.lst n with
    | some ds => match if ds.length ≤ line then L2.ixN ds.length i else none with
      | some k => match ds[k]? with
        | some x => some (x, w.put n (.lst (ds.eraseIdx k)))
        | none => none
      | none => none
    | none => none
  | _, _, _ => none
def setSem (o i v : D) (w : W) : Option W := match o, i with
  | .ref n, .int k => match w.lst n with
    | some ds => match L2.ixN ds.length k with
      | some j => some (w.put n (.lst (ds.set j v)))
      | none => none
    | none => none
  | _, _ => none
def ixSem (o i : D) (w : W) : Option D := match o, i with
  | .str z, .int k => if z.length ≤ line then (L2.atI z.cps.toList k).map fun c => .str ⟨#[c]⟩ else none
  | _, .int k => match items w o with
    | some ds => L2.atI ds k
    | none => none
  | _, _ => none
def slSem (o : D) (lo hi : Option Int) (w : W) : Option (D × W) := match o with
  | .tup ds => some (.tup (cutA ds lo hi), w)
  | _ => match litems w o with
    | some ds => some (w.mkl (cutA ds lo hi))
    | none => none
def revSem (o : D) (w : W) : Option (D × W) := match o with
  | .tup ds => some (.tup ds.reverse, w)
  | _ => match litems w o with
    | some ds => some (w.mkl ds.reverse)
    | none => none

/-! ### terms -/
mutual
inductive E where
  | var (i : Nat)
  | cst (d : D)
  | glob (g : Nat)
  | bin (o : Op2) (a b : E)
  | neg (a : E)
  | cmp (c : Cp) (a b : E)
  | chain (c c' : Cp) (a b d : E)
  | andv (es : Es)
  | orv (es : Es)
  | notv (a : E)
  | ifx (t : T) (a b : E)
  | tup (es : Es)
  | lst (es : Es)
  | idx (a b : E)
  | slc0 (a : E)
  | slc1 (a b : E)
  | slc2 (a b : E)
  | slc3 (a b c : E)
  | rev (a : E)
  | call (f : Nat) (es : Es)
  | callk (f : Nat) (es ks : Es) (perm : List Nat)
  | make (c : Nat) (es : Es)
  | meth (o : E) (m : Nat) (es : Es)
  | fld (o : E) (f : Nat)
  | blt (b : Blt) (es : Es)
  | bltd (b : Blt) (es : Es) (dft : E)
  | isi (t : Ty) (a : E)
  | bm (b : Bm) (o : E) (es : Es)
  | comp (elt : E) (tg : Tg) (it : It) (own : List Nat) (cs : Ts)
inductive Es where
  | nil
  | cons (e : E) (es : Es)
inductive T where
  | val (e : E)
  | nt (t : T)
  | an (ts : Ts)
  | or (ts : Ts)
inductive Ts where
  | nil
  | cons (t : T) (ts : Ts)
inductive Tg where
  | nm (i : Nat)
  | tup (ts : Tgs)
  | sub (o i : E)
inductive Tgs where
  | nil
  | cons (t : Tg) (ts : Tgs)
inductive It where
  | seq (e : E)
  | rng1 (a : E)
  | rng2 (a b : E)
  | rngd (a b : E)
  | enum (a : E)
  | zip (a b : E)
end
mutual
inductive S where
  | set (i : Nat) (e : E)
  | par (is : List Nat) (es : Es)
  | asg (t : Tg) (e : E)
  | aug (i : Nat) (o : Op2) (e : E)
  | augx (o i : E) (p : Op2) (e : E)
  | fset (o : E) (f : Nat) (e : E)
  | faug (o : E) (f : Nat) (p : Op2) (e : E)
  | ex (e : E)
  | ret (e : E)
  | retN
  | ifs (t : T) (a b : Ss)
  | whl (t : T) (b : Ss)
  | for (t : Tg) (it : It) (b : Ss)
  | brk
  | cont
  | pass
  | raise (c : Nat)
  | try_ (b : Ss) (hs : Hs)
inductive Ss where
  | nil
  | cons (s : S) (ss : Ss)
inductive Hs where
  | nil
  | cons (c : Nat) (b : Ss) (hs : Hs)
end

/-! ### programs -/
structure Fn where
  x : Str
  qual : Str
  /-- a def of the module's own -/
  glob : Bool
  np : Nat
  N : List Str
  body : Ss
structure Cls where
  x : Str
  con : List (Nat × D)
  meth : List (Nat × Nat)
  init : Option Nat
  /-- the attributes of its instances -/
  flds : List Nat
structure Prog where
  fns : List Fn
  cls : List Cls
  cst : List (Str × D)
  /-- an exception class: its name, what catches it (places in this list) -/
  exc : List (Str × List Nat)
  attr : List Str
  /-- built-in names that the text does not bind; names that stand for built-in functions of modules -/
  free : List Str
  imp : List (Str × String)
  /-- calls with keywords: function, positional values, names, which value goes to which parameter -/
  kwt : List (Nat × Nat × List (Option Str) × List Nat)
  /-- other names of the module's own functions -/
  als : List (Str × Nat)
structure Ctx where
  P : Prog
  call : Nat → List D → W → R (D × W)
  L : Nat

/-! ### the evaluator -/
inductive Fl where
  | nx | bk | ct
  | rt (d : D)
/-- what is walked -/
inductive Src where
  | fix (ds : List D)
  | dyn (f : W → Option (List D))
def wipeR (ρ : Env) : List Nat → Env
  | [] => ρ
  | v :: vs => (wipeR ρ vs).set v none
/-- a turn for each item -/
def evFor (turn : D → Env → W → R (Fl × Env × W)) : List D → Env → W → R (Fl × Env × W)
  | [], ρ, w => .ok (.nx, ρ, w)
  | d :: ds, ρ, w => (turn d ρ w).bind fun r => match r.1 with
    | .nx => evFor turn ds r.2.1 r.2.2
    | .ct => evFor turn ds r.2.1 r.2.2
    | .bk => .ok (.nx, r.2.1, r.2.2)
    | .rt d => .ok (.rt d, r.2.1, r.2.2)
/-- a turn for each item of a list as it stands at the turn -/
def evLive (turn : D → Env → W → R (Fl × Env × W)) (f : W → Option (List D)) : Nat → Nat → Env → W → R (Fl × Env × W)
  | 0, _, _, _ => .bad
  | m + 1, i, ρ, w => match f w with
    | none => .bad
    | some ds => match ds[i]? with
      | none => .ok (.nx, ρ, w)
      | some d => (turn d ρ w).bind fun r => match r.1 with
        | .nx => evLive turn f m (i + 1) r.2.1 r.2.2
        | .ct => evLive turn f m (i + 1) r.2.1 r.2.2
        | .bk => .ok (.nx, r.2.1, r.2.2)
        | .rt d => .ok (.rt d, r.2.1, r.2.2)
def evSrc (turn : D → Env → W → R (Fl × Env × W)) (L : Nat) (ρ : Env) (w : W) : Src → R (Fl × Env × W)
  | .fix ds => evFor turn ds ρ w
  | .dyn f => evLive turn f L 0 ρ w
def evWhile (test : Env → W → R (Bool × W)) (body : Env → W → R (Fl × Env × W)) : Nat → Env → W → R (Fl × Env × W)
  | 0, _, _ => .bad
  | n + 1, ρ, w => (test ρ w).bind fun q => if q.1 = true then (body ρ q.2).bind fun r => match r.1 with
      | .nx => evWhile test body n r.2.1 r.2.2
      | .ct => evWhile test body n r.2.1 r.2.2
      | .bk => .ok (.nx, r.2.1, r.2.2)
      | .rt d => .ok (.rt d, r.2.1, r.2.2)
    else .ok (.nx, ρ, q.2)
/-- the items of a comprehension -/
def evComp (turn : D → W → R (Option D × W)) : List D → List D → W → R (List D × W)
  | [], acc, w => .ok (acc, w)
  | d :: ds, acc, w => (turn d w).bind fun r => match r.1 with
    | some x => if acc.length < line then evComp turn ds (acc ++ [x]) r.2 else .bad
    | none => evComp turn ds acc r.2
def evCompL (turn : D → W → R (Option D × W)) (f : W → Option (List D)) : Nat → Nat → List D → W → R (List D × W)
  | 0, _, _, _ => .bad
  | m + 1, i, acc, w => match f w with
    | none => .bad
    | some ds => match ds[i]? with
      | none => .ok (acc, w)
      | some d => (turn d w).bind fun r => match r.1 with
        | some x => if acc.length < line then evCompL turn f m (i + 1) (acc ++ [x]) r.2 else .bad
        | none => evCompL turn f m (i + 1) acc r.2
def evCompS (turn : D → W → R (Option D × W)) (L : Nat) (w : W) : Src → R (List D × W)
  | .fix ds => evComp turn ds [] w
  | .dyn f => evCompL turn f L 0 [] w
def rangeD (lo : Int) (n : Nat) : List D := (List.range n).map fun i => D.int (lo + (i : Nat))
/-- lo, lo - 1, .. -/
def rangeM (lo : Int) (n : Nat) : List D := (List.range n).map fun i => D.int (lo - (i : Nat))
def enumD (ds : List D) : Nat → List D
  | k => match ds with
    | [] => []
    | d :: r => .tup [.int k, d] :: enumD r (k + 1)
def zipD : List D → List D → List D
  | x :: xs, y :: ys => .tup [x, y] :: zipD xs ys
  | _, _ => []
def big (i : Int) : Bool := decide (-(2 ^ 62) ≤ i) && decide (i < 2 ^ 62)
def permD (vs : List D) (perm : List Nat) : Option (List D) := optAll (perm.map fun i => vs[i]?)
/-- a, b, .. = items -/
def insOf (P : Prog) (w : W) : D → Option (Nat × List (Nat × D))
  | .ref n => match w.cs[n]? with
    | some (.ins c fs) => some (c, fs)
    | _ => none
  | _ => none
def getF (P : Prog) (w : W) (o : D) (f : Nat) : Option D := match insOf P w o with
  | some (c, fs) => match P.cls[c]? with
    | some k => match fs.lookup f with
      | some d => if k.flds.contains f = true then some d else none
      | none => k.con.lookup f
    | none => none
  | none => none
def setF (P : Prog) (w : W) (o : D) (f : Nat) (v : D) : Option W := match o with
  | .ref n => match w.cs[n]? with
    | some (.ins c fs) => match P.cls[c]? with
      | some k => if k.flds.contains f = true ∧ fs.length < 1000 then some (w.put n (.ins c (putN f v fs))) else none
      | none => none
    | _ => none
  | _ => none
def methOf (P : Prog) (w : W) (o : D) (m : Nat) : Option Nat := match insOf P w o with
  | some (c, fs) => match P.cls[c]? with
    | some k => match fs.lookup m with
      | none => k.meth.lookup m
      | some _ => none
    | none => none
  | none => none
mutual
/-- the slots that a target fills -/
def tgVars : Tg → List Nat
  | .nm i => [i]
  | .tup ts => tgsVars ts
  | .sub _ _ => []
def tgsVars : Tgs → List Nat
  | .nil => []
  | .cons t ts => tgVars t ++ tgsVars ts
end
def tgsLen : Tgs → Nat
  | .nil => 0
  | .cons _ ts => tgsLen ts + 1
mutual
def evE (C : Ctx) (ρ : Env) : E → W → R (D × W)
  | .var i, w => match ρ[i]? with
    | some (some d) => .ok (d, w)
    | _ => .bad
  | .cst d, w => .ok (d, w)
  | .glob g, w => match C.P.cst[g]? with
    | some (_, d) => .ok (d, w)
    | none => .bad
  | .bin o a b, w => (evE C ρ a w).bind fun r => (evE C ρ b r.2).bind fun q => ofO (opSem o r.1 q.1 q.2)
  | .neg a, w => (evE C ρ a w).bind fun r => match r.1 with
    | .int i => .ok (.int (-i), r.2)
    | _ => .bad
  | .cmp c a b, w => (evE C ρ a w).bind fun r => (evE C ρ b r.2).bind fun q => match cpSem c r.1 q.1 q.2 with
    | some k => .ok (.bl k, q.2)
    | none => .bad
  | .chain c c' a b d, w => (evE C ρ a w).bind fun r => (evE C ρ b r.2).bind fun q => match cpSem c r.1 q.1 q.2 with
    | some true => (evE C ρ d q.2).bind fun p => match cpSem c' q.1 p.1 p.2 with
      | some k => .ok (.bl k, p.2)
      | none => .bad
    | some false => .ok (.bl false, q.2)
    | none => .bad
  | .andv es, w => evAnd C ρ es w
  | .orv es, w => evOr C ρ es w
  | .notv a, w => (evE C ρ a w).bind fun r => match r.1 with
    | .bl k => .ok (.bl (!k), r.2)
    | _ => .bad
  | .ifx t a b, w => (evT C ρ t w).bind fun r => if r.1 = true then evE C ρ a r.2 else evE C ρ b r.2
  | .tup es, w => (evEs C ρ es w).bind fun r => if r.1.length ≤ line then .ok (.tup r.1, r.2) else .bad
  | .lst es, w => (evEs C ρ es w).bind fun r => if r.1.length ≤ line then .ok (r.2.mkl r.1) else .bad
  | .idx a b, w => (evE C ρ a w).bind fun r => (evE C ρ b r.2).bind fun q => match ixSem r.1 q.1 q.2 with
    | some d => .ok (d, q.2)
    | none => .bad
  | .slc0 a, w => (evE C ρ a w).bind fun r => ofO (slSem r.1 none none r.2)
  | .slc1 a b, w => (evE C ρ a w).bind fun r => (evE C ρ b r.2).bind fun q => match q.1 with
    | .int i => ofO (slSem r.1 (some i) none q.2)
    | _ => .bad
  | .slc2 a b, w => (evE C ρ a w).bind fun r => (evE C ρ b r.2).bind fun q => match q.1 with
    | .int j => ofO (slSem r.1 none (some j) q.2)
    | _ => .bad
  | .slc3 a b c, w => (evE C ρ a w).bind fun r => (evE C ρ b r.2).bind fun q => match q.1 with
    | .int i => (evE C ρ c q.2).bind fun p => match p.1 with
      | .int j => ofO (slSem r.1 (some i) (some j) p.2)
      | _ => .bad
    | _ => .bad
  | .rev a, w => (evE C ρ a w).bind fun r => ofO (revSem r.1 r.2)
  | .call f es, w => (evEs C ρ es w).bind fun r => (C.call f r.1 r.2).env ρ
  | .callk f es ks perm, w => (evEs C ρ es w).bind fun r => (evEs C ρ ks r.2).bind fun q => match permD (r.1 ++ q.1) perm with
    | some vs => (C.call f vs q.2).env ρ
    | none => .bad
  | .make c es, w => (evEs C ρ es w).bind fun r => match C.P.cls[c]? with
    | some k => match k.init with
      | some f => ((C.call f (.ref r.2.cs.length :: r.1) (r.2.new (.ins c []))).env ρ).bind fun q => match q.1 with
        | .non => .ok (.ref r.2.cs.length, q.2)
        | _ => .bad
      | none => if r.1.isEmpty = true then .ok (.ref r.2.cs.length, r.2.new (.ins c [])) else .bad
    | none => .bad
  | .meth o m es, w => (evE C ρ o w).bind fun r => match methOf C.P r.2 r.1 m with
    | some f => (evEs C ρ es r.2).bind fun q => (C.call f (r.1 :: q.1) q.2).env ρ
    | none => .bad
  | .fld o f, w => (evE C ρ o w).bind fun r => match getF C.P r.2 r.1 f with
    | some d => .ok (d, r.2)
    | none => .bad
  | .blt b es, w => (evEs C ρ es w).bind fun r => ofO (bltSem b r.1 r.2)
  | .bltd b es dft, w => (evEs C ρ es w).bind fun r => (evE C ρ dft r.2).bind fun q => match b, r.1 with
    | .min1, [.ref n] => match (q.2.lst n).bind intsD with
      | some [] => .ok q
      | some (i :: ns) => .ok (.int (minI i ns), q.2)
      | none => .bad
    | .max1, [.ref n] => match (q.2.lst n).bind intsD with
      | some [] => .ok q
      | some (i :: ns) => .ok (.int (maxI i ns), q.2)
      | none => .bad
    | _, _ => .bad
  | .isi t a, w => (evE C ρ a w).bind fun r => match isiSem t r.1 r.2 with
    | some k => .ok (.bl k, r.2)
    | none => .bad
  | .bm b o es, w => (evE C ρ o w).bind fun r => if isL r.2 r.1 = true then (evEs C ρ es r.2).bind fun q => ofO (bmSem b r.1 q.1 q.2) else .bad
  | .comp elt tg it own cs, w => (evIt C ρ it w).bind fun s => (R.calm (evCompS (fun d w => (evTg C tg d (wipeR ρ own) w).bind fun r => (evAll C r.1 cs r.2).bind fun k =>
      if k.1 = true then (evE C r.1 elt k.2).bind fun q => .ok (some q.1, q.2) else .ok (none, k.2)) C.L s.2 s.1)).bind fun r => .ok (r.2.mkl r.1)
def evEs (C : Ctx) (ρ : Env) : Es → W → R (List D × W)
  | .nil, w => .ok ([], w)
  | .cons e es, w => (evE C ρ e w).bind fun r => (evEs C ρ es r.2).bind fun q => .ok (r.1 :: q.1, q.2)
def evAnd (C : Ctx) (ρ : Env) : Es → W → R (D × W)
  | .nil, _ => .bad
  | .cons e es, w => match es with
    | .nil => evE C ρ e w
    | es => (evE C ρ e w).bind fun r => match r.1 with
      | .bl true => evAnd C ρ es r.2
      | .bl false => .ok (.bl false, r.2)
      | _ => .bad
def evOr (C : Ctx) (ρ : Env) : Es → W → R (D × W)
  | .nil, _ => .bad
  | .cons e es, w => match es with
    | .nil => evE C ρ e w
    | es => (evE C ρ e w).bind fun r => match r.1 with
      | .bl false => evOr C ρ es r.2
      | .bl true => .ok (.bl true, r.2)
      | _ => .bad
def evT (C : Ctx) (ρ : Env) : T → W → R (Bool × W)
  | .val e, w => (evE C ρ e w).bind fun r => match r.1 with
    | .bl k => .ok (k, r.2)
    | _ => .bad
  | .nt t, w => (evT C ρ t w).bind fun r => .ok (!r.1, r.2)
  | .an ts, w => evAll C ρ ts w
  | .or ts, w => evAny C ρ ts w
def evAll (C : Ctx) (ρ : Env) : Ts → W → R (Bool × W)
  | .nil, w => .ok (true, w)
  | .cons t ts, w => (evT C ρ t w).bind fun r => if r.1 = true then evAll C ρ ts r.2 else .ok (false, r.2)
def evAny (C : Ctx) (ρ : Env) : Ts → W → R (Bool × W)
  | .nil, w => .ok (false, w)
  | .cons t ts, w => (evT C ρ t w).bind fun r => if r.1 = true then .ok (true, r.2) else evAny C ρ ts r.2
def evTg (C : Ctx) : Tg → D → Env → W → R (Env × W)
  | .nm i, d, ρ, w => .ok (ρ.set i (some d), w)
  | .tup ts, d, ρ, w => match items w d with
    | some ds => if ds.length = tgsLen ts then evTgs C ts ds ρ w else .bad
    | none => .bad
  | .sub o i, d, ρ, w => (R.calm (evE C ρ o w)).bind fun r => (R.calm (evE C ρ i r.2)).bind fun q => match setSem r.1 q.1 d q.2 with
    | some w' => .ok (ρ, w')
    | none => .bad
def evTgs (C : Ctx) : Tgs → List D → Env → W → R (Env × W)
  | .nil, ds, ρ, w => match ds with
    | [] => .ok (ρ, w)
    | _ :: _ => .bad
  | .cons t ts, ds, ρ, w => match ds with
    | d :: ds => (evTg C t d ρ w).bind fun r => evTgs C ts ds r.1 r.2
    | [] => .bad
def evIt (C : Ctx) (ρ : Env) : It → W → R (Src × W)
  | .seq e, w => (evE C ρ e w).bind fun r => match r.1 with
    | .tup ds => .ok (.fix ds, r.2)
    | .frz ds => .ok (.fix ds, r.2)
    | .ref n => match r.2.lst n with
      | some _ => .ok (.dyn fun w => w.lst n, r.2)
      | none => .bad
    | _ => .bad
  | .rng1 a, w => (evE C ρ a w).bind fun r => match r.1 with
    | .int j => if big j = true then .ok (.fix (rangeD 0 j.toNat), r.2) else .bad
    | _ => .bad
  | .rng2 a b, w => (evE C ρ a w).bind fun r => (evE C ρ b r.2).bind fun q => match r.1, q.1 with
    | .int i, .int j => if big i = true ∧ big j = true then .ok (.fix (rangeD i (j - i).toNat), q.2) else .bad
    | _, _ => .bad
  | .rngd a b, w => (evE C ρ a w).bind fun r => (evE C ρ b r.2).bind fun q => match r.1, q.1 with
    | .int i, .int j => if big i = true ∧ big j = true then .ok (.fix (rangeM i (i - j).toNat), q.2) else .bad
    | _, _ => .bad
  | .enum a, w => (evE C ρ a w).bind fun r => match r.1 with
    | .frz ds => .ok (.fix (enumD ds 0), r.2)
    | .tup ds => .ok (.fix (enumD ds 0), r.2)
    | .ref n => match r.2.lst n with
      | some _ => .ok (.dyn fun w => (w.lst n).map fun ds => enumD ds 0, r.2)
      | none => .bad
    | _ => .bad
  | .zip a b, w => (evE C ρ a w).bind fun r => (evE C ρ b r.2).bind fun q => match r.1, q.1 with
    | .tup xs, .tup ys => .ok (.fix (zipD xs ys), q.2)
    | .ref n, .ref m => match q.2.lst n, q.2.lst m with
      | some _, some _ => .ok (.dyn fun w => match w.lst n, w.lst m with
        | some xs, some ys => some (zipD xs ys)
        | _, _ => none, q.2)
      | _, _ => .bad
    | _, _ => .bad
end
/-- a handler that catches -/
def catches (P : Prog) (c c' : Nat) : Option Bool := match P.exc[c]? with
  | some (_, anc) => if c' < P.exc.length then some (anc.contains c') else none
  | none => none
def setAll (ρ : Env) : List (Nat × D) → Env
  | [] => ρ
  | (i, d) :: r => setAll (ρ.set i (some d)) r
/-- an augmented operator of two ints -/
def opAug (o : Op2) (i j : Int) : Option D := if o = .pow then none else opInt o i j
mutual
def evS (C : Ctx) : S → Env → W → R (Fl × Env × W)
  | .set i e, ρ, w => ((evE C ρ e w).env ρ).bind fun r => .ok (.nx, ρ.set i (some r.1), r.2)
  | .par is es, ρ, w => ((evEs C ρ es w).env ρ).bind fun r => if r.1.length = is.length then .ok (.nx, setAll ρ (is.zip r.1), r.2) else .bad
  | .asg t e, ρ, w => ((evE C ρ e w).env ρ).bind fun r => (R.calm (evTg C t r.1 ρ r.2)).bind fun q => .ok (.nx, q.1, q.2)
  | .aug i o e, ρ, w => match ρ[i]? with
    | some (some x) => ((evE C ρ e w).env ρ).bind fun r => match x, r.1 with
      | .int a, .int b => match opAug o a b with
        | some d => .ok (.nx, ρ.set i (some d), r.2)
        | none => .bad
      | _, _ => .bad
    | _ => .bad
  | .augx _ _ _ _, _, _ => .bad
  | .fset o f e, ρ, w => ((evE C ρ e w).env ρ).bind fun r => ((evE C ρ o r.2).env ρ).bind fun q => match setF C.P q.2 q.1 f r.1 with
    | some w' => .ok (.nx, ρ, w')
    | none => .bad
  | .faug o f p e, ρ, w => ((evE C ρ o w).env ρ).bind fun a => match insOf C.P a.2 a.1 with
    | some _ => match getF C.P a.2 a.1 f with
      | some (.int n) => ((evE C ρ e a.2).env ρ).bind fun r => match r.1 with
        | .int m => match opAug p n m with
          | some d => match setF C.P r.2 a.1 f d with
            | some w' => .ok (.nx, ρ, w')
            | none => .bad
          | none => .bad
        | _ => .bad
      | _ => .bad
    | none => .bad
  | .ex e, ρ, w => ((evE C ρ e w).env ρ).bind fun r => .ok (.nx, ρ, r.2)
  | .ret e, ρ, w => ((evE C ρ e w).env ρ).bind fun r => .ok (.rt r.1, ρ, r.2)
  | .retN, ρ, w => .ok (.rt .non, ρ, w)
  | .ifs t a b, ρ, w => ((evT C ρ t w).env ρ).bind fun r => if r.1 = true then evSs C a ρ r.2 else evSs C b ρ r.2
  | .whl t b, ρ, w => evWhile (fun ρ w => (evT C ρ t w).env ρ) (fun ρ w => evSs C b ρ w) C.L ρ w
  | .for t it b, ρ, w => ((evIt C ρ it w).env ρ).bind fun s => evSrc (fun d ρ w => (R.calm (evTg C t d ρ w)).bind fun r => evSs C b r.1 r.2) C.L ρ s.2 s.1
  | .brk, ρ, w => .ok (.bk, ρ, w)
  | .cont, ρ, w => .ok (.ct, ρ, w)
  | .pass, ρ, w => .ok (.nx, ρ, w)
  | .raise c, ρ, w => .ex c .non ρ w
  | .try_ b hs, ρ, w => match evSs C b ρ w with
    | .ok r => .ok r
    | .ex c p ρ' w' => evHs C hs c p ρ' w'
    | .bad => .bad
def evSs (C : Ctx) : Ss → Env → W → R (Fl × Env × W)
  | .nil, ρ, w => .ok (.nx, ρ, w)
  | .cons s ss, ρ, w => (evS C s ρ w).bind fun r => match r.1 with
    | .nx => evSs C ss r.2.1 r.2.2
    | .rt d => .ok (.rt d, r.2.1, r.2.2)
    | .bk => .ok (.bk, r.2.1, r.2.2)
    | .ct => .ok (.ct, r.2.1, r.2.2)
def evHs (C : Ctx) : Hs → Nat → D → Env → W → R (Fl × Env × W)
  | .nil, c, p, ρ, w => .ex c p ρ w
  | .cons c' b hs, c, p, ρ, w => match catches C.P c c' with
    | some true => evSs C b ρ w
    | some false => evHs C hs c p ρ w
    | none => .bad
end
/-- behind a call: what the call made goes where nobody can hold it -/
def cutW (w w' : W) (f : Bool) : W := if w.cs.length ≤ w'.lo ∧ f = true then ⟨w'.cs.take w.cs.length, w.lo⟩ else ⟨w'.cs, min w.lo w'.lo⟩
def fin (w : W) : R (Fl × Env × W) → R (D × W)
  | .ok (.rt d, _, w') => .ok (d, cutW w w' (flat d))
  | .ok (.nx, _, w') => .ok (.non, cutW w w' true)
  | .ok _ => .bad
  | .ex c p _ w' => .ex c p [] (cutW w w' (flat p))
  | .bad => .bad
/-- the function f, k calls deep at most -/
def fnS (P : Prog) (L : Nat) : Nat → Nat → List D → W → R (D × W)
  | 0, _, _, _ => .bad
  | k + 1, f, vs, w => match P.fns[f]? with
    | some F => if vs.length = F.np then fin w (evSs ⟨P, fnS P L k, L⟩ F.body (vs.map some ++ List.replicate (F.N.length - vs.length) none) ⟨w.cs, w.cs.length⟩) else .bad
    | none => .bad
end QQ

set_option Elab.async false
set_option linter.all false
set_option maxRecDepth 100000
/-! Q2: what plain data stands for in the abstract heap; steps. -/
namespace QQ
open PySem PySem.Spec PyProof.Rows L2

theorem sat_def_dummy : True := trivial
def R.sat {α : Type} (r : R α) (Φ : α → Prop) (X : Nat → D → Env → W → Prop) : Prop := match r with
  | .ok a => Φ a
  | .ex c p ρ w => X c p ρ w
  | .bad => False
theorem sat_bind {α β : Type} {r : R α} {f : α → R β} {Φ : β → Prop} {X : Nat → D → Env → W → Prop} : (r.bind f).sat Φ X = r.sat (fun a => (f a).sat Φ X) X := by
  cases r <;> rfl
theorem sat_mono {α : Type} {r : R α} {Φ Φ' : α → Prop} {X X' : Nat → D → Env → W → Prop} (h : r.sat Φ X) (f : ∀ a, Φ a → Φ' a) (g : ∀ c p ρ w, X c p ρ w → X' c p ρ w) : r.sat Φ' X' := by
  cases r with
  | ok a => exact f a h
  | ex c p ρ w => exact g c p ρ w h
  | bad => exact h
theorem sat_env {α : Type} {r : R α} {ρ : Env} {Φ : α → Prop} {X : Nat → D → Env → W → Prop} : (r.env ρ).sat Φ X = r.sat Φ (fun c p _ w => X c p ρ w) := by
  cases r <;> rfl
theorem sat_ofO {α : Type} {o : Option α} {Φ : α → Prop} {X : Nat → D → Env → W → Prop} (h : (ofO o).sat Φ X) : ∃ a, o = some a ∧ Φ a := by
  cases o with
  | none => exact h.elim
  | some a => exact ⟨a, rfl, h⟩
theorem sat_calm {α : Type} {r : R α} {Φ : α → Prop} {X X' : Nat → D → Env → W → Prop} (h : r.calm.sat Φ X) : r.sat Φ X' := by
  cases r with
  | ok a => exact h
  | ex c p ρ w => exact h.elim
  | bad => exact h

/-- a list that nobody writes -/
def FrzL (K : PySem.W.Frag) (H : Hp) (a : Addr) (xs : List V) : Prop := (∃ o, H a = some (.frz o (.lst xs))) ∨
  ∃ (o : Obj) (its : Array Value) (n : Nat), K.lookup a = some o ∧ o.cls = .type "list" ∧ o.dict = none ∧ o.data = .seq its n ∧ its.size ≤ sizeLine ∧ Vals xs its.toList
theorem FrzL.sq {K : PySem.W.Frag} {H : Hp} {a : Addr} {xs : List V} (h : FrzL K H a xs) : SqL K H a xs := by
  rcases h with h | h
  · exact .inl (.inr h)
  · exact .inr h
mutual
inductive Rep (K : PySem.W.Frag) (η : List Addr) (H : Hp) : D → V → Prop
  | non : Rep K η H .non .non
  | bl (b : Bool) : Rep K η H (.bl b) (.bl b)
  | int (i : Int) : Rep K η H (.int i) (.int i)
  | str (x : Str) : Rep K η H (.str x) (.str x)
  | tup {a : Addr} {vs : List V} {ds : List D} : SqT K H a vs → RepAll K η H ds vs → Rep K η H (.tup ds) (.ref a)
  | ref {n : Nat} {a : Addr} : η[n]? = some a → Rep K η H (.ref n) (.ref a)
  | frz {a : Addr} {vs : List V} {ds : List D} : FrzL K H a vs → RepAll K η H ds vs → Rep K η H (.frz ds) (.ref a)
inductive RepAll (K : PySem.W.Frag) (η : List Addr) (H : Hp) : List D → List V → Prop
  | nil : RepAll K η H [] []
  | cons {d : D} {v : V} {ds : List D} {vs : List V} : Rep K η H d v → RepAll K η H ds vs → RepAll K η H (d :: ds) (v :: vs)
end
theorem nodup_at {α : Type} : ∀ {l : List α} {i j : Nat} {x : α}, l.Nodup → l[i]? = some x → l[j]? = some x → i = j
  | [], _, _, _, _, h, _ => by simp at h
  | _ :: _, 0, 0, _, _, _, _ => rfl
  | a :: l, 0, j + 1, x, n, h1, h2 => by
    simp at h1 h2
    subst h1
    exact absurd (List.mem_of_getElem? h2) (List.nodup_cons.mp n).1
  | a :: l, i + 1, 0, x, n, h1, h2 => by
    simp at h1 h2
    subst h2
    exact absurd (List.mem_of_getElem? h1) (List.nodup_cons.mp n).1
  | a :: l, i + 1, j + 1, x, n, h1, h2 => by
    simp at h1 h2
    rw [nodup_at (List.nodup_cons.mp n).2 h1 h2]
/-- things that never change -/
def imm : HO → Bool
  | .tup _ => true
  | .frz _ _ => true
  | _ => false
def Stay (H H' : Hp) : Prop := ∀ a o, H a = some o → imm o = true → H' a = some o
def Pre (η η' : List Addr) : Prop := ∀ (n : Nat) (a : Addr), η[n]? = some a → η'[n]? = some a
theorem Stay.refl (H : Hp) : Stay H H := fun _ _ h _ => h
theorem Stay.trans {H H1 H2 : Hp} (a : Stay H H1) (b : Stay H1 H2) : Stay H H2 := fun c o h i => b c o (a c o h i) i
theorem Pre.refl (η : List Addr) : Pre η η := fun _ _ h => h
theorem Pre.trans {η η1 η2 : List Addr} (a : Pre η η1) (b : Pre η1 η2) : Pre η η2 := fun n c h => b n c (a n c h)
section
variable {K : PySem.W.Frag} {η η' : List Addr} {H H' : Hp}
theorem sqT_stay {a : Addr} {xs : List V} (h : SqT K H a xs) (s : Stay H H') : SqT K H' a xs := by
  rcases h with (h | ⟨o, h⟩) | h
  · exact .inl (.inl (s _ _ h rfl))
  · exact .inl (.inr ⟨o, s _ _ h rfl⟩)
  · exact .inr h
theorem frzL_stay {a : Addr} {xs : List V} (h : FrzL K H a xs) (s : Stay H H') : FrzL K H' a xs := by
  rcases h with ⟨o, h⟩ | h
  · exact .inl ⟨o, s _ _ h rfl⟩
  · exact .inr h
mutual
theorem Rep.mono (s : Stay H H') (p : Pre η η') : ∀ {d : D} {v : V}, Rep K η H d v → Rep K η' H' d v
  | _, _, .non => .non
  | _, _, .bl b => .bl b
  | _, _, .int i => .int i
  | _, _, .str x => .str x
  | _, _, .tup q r => .tup (sqT_stay q s) (RepAll.mono s p r)
  | _, _, .ref e => .ref (p _ _ e)
  | _, _, .frz q r => .frz (frzL_stay q s) (RepAll.mono s p r)
theorem RepAll.mono (s : Stay H H') (p : Pre η η') : ∀ {ds : List D} {vs : List V}, RepAll K η H ds vs → RepAll K η' H' ds vs
  | _, _, .nil => .nil
  | _, _, .cons a b => .cons (Rep.mono s p a) (RepAll.mono s p b)
end
theorem RepAll.length : ∀ {ds : List D} {vs : List V}, RepAll K η H ds vs → ds.length = vs.length
  | _, _, .nil => rfl
  | _, _, .cons _ b => by simp [RepAll.length b]
theorem RepAll.get : ∀ {ds : List D} {vs : List V} {i : Nat} {d : D}, RepAll K η H ds vs → ds[i]? = some d → ∃ v, vs[i]? = some v ∧ Rep K η H d v
  | _, _, _, _, .nil, h => by simp at h
  | _, _, 0, _, .cons a _, h => by simp at h; subst h; exact ⟨_, rfl, a⟩
  | _, _, i + 1, d, .cons _ b, h => by
    obtain ⟨v, h1, h2⟩ := RepAll.get (i := i) (d := d) b (by simpa using h)
    exact ⟨v, by simpa using h1, h2⟩
theorem RepAll.getV : ∀ {ds : List D} {vs : List V} {i : Nat} {v : V}, RepAll K η H ds vs → vs[i]? = some v → ∃ d, ds[i]? = some d ∧ Rep K η H d v
  | _, _, _, _, .nil, h => by simp at h
  | _, _, 0, _, .cons a _, h => by simp at h; subst h; exact ⟨_, rfl, a⟩
  | _, _, i + 1, d, .cons _ b, h => by
    obtain ⟨v, h1, h2⟩ := RepAll.getV (i := i) (v := d) b (by simpa using h)
    exact ⟨v, by simpa using h1, h2⟩
theorem RepAll.append : ∀ {ds es : List D} {vs ws : List V}, RepAll K η H ds vs → RepAll K η H es ws → RepAll K η H (ds ++ es) (vs ++ ws)
  | _, _, _, _, .nil, h => h
  | _, _, _, _, .cons a b, h => .cons a (RepAll.append b h)
theorem RepAll.take : ∀ {ds : List D} {vs : List V} (n : Nat), RepAll K η H ds vs → RepAll K η H (ds.take n) (vs.take n)
  | _, _, 0, _ => .nil
  | _, _, _ + 1, .nil => .nil
  | _, _, n + 1, .cons a b => .cons a (RepAll.take n b)
theorem RepAll.drop : ∀ {ds : List D} {vs : List V} (n : Nat), RepAll K η H ds vs → RepAll K η H (ds.drop n) (vs.drop n)
  | _, _, 0, h => h
  | _, _, _ + 1, .nil => .nil
  | _, _, n + 1, .cons _ b => RepAll.drop n b
theorem RepAll.set {d : D} {v : V} (r : Rep K η H d v) : ∀ {ds : List D} {vs : List V} (i : Nat), RepAll K η H ds vs → RepAll K η H (ds.set i d) (vs.set i v)
  | _, _, _, .nil => .nil
  | _, _, 0, .cons _ b => .cons r b
  | _, _, i + 1, .cons a b => .cons a (RepAll.set r i b)
theorem RepAll.reverse {ds : List D} {vs : List V} (h : RepAll K η H ds vs) : RepAll K η H ds.reverse vs.reverse := by
  induction ds generalizing vs with
  | nil => cases h; exact .nil
  | cons d ds ih =>
    cases h with
    | cons a b =>
      rw [List.reverse_cons, List.reverse_cons]
      exact (ih b).append (.cons a .nil)
theorem RepAll.erase : ∀ {ds : List D} {vs : List V} (i : Nat), RepAll K η H ds vs → RepAll K η H (ds.eraseIdx i) (vs.eraseIdx i)
  | _, _, _, .nil => .nil
  | _, _, 0, .cons _ b => b
  | _, _, i + 1, .cons a b => .cons a (RepAll.erase i b)
theorem RepAll.dropLast : ∀ {ds : List D} {vs : List V}, RepAll K η H ds vs → RepAll K η H ds.dropLast vs.dropLast := fun {ds vs} h => by
  rw [List.dropLast_eq_take, List.dropLast_eq_take, h.length]
  exact h.take _
theorem RepAll.rep {ds : List D} {vs : List V} (h : RepAll K η H ds vs) : ∀ k : Nat, RepAll K η H (List.replicate k ds).flatten (List.replicate k vs).flatten
  | 0 => .nil
  | k + 1 => by
    rw [List.replicate_succ, List.replicate_succ, List.flatten_cons, List.flatten_cons]
    exact h.append (RepAll.rep h k)
theorem RepAll.cut {ds : List D} {vs : List V} (h : RepAll K η H ds vs) (lo hi : Option Int) : RepAll K η H (cutA ds lo hi) (cutV vs lo hi) := by
  unfold cutA cutV
  rw [h.length]
  exact (h.drop _).take _
end
/-! ### the store -/
section
variable (K : PySem.W.Frag) (ca : Nat → Addr) (nm : List Str)
inductive FRep (η : List Addr) (H : Hp) : List (Nat × D) → List (Str × V) → Prop
  | nil : FRep η H [] []
  | cons {f : Nat} {x : Str} {d : D} {v : V} {fs : List (Nat × D)} {vs : List (Str × V)} : nm[f]? = some x → Rep K η H d v → FRep η H fs vs → FRep η H ((f, d) :: fs) ((x, v) :: vs)
def CRep (η : List Addr) (H : Hp) (a : Addr) : Cell → Prop
  | .lst ds => ∃ vs, H a = some (.lst vs) ∧ RepAll K η H ds vs
  | .ins c fs => ∃ dx vs, H a = some (.ins (ca c) dx vs) ∧ FRep K nm η H fs vs
structure Sim (η : List Addr) (cs : List Cell) (H : Hp) : Prop where
  len : η.length = cs.length
  nd : η.Nodup
  cell : ∀ (n : Nat) (c : Cell) (a : Addr), cs[n]? = some c → η[n]? = some a → CRep K ca nm η H a c
/-- what an evaluation does to the heap -/
structure Step (η : List Addr) (w : W) (H : Hp) (η' : List Addr) (w' : W) (H' : Hp) : Prop where
  sim : Sim K ca nm η' w'.cs H'
  pre : ∃ t, η' = η ++ t
  fr : ∀ (a : Addr) (o : HO), H a = some o → a ∉ η → H' a = some o
  new : ∀ (a : Addr), a ∈ η' → a ∉ η → H a = none
  lo : w'.lo ≤ w.lo
  old : ∀ (i : Nat), i < w'.lo → i < w.cs.length → w'.cs[i]? = w.cs[i]?
end
section
variable {K : PySem.W.Frag} {ca : Nat → Addr} {nm : List Str} {η η1 η2 : List Addr} {w w1 w2 : W} {H H1 H2 : Hp}
theorem FRep.mono (s : Stay H H1) (p : Pre η η1) : ∀ {fs : List (Nat × D)} {vs : List (Str × V)}, FRep K nm η H fs vs → FRep K nm η1 H1 fs vs
  | _, _, .nil => .nil
  | _, _, .cons e a b => .cons e (a.mono s p) (FRep.mono s p b)
theorem FRep.look (nd : nm.Nodup) {f : Nat} {x : Str} (hx : nm[f]? = some x) : ∀ {fs : List (Nat × D)} {vs : List (Str × V)}, FRep K nm η H fs vs → (∀ d, fs.lookup f = some d → ∃ v, vs.lookup x = some v ∧ Rep K η H d v) ∧ (fs.lookup f = none → vs.lookup x = none)
  | _, _, .nil => ⟨fun d h => by simp at h, fun _ => rfl⟩
  | _, _, .cons (f := g) (x := y) (d := e) (v := u) (fs := fs) (vs := vs) hy a b => by
    obtain ⟨h1, h2⟩ := FRep.look nd hx b
    by_cases c : f = g
    · subst c
      have e1 : x = y := Option.some.inj (hx.symm.trans hy)
      subst e1
      refine ⟨fun d h => ?_, fun h => ?_⟩
      · rw [List.lookup_cons_self] at h
        cases h
        exact ⟨u, List.lookup_cons_self, a⟩
      · rw [List.lookup_cons_self] at h
        cases h
    · have c2 : x ≠ y := fun z => c (nodup_at nd hx (by rw [z]; exact hy))
      have q1 : (f == g) = false := by simpa using c
      have q2 : (x == y) = false := by simpa using c2
      refine ⟨fun d h => ?_, fun h => ?_⟩
      · rw [List.lookup_cons, q1] at h
        rw [List.lookup_cons, q2]
        exact h1 d h
      · rw [List.lookup_cons, q1] at h
        rw [List.lookup_cons, q2]
        exact h2 h
theorem FRep.put (nd : nm.Nodup) {f : Nat} {x : Str} (hx : nm[f]? = some x) {d : D} {v : V} (r : Rep K η H d v) : ∀ {fs : List (Nat × D)} {vs : List (Str × V)}, FRep K nm η H fs vs → FRep K nm η H (putN f d fs) (L2.putF x v vs)
  | _, _, .nil => .cons hx r .nil
  | _, _, .cons (f := g) (x := y) (d := e) (v := u) (fs := fs) (vs := vs) hy a b => by
    unfold putN L2.putF
    by_cases c : g = f
    · subst c
      have e1 : y = x := Option.some.inj (hy.symm.trans hx)
      subst e1
      rw [if_pos rfl]
      first
        | (rw [if_pos rfl]; exact .cons hy r b)
        | (simp only [beq_self_eq_true, if_true]; exact .cons hy r b)
    · have c2 : y ≠ x := fun z => c (nodup_at nd hy (by rw [z]; exact hx))
      rw [if_neg c]
      first
        | (rw [if_neg c2]; exact .cons hy a (FRep.put nd hx r b))
        | (rw [if_neg (Ne.symm c2)]; exact .cons hy a (FRep.put nd hx r b))
theorem FRep.length : ∀ {fs : List (Nat × D)} {vs : List (Str × V)}, FRep K nm η H fs vs → fs.length = vs.length
  | _, _, .nil => rfl
  | _, _, .cons _ _ b => by simp [FRep.length b]
theorem Sim.at {cs : List Cell} (S : Sim K ca nm η cs H) {n : Nat} {c : Cell} (h : cs[n]? = some c) : ∃ a, η[n]? = some a ∧ CRep K ca nm η H a c := by
  have hn : n < η.length := by rw [S.len]; exact (List.getElem?_eq_some_iff.mp h).1
  exact ⟨η[n], List.getElem?_eq_getElem hn, S.cell n c _ h (List.getElem?_eq_getElem hn)⟩
theorem Sim.at' {cs : List Cell} (S : Sim K ca nm η cs H) {a : Addr} (h : a ∈ η) : ∃ (n : Nat) (c : Cell), cs[n]? = some c ∧ η[n]? = some a ∧ CRep K ca nm η H a c := by
  obtain ⟨n, hn, e⟩ := List.mem_iff_getElem.mp h
  have hc : n < cs.length := by rw [← S.len]; exact hn
  have e2 : η[n]? = some a := by rw [List.getElem?_eq_getElem hn, e]
  exact ⟨n, cs[n], List.getElem?_eq_getElem hc, e2, S.cell n _ a (List.getElem?_eq_getElem hc) e2⟩
theorem CRep.not_imm {a : Addr} {c : Cell} (h : CRep K ca nm η H a c) : ∃ o, H a = some o ∧ imm o = false := by
  cases c with
  | lst ds => obtain ⟨vs, e, _⟩ := h; exact ⟨_, e, rfl⟩
  | ins c fs => obtain ⟨dx, vs, e, _⟩ := h; exact ⟨_, e, rfl⟩
theorem Sim.notIn {cs : List Cell} (S : Sim K ca nm η cs H) {a : Addr} {o : HO} (h : H a = some o) (i : imm o = true) : a ∉ η := fun z => by
  obtain ⟨n, c, _, _, r⟩ := S.at' z
  obtain ⟨o', e, i'⟩ := r.not_imm
  rw [h] at e
  cases e
  rw [i] at i'
  cases i'
theorem Sim.out {cs : List Cell} (S : Sim K ca nm η cs H) {a : Addr} (h : H a = none) : a ∉ η := fun z => by
  obtain ⟨n, c, _, _, r⟩ := S.at' z
  obtain ⟨o', e, _⟩ := r.not_imm
  rw [h] at e
  cases e
theorem Step.prefix (s : Step K ca nm η w H η1 w1 H1) : Pre η η1 := fun n a h => by
  obtain ⟨t, e⟩ := s.pre
  rw [e, List.getElem?_append_left (List.getElem?_eq_some_iff.mp h).1]
  exact h
theorem Step.stay (s : Step K ca nm η w H η1 w1 H1) (S : Sim K ca nm η w.cs H) : Stay H H1 := fun a o h i => s.fr a o h (S.notIn h i)
theorem Step.refl (S : Sim K ca nm η w.cs H) : Step K ca nm η w H η w H :=
  ⟨S, ⟨[], by simp⟩, fun _ _ h _ => h, fun a h n => absurd h n, Nat.le_refl _, fun _ _ _ => rfl⟩
theorem Step.memPre (s : Step K ca nm η w H η1 w1 H1) {a : Addr} (h : a ∈ η) : a ∈ η1 := by
  obtain ⟨t, e⟩ := s.pre
  rw [e]
  exact List.mem_append_left _ h
theorem Step.len (s : Step K ca nm η w H η1 w1 H1) (S : Sim K ca nm η w.cs H) : w.cs.length ≤ w1.cs.length := by
  obtain ⟨t, e⟩ := s.pre
  have h1 := S.len
  have h2 := s.sim.len
  rw [e, List.length_append] at h2
  omega
theorem Step.trans (S : Sim K ca nm η w.cs H) (a : Step K ca nm η w H η1 w1 H1) (b : Step K ca nm η1 w1 H1 η2 w2 H2) : Step K ca nm η w H η2 w2 H2 where
  sim := b.sim
  pre := by
    obtain ⟨t, e⟩ := a.pre
    obtain ⟨u, e2⟩ := b.pre
    exact ⟨t ++ u, by rw [e2, e, List.append_assoc]⟩
  fr := fun c o h n => b.fr c o (a.fr c o h n) fun z => by
    have := a.new c z n
    rw [h] at this
    cases this
  new := fun c h n => by
    by_cases z : c ∈ η1
    · exact a.new c z n
    · have q := b.new c h z
      cases e : H c with
      | none => rfl
      | some o =>
        rw [a.fr c o e n] at q
        cases q
  lo := Nat.le_trans b.lo a.lo
  old := fun i h1 h2 => by
    rw [b.old i h1 (Nat.lt_of_lt_of_le h2 (a.len S)), a.old i (Nat.lt_of_lt_of_le h1 b.lo) h2]
/-- the heap grows by a thing that the store does not hold -/
theorem Step.beside (S : Sim K ca nm η w.cs H) {p : Addr} {o : HO} (hp : H p = none) : Step K ca nm η w H η w (upd H p o) := by
  have st : Stay H (upd H p o) := fun a u h _ => by rw [upd_ne (ne_of_none h hp)]; exact h
  refine ⟨⟨S.len, S.nd, fun n c a h1 h2 => ?_⟩, ⟨[], by simp⟩, fun a u h _ => by rw [upd_ne (ne_of_none h hp)]; exact h, fun a h n => absurd h n, Nat.le_refl _, fun _ _ _ => rfl⟩
  have r := S.cell n c a h1 h2
  cases c with
  | lst ds =>
    obtain ⟨vs, e, ra⟩ := r
    exact ⟨vs, by rw [upd_ne (ne_of_none e hp)]; exact e, ra.mono st (Pre.refl _)⟩
  | ins c fs =>
    obtain ⟨dx, vs, e, ra⟩ := r
    exact ⟨dx, vs, by rw [upd_ne (ne_of_none e hp)]; exact e, ra.mono st (Pre.refl _)⟩
theorem Sim.fresh {cs : List Cell} (S : Sim K ca nm η cs H) {p : Addr} (hp : H p = none) : p ∉ η := S.out hp
/-- a new object of the store -/
theorem Step.made (S : Sim K ca nm η w.cs H) {p : Addr} {o : HO} {c : Cell} (hp : H p = none) (hc : CRep K ca nm (η ++ [p]) (upd H p o) p c) : Step K ca nm η w H (η ++ [p]) (w.new c) (upd H p o) := by
  have st : Stay H (upd H p o) := fun a u h _ => by rw [upd_ne (ne_of_none h hp)]; exact h
  have pr : Pre η (η ++ [p]) := fun n a h => by rw [List.getElem?_append_left (List.getElem?_eq_some_iff.mp h).1]; exact h
  refine ⟨⟨by simp [W.new, S.len], ?_, fun n d a h1 h2 => ?_⟩, ⟨[p], rfl⟩, fun a u h _ => by rw [upd_ne (ne_of_none h hp)]; exact h, fun a h n => ?_, Nat.le_refl _, fun i _ h2 => ?_⟩
  · rw [List.nodup_append]
    refine ⟨S.nd, by simp, fun a ha b hb e => ?_⟩
    have : b = p := by simpa using hb
    subst this
    subst e
    exact S.fresh hp ha
  · by_cases hn : n < w.cs.length
    · have h1' : w.cs[n]? = some d := by
        have : (w.cs ++ [c])[n]? = some d := h1
        rwa [List.getElem?_append_left hn] at this
      have h2' : η[n]? = some a := by rwa [List.getElem?_append_left (by rw [S.len]; exact hn)] at h2
      have r := S.cell n d a h1' h2'
      cases d with
      | lst ds =>
        obtain ⟨vs, e, ra⟩ := r
        exact ⟨vs, by rw [upd_ne (ne_of_none e hp)]; exact e, ra.mono st pr⟩
      | ins c fs =>
        obtain ⟨dx, vs, e, ra⟩ := r
        exact ⟨dx, vs, by rw [upd_ne (ne_of_none e hp)]; exact e, ra.mono st pr⟩
    · have l1 : n < (w.cs ++ [c]).length := (List.getElem?_eq_some_iff.mp h1).1
      have en : n = w.cs.length := by
        rw [List.length_append, List.length_singleton] at l1
        omega
      subst en
      have e1 : c = d := by
        have : (w.cs ++ [c])[w.cs.length]? = some d := h1
        simpa using this
      have e2 : p = a := by
        rw [← S.len] at h2
        simpa using h2
      subst e1
      subst e2
      exact hc
  · rcases List.mem_append.mp h with z | z
    · exact absurd z n
    · have : a = p := by simpa using z
      subst this
      exact hp
  · show (w.cs ++ [c])[i]? = w.cs[i]?
    exact List.getElem?_append_left h2
/-- an object of the store is written -/
theorem Step.wrote (S : Sim K ca nm η w.cs H) {n : Nat} {p : Addr} {o : HO} {c : Cell} (hn : η[n]? = some p) (hi : imm o = false) (hc : CRep K ca nm η (upd H p o) p c) : Step K ca nm η w H η (w.put n c) (upd H p o) := by
  have hm : p ∈ η := List.mem_of_getElem? hn
  have np : ∀ a u, H a = some u → imm u = true → a ≠ p := fun a u h i e => by
    subst e
    exact S.notIn h i hm
  have st : Stay H (upd H p o) := fun a u h i => by rw [upd_ne (np a u h i)]; exact h
  refine ⟨⟨by simp [W.put, S.len], S.nd, fun m d a h1 h2 => ?_⟩, ⟨[], by simp⟩, fun a u h nn => by rw [upd_ne (fun e => nn (by rw [e]; exact hm))]; exact h, fun a h n => absurd h n, Nat.min_le_left _ _, fun i h1 h2 => ?_⟩
  · have h1 : (w.cs.set n c)[m]? = some d := h1
    by_cases e : m = n
    · subst e
      have e2 : p = a := Option.some.inj (hn.symm.trans h2)
      subst e2
      have hl : m < w.cs.length := by
        have := (List.getElem?_eq_some_iff.mp h1).1
        simpa using this
      rw [List.getElem?_set_self hl] at h1
      cases h1
      exact hc
    · rw [List.getElem?_set_ne (Ne.symm e)] at h1
      have na : a ≠ p := fun z => by
        subst z
        exact e (nodup_at S.nd h2 hn)
      have r := S.cell m d a h1 h2
      cases d with
      | lst ds =>
        obtain ⟨vs, e, ra⟩ := r
        exact ⟨vs, by rw [upd_ne na]; exact e, ra.mono st (Pre.refl _)⟩
      | ins c fs =>
        obtain ⟨dx, vs, e, ra⟩ := r
        exact ⟨dx, vs, by rw [upd_ne na]; exact e, ra.mono st (Pre.refl _)⟩
  · show (w.cs.set n c)[i]? = w.cs[i]?
    have : i < min w.lo n := h1
    exact List.getElem?_set_ne (by omega)
theorem stay_upd {p : Addr} {o : HO} (hp : H p = none) : Stay H (upd H p o) := fun a u h _ => by rw [upd_ne (ne_of_none h hp)]; exact h
/-! ### slots -/
def Slots (K : PySem.W.Frag) (η : List Addr) (H : Hp) (ρ : Env) (σ : L2.St) : Prop := ρ.length = σ.length ∧ ∀ (i : Nat) (d : D), ρ[i]? = some (some d) → ∃ v, σ[i]? = some (some v) ∧ Rep K η H d v
theorem Slots.mono {ρ : Env} {σ : L2.St} (h : Slots K η H ρ σ) (s : Stay H H1) (p : Pre η η1) : Slots K η1 H1 ρ σ :=
  ⟨h.1, fun i d e => let ⟨v, h1, h2⟩ := h.2 i d e; ⟨v, h1, h2.mono s p⟩⟩
theorem Slots.step {ρ : Env} {σ : L2.St} (h : Slots K η H ρ σ) (S : Sim K ca nm η w.cs H) (s : Step K ca nm η w H η1 w1 H1) : Slots K η1 H1 ρ σ := h.mono (s.stay S) s.prefix
theorem Slots.set {ρ : Env} {σ : L2.St} {d : D} {v : V} (h : Slots K η H ρ σ) (r : Rep K η H d v) (i : Nat) : Slots K η H (ρ.set i (some d)) (σ.set i (some v)) := by
  refine ⟨by simp [h.1], fun j e q => ?_⟩
  by_cases hj : i = j
  · subst hj
    have hl : i < ρ.length := by
      have := (List.getElem?_eq_some_iff.mp q).1
      simpa using this
    rw [List.getElem?_set_self hl] at q
    cases q
    exact ⟨v, List.getElem?_set_self (by rw [← h.1]; exact hl), r⟩
  · rw [List.getElem?_set_ne hj] at q
    obtain ⟨u, h1, h2⟩ := h.2 j e q
    exact ⟨u, by rw [List.getElem?_set_ne hj]; exact h1, h2⟩
theorem Slots.wipe {ρ : Env} {σ : L2.St} (h : Slots K η H ρ σ) : ∀ vs : List Nat, Slots K η H (wipeR ρ vs) (L2.wipe σ vs)
  | [] => h
  | v :: vs => by
    have ih := Slots.wipe h vs
    refine ⟨by simp [wipeR, L2.wipe, ih.1], fun j e q => ?_⟩
    unfold wipeR at q
    by_cases hj : v = j
    · subst hj
      have hl : v < (wipeR ρ vs).length := by
        have := (List.getElem?_eq_some_iff.mp q).1
        simpa using this
      rw [List.getElem?_set_self hl] at q
      cases q
    · rw [List.getElem?_set_ne hj] at q
      obtain ⟨u, h1, h2⟩ := ih.2 j e q
      exact ⟨u, by unfold L2.wipe; rw [List.getElem?_set_ne hj]; exact h1, h2⟩
theorem Rep.step {d : D} {v : V} (h : Rep K η H d v) (S : Sim K ca nm η w.cs H) (s : Step K ca nm η w H η1 w1 H1) : Rep K η1 H1 d v := h.mono (s.stay S) s.prefix
theorem RepAll.step {d : List D} {v : List V} (h : RepAll K η H d v) (S : Sim K ca nm η w.cs H) (s : Step K ca nm η w H η1 w1 H1) : RepAll K η1 H1 d v := h.mono (s.stay S) s.prefix
/-- reading a list -/
theorem Sim.lst (S : Sim K ca nm η w.cs H) {n : Nat} {ds : List D} {v : V} (h : w.lst n = some ds) (r : Rep K η H (.ref n) v) : ∃ a vs, v = .ref a ∧ η[n]? = some a ∧ H a = some (.lst vs) ∧ RepAll K η H ds vs := by
  unfold W.lst at h
  cases r with
  | ref e =>
    rename_i a
    cases q : w.cs[n]? with
    | none => rw [q] at h; cases h
    | some c =>
      rw [q] at h
      cases c with
      | lst es =>
        cases h
        obtain ⟨vs, e1, e2⟩ := S.cell n _ a q e
        exact ⟨a, vs, rfl, e, e1, e2⟩
      | ins c fs => cases h
theorem Sim.items (S : Sim K ca nm η w.cs H) {d : D} {ds : List D} {v : V} (h : items w d = some ds) (r : Rep K η H d v) : ∃ a vs, v = .ref a ∧ RepAll K η H ds vs ∧ (SqL K H a vs ∨ SqT K H a vs) := by
  cases d with
  | tup es =>
    cases h
    cases r with
    | tup q ra => exact ⟨_, _, rfl, ra, .inr q⟩
  | frz es =>
    cases h
    cases r with
    | frz q ra => exact ⟨_, _, rfl, ra, .inl q.sq⟩
  | ref n =>
    obtain ⟨a, vs, e1, _, e3, e4⟩ := S.lst (n := n) h r
    exact ⟨a, vs, e1, e4, .inl (.inl (.inl e3))⟩
  | _ => cases h
theorem Sim.litems (S : Sim K ca nm η w.cs H) {d : D} {ds : List D} {v : V} (h : litems w d = some ds) (r : Rep K η H d v) : ∃ a vs, v = .ref a ∧ RepAll K η H ds vs ∧ SqL K H a vs := by
  cases d with
  | frz es =>
    cases h
    cases r with
    | frz q ra => exact ⟨_, _, rfl, ra, q.sq⟩
  | ref n =>
    obtain ⟨a, vs, e1, _, e3, e4⟩ := S.lst (n := n) h r
    exact ⟨a, vs, e1, e4, .inl (.inl e3)⟩
  | _ => cases h
/-- a new list made -/
theorem made_list (S : Sim K ca nm η w.cs H) {p : Addr} {ds : List D} {vs : List V} (hp : H p = none) (r : RepAll K η H ds vs) :
    Step K ca nm η w H (η ++ [p]) (w.mkl ds).2 (upd H p (.lst vs)) ∧ Rep K (η ++ [p]) (upd H p (.lst vs)) (w.mkl ds).1 (.ref p) := by
  have pr : Pre η (η ++ [p]) := fun n a h => by rw [List.getElem?_append_left (List.getElem?_eq_some_iff.mp h).1]; exact h
  refine ⟨Step.made S hp ⟨vs, upd_same, r.mono (stay_upd hp) pr⟩, .ref ?_⟩
  show (η ++ [p])[w.cs.length]? = some p
  rw [← S.len]
  simp
theorem made_tup (S : Sim K ca nm η w.cs H) {p : Addr} {ds : List D} {vs : List V} (hp : H p = none) (r : RepAll K η H ds vs) :
    Step K ca nm η w H η w (upd H p (.tup vs)) ∧ Rep K η (upd H p (.tup vs)) (.tup ds) (.ref p) :=
  ⟨Step.beside S hp, .tup (.inl (.inl upd_same)) (r.mono (stay_upd hp) (Pre.refl _))⟩
theorem put_list (S : Sim K ca nm η w.cs H) {n : Nat} {p : Addr} {ds : List D} {vs : List V} (hn : η[n]? = some p) (r : RepAll K η (upd H p (.lst vs)) ds vs) :
    Step K ca nm η w H η (w.put n (.lst ds)) (upd H p (.lst vs)) := Step.wrote S hn rfl ⟨vs, upd_same, r⟩
theorem stay_put (S : Sim K ca nm η w.cs H) {n : Nat} {p : Addr} {o : HO} (hn : η[n]? = some p) : Stay H (upd H p o) := fun a u h i => by
  rw [upd_ne (fun e => S.notIn h i (by rw [e]; exact List.mem_of_getElem? hn))]
  exact h
end
end QQ

set_option Elab.async false
set_option linter.all false
set_option maxRecDepth 100000
set_option maxHeartbeats 1000000
/-! Q3: the operators and the built-in functions keep what the evaluator says. -/
namespace QQ
open PySem PySem.Spec PyProof.Rows L2

theorem line_eq : line = sizeLine := by rw [sizeLine_eq]; rfl
structure Glob where
  ca : Nat → Addr
  ea : Nat → Addr
  fa : Nat → Addr
  fd : Nat → FuncData
  nm : List Str
def astOp : Op2 → Operator
  | .add => .Add
  | .sub => .Sub
  | .mul => .Mult
  | .fdiv => .FloorDiv
  | .mod => .Mod
  | .pow => .Pow
def astCp : Cp → CmpOp
  | .eq => .Eq
  | .ne => .NotEq
  | .lt => .Lt
  | .le => .LtE
  | .gt => .Gt
  | .ge => .GtE
  | .is => .Is
  | .isnot => .IsNot
  | .inn => .In
  | .notin => .NotIn
theorem mulOk_ok {i j : Int} (h : mulOk i j = true) : IntMulOk i j := by
  have b : ∀ x : Int, Builtin.Int.intBits x ≤ nb x + 1 := fun x => by
    unfold Builtin.Int.intBits nb
    split <;> omega
  unfold mulOk at h
  rw [Bool.or_eq_true, Bool.or_eq_true] at h
  rcases h with h | h | h
  · have h1 := b i
    have h2 := b j
    have h3 := of_decide_eq_true h
    exact IntMulOk.of_le h1 h2 (by omega)
  · have h1 := b i
    have h3 := of_decide_eq_true h
    exact .of_left (by omega)
  · have h1 := b j
    have h3 := of_decide_eq_true h
    exact .of_right (by omega)
section
variable {X : Cx}
/-- any rule that serves -/
def rAny (X : Cx) (f : Value → Value → Sem Value) : R2 := fun x y H Q => ∃ r, OpR X f r ∧ r x y H Q
theorem opAny {f : Value → Value → Sem Value} : OpR X f (rAny X f) := fun pins s σ H x y v u Q I rx ry ⟨_, h, q⟩ => h pins s σ H x y v u Q I rx ry q
def cAny (X : Cx) (f : Value) : List V → Hp → VK → Prop := fun vs H Q => ∃ r, CallR X f r ∧ r vs H Q
theorem callAny {f : Value} : CallR X f (cAny X f) := fun pins s σ H x v Q I rx ⟨_, h, q⟩ => h pins s σ H x v Q I rx q
theorem op_mulB : OpR X (binaryOp .Mult) (rI (fun i j => mulOk i j = true) fun i j => .int (i * j)) := opI fun _ _ _ _ _ _ _ hc q => mul_int q (mulOk_ok hc)
theorem op_divB : OpR X (binaryOp .FloorDiv) (rI (fun i j => j ≠ 0 ∧ Builtin.divisionGoesByPylong i j = false) fun i j => .int (i.fdiv j)) := opI fun _ _ _ _ _ _ _ hc q => floordiv_int hc.1 q (.inl hc.2)
theorem iop_mulB : OpR X (inplaceOp .Mult) (rI (fun i j => mulOk i j = true) fun i j => .int (i * j)) := opI fun _ _ _ _ _ _ _ hc q => imul_int q (mulOk_ok hc)
theorem iop_divB : OpR X (inplaceOp .FloorDiv) (rI (fun i j => j ≠ 0 ∧ Builtin.divisionGoesByPylong i j = false) fun i j => .int (i.fdiv j)) := opI fun _ _ _ _ _ _ _ hc q => ifloordiv_int hc.1 q (.inl hc.2)
theorem iop_modB : OpR X (inplaceOp .Mod) (rI (fun _ j => j ≠ 0) fun i j => .int (i.fmod j)) := opI fun _ _ _ _ _ _ _ hc q => imod_int hc q
theorem iop_powB : OpR X (inplaceOp .Pow) (rI CPow fun i j => .int (i ^ j.toNat)) := opI fun _ _ _ _ _ _ _ hc q => ipow_int_small hc.1 hc.2.1 hc.2.2 q
theorem divOk_ok {i j : Int} (h : divOk i j = true) : j ≠ 0 ∧ Builtin.divisionGoesByPylong i j = false := by
  unfold divOk at h
  rw [Bool.and_eq_true] at h
  exact ⟨of_decide_eq_true h.1, by simpa using h.2⟩
/-- two ints -/
theorem int_ok {o : Op2} {i j : Int} {d : D} {H : Hp} {Q : VK} {K : PySem.W.Frag} {η : List Addr} (h : opInt o i j = some d) (q : ∀ v, Rep K η H d v → Q v H) : rAny X (binaryOp (astOp o)) (.int i) (.int j) H Q := by
  cases o with
  | add => cases h; exact ⟨_, op_add, _, _, rfl, rfl, q _ (.int _)⟩
  | sub => cases h; exact ⟨_, op_sub, _, _, rfl, rfl, q _ (.int _)⟩
  | mul =>
    unfold opInt at h
    simp only at h
    split at h
    · cases h; exact ⟨_, op_mulB, _, _, rfl, rfl, (by assumption), q _ (.int _)⟩
    · cases h
  | fdiv =>
    unfold opInt at h
    simp only at h
    split at h
    · cases h; exact ⟨_, op_divB, _, _, rfl, rfl, divOk_ok (by assumption), q _ (.int _)⟩
    · cases h
  | mod =>
    unfold opInt at h
    simp only at h
    split at h
    · cases h; exact ⟨_, op_modN, _, _, rfl, rfl, (by assumption), q _ (.int _)⟩
    · cases h
  | pow =>
    unfold opInt at h
    simp only at h
    split at h
    · cases h; exact ⟨_, op_pow, _, _, rfl, rfl, (by assumption), q _ (.int _)⟩
    · cases h
theorem iint_ok {o : Op2} {i j : Int} {d : D} {H : Hp} {Q : VK} {K : PySem.W.Frag} {η : List Addr} (h : opInt o i j = some d) (q : ∀ v, Rep K η H d v → Q v H) : rAny X (inplaceOp (astOp o)) (.int i) (.int j) H Q := by
  cases o with
  | add => cases h; exact ⟨_, iop_add, _, _, rfl, rfl, q _ (.int _)⟩
  | sub => cases h; exact ⟨_, iop_sub, _, _, rfl, rfl, q _ (.int _)⟩
  | mul =>
    unfold opInt at h
    simp only at h
    split at h
    · cases h; exact ⟨_, iop_mulB, _, _, rfl, rfl, (by assumption), q _ (.int _)⟩
    · cases h
  | fdiv =>
    unfold opInt at h
    simp only at h
    split at h
    · cases h; exact ⟨_, iop_divB, _, _, rfl, rfl, divOk_ok (by assumption), q _ (.int _)⟩
    · cases h
  | mod =>
    unfold opInt at h
    simp only at h
    split at h
    · cases h; exact ⟨_, iop_modB, _, _, rfl, rfl, (by assumption), q _ (.int _)⟩
    · cases h
  | pow =>
    unfold opInt at h
    simp only at h
    split at h
    · cases h; exact ⟨_, iop_powB, _, _, rfl, rfl, (by assumption), q _ (.int _)⟩
    · cases h
variable {G : Glob} {η : List Addr} {w : W} {H : Hp}
abbrev Sm (K : PySem.W.Frag) (G : Glob) (η : List Addr) (w : W) (H : Hp) : Prop := Sim K G.ca G.nm η w.cs H
abbrev Stp (K : PySem.W.Frag) (G : Glob) (η : List Addr) (w : W) (H : Hp) (η' : List Addr) (w' : W) (H' : Hp) : Prop := Step K G.ca G.nm η w H η' w' H'
/-- what is wanted of a value -/
abbrev Want (K : PySem.W.Frag) (G : Glob) (η : List Addr) (w : W) (H : Hp) (Q : VK) (r : D × W) : Prop := ∀ v H' η', Stp K G η w H η' r.2 H' → Rep K η' H' r.1 v → Q v H'
theorem op_ok {o : Op2} {x y : V} {d e : D} {r : D × W} {Q : VK} (S : Sm X.K G η w H) (rx : Rep X.K η H d x) (ry : Rep X.K η H e y) (h : opSem o d e w = some r) (q : Want X.K G η w H Q r) :
    rAny X (binaryOp (astOp o)) x y H Q := by
  cases d with
  | int i =>
    cases e with
    | int j =>
      cases rx; cases ry
      unfold opSem at h
      simp only at h
      split at h
      · cases h; exact int_ok (by assumption) fun v rv => q v H η (Step.refl S) rv
      · cases h
    | _ => cases h
  | tup xs =>
    cases e with
    | tup ys =>
      unfold opSem at h
      simp only at h
      split at h
      · rename_i c
        obtain ⟨rfl, hl⟩ := c
        cases h
        cases rx with
        | tup q1 r1 =>
          cases ry with
          | tup q2 r2 =>
            rename_i a vs b ws
            have hz : vs.length + ws.length ≤ sizeLine := by rw [← r1.length, ← r2.length, ← line_eq]; exact hl
            refine ⟨_, op_catA, a, b, vs, ws, rfl, rfl, q1, q2, hz, fun e1 => ?_, fun _ e2 => ?_, fun _ _ p hp => ?_⟩
            · have : xs = [] := List.eq_nil_of_length_eq_zero (by rw [r1.length, e1]; rfl)
              subst this
              exact q _ _ η (Step.refl S) (.tup q2 (by simpa using r2))
            · have : ys = [] := List.eq_nil_of_length_eq_zero (by rw [r2.length, e2]; rfl)
              subst this
              exact q _ _ η (Step.refl S) (.tup q1 (by simpa using r1))
            · obtain ⟨st, rp⟩ := made_tup S hp (r1.append r2)
              exact q _ _ η st rp
      · cases h
    | int k =>
      unfold opSem at h
      simp only at h
      split at h
      · rename_i c
        obtain ⟨rfl, hn, h1, h2, hl⟩ := c
        cases h
        cases rx with
        | tup q1 r1 =>
          cases ry
          rename_i a vs
          refine ⟨_, op_repT, a, k, vs, rfl, rfl, q1, fun z => hn (List.eq_nil_of_length_eq_zero (by rw [r1.length, z]; rfl)), h1, h2, by rw [← r1.length]; exact hl, fun p hp => ?_⟩
          obtain ⟨st, rp⟩ := made_tup S hp (r1.rep k.toNat)
          exact q _ _ η st rp
      · cases h
    | _ => cases h
  | ref n =>
    cases e with
    | ref m =>
      unfold opSem at h
      simp only at h
      split at h
      · rename_i xs ys e1 e2
        split at h
        · rename_i c
          obtain ⟨rfl, hl⟩ := c
          cases h
          obtain ⟨a, vs, rfl, _, h1, r1⟩ := S.lst e1 rx
          obtain ⟨b, ws, rfl, _, h2, r2⟩ := S.lst e2 ry
          refine ⟨_, op_cat, a, b, vs, ws, rfl, rfl, h1, h2, by rw [← r1.length, ← r2.length, ← line_eq]; exact hl, fun p hp => ?_⟩
          obtain ⟨st, rp⟩ := made_list S hp (r1.append r2)
          exact q _ _ _ st rp
        · cases h
      · cases h
    | int k =>
      unfold opSem at h
      simp only at h
      split at h
      · rename_i xs e1
        split at h
        · rename_i c
          obtain ⟨rfl, h1, h2, hl⟩ := c
          cases h
          obtain ⟨a, vs, rfl, _, g1, r1⟩ := S.lst e1 rx
          cases ry
          refine ⟨_, op_rep, a, k, vs, rfl, rfl, g1, h1, h2, by rw [← r1.length, ← line_eq]; exact hl, fun p hp => ?_⟩
          obtain ⟨st, rp⟩ := made_list S hp (r1.rep k.toNat)
          exact q _ _ _ st rp
        · cases h
      · cases h
    | _ => cases h
  | str x' =>
    cases e with
    | str y' =>
      unfold opSem at h
      simp only at h
      split at h
      · rename_i c
        obtain ⟨rfl, hl⟩ := c
        cases h
        cases rx
        cases ry
        exact ⟨_, op_add_str, _, _, rfl, rfl, by rw [← line_eq]; exact hl, q _ _ η (Step.refl S) (.str _)⟩
      · cases h
    | _ => cases h
  | _ => cases h
/-! ### data -/
theorem toP_depth {cs : List Cell} : ∀ (n : Nat) (d : D) (p : PyData), toP cs n d = some p → p.canLay0 = true ∧ p.depth ≤ n := by
  have all : ∀ (n : Nat), (∀ (d : D) (p : PyData), toP cs n d = some p → p.canLay0 = true ∧ p.depth ≤ n) → ∀ (ds : List D) (ps : List PyData), optAll (ds.map (toP cs n)) = some ps → PyData.canLayAll0 ps = true ∧ PyData.depthAll ps ≤ n := by
    intro n ih ds
    induction ds with
    | nil =>
      intro ps h
      cases h
      exact ⟨by simp [PyData.canLayAll0], by simp [PyData.depthAll]⟩
    | cons d ds ih2 =>
      intro ps h
      rw [List.map_cons] at h
      cases e : toP cs n d with
      | none => rw [e] at h; cases h
      | some p =>
        rw [e] at h
        unfold optAll at h
        cases e2 : optAll (ds.map (toP cs n)) with
        | none => rw [e2] at h; cases h
        | some qs =>
          rw [e2] at h
          cases h
          obtain ⟨h1, h2⟩ := ih d p e
          obtain ⟨h3, h4⟩ := ih2 qs e2
          refine ⟨by simp [PyData.canLayAll0, h1, h3], ?_⟩
          simp only [PyData.depthAll]
          omega
  intro n
  induction n with
  | zero =>
    intro d p h
    cases d with
    | non => cases h; exact ⟨by simp [PyData.canLay0], by simp [PyData.depth]⟩
    | bl b => cases h; exact ⟨by simp [PyData.canLay0], by simp [PyData.depth]⟩
    | int i => cases h; exact ⟨by simp [PyData.canLay0], by simp [PyData.depth]⟩
    | str x =>
      unfold toP at h
      simp only at h
      split at h
      · cases h; exact ⟨by simpa [PyData.canLay0], by simp [PyData.depth]⟩
      · cases h
    | _ => cases h
  | succ n ih =>
    intro d p h
    cases d with
    | non => cases h; exact ⟨by simp [PyData.canLay0], by simp [PyData.depth]⟩
    | bl b => cases h; exact ⟨by simp [PyData.canLay0], by simp [PyData.depth]⟩
    | int i => cases h; exact ⟨by simp [PyData.canLay0], by simp [PyData.depth]⟩
    | str x =>
      unfold toP at h
      simp only at h
      split at h
      · cases h; exact ⟨by simpa [PyData.canLay0], by simp [PyData.depth]⟩
      · cases h
    | tup ds =>
      unfold toP at h
      simp only at h
      cases e : optAll (ds.map (toP cs n)) with
      | none => rw [e] at h; cases h
      | some ps =>
        rw [e] at h
        cases h
        obtain ⟨h1, h2⟩ := all n ih ds ps e
        exact ⟨by simpa [PyData.canLay0] using h1, by simp only [PyData.depth]; omega⟩
    | frz ds =>
      unfold toP at h
      simp only at h
      cases e : optAll (ds.map (toP cs n)) with
      | none => rw [e] at h; cases h
      | some ps =>
        rw [e] at h
        cases h
        obtain ⟨h1, h2⟩ := all n ih ds ps e
        exact ⟨by simpa [PyData.canLay0] using h1, by simp only [PyData.depth]; omega⟩
    | ref i =>
      unfold toP at h
      simp only at h
      split at h
      · rename_i ds e0
        cases e : optAll (ds.map (toP cs n)) with
        | none => rw [e] at h; cases h
        | some ps =>
          rw [e] at h
          cases h
          obtain ⟨h1, h2⟩ := all n ih ds ps e
          exact ⟨by simpa [PyData.canLay0] using h1, by simp only [PyData.depth]; omega⟩
      · cases h
theorem toP_dp (S : Sm X.K G η w H) : ∀ (n : Nat) (d : D) (p : PyData) (v : V), toP w.cs n d = some p → Rep X.K η H d v → Dp X.K H v p := by
  have all : ∀ (n : Nat), (∀ (d : D) (p : PyData) (v : V), toP w.cs n d = some p → Rep X.K η H d v → Dp X.K H v p) → ∀ (ds : List D) (ps : List PyData) (vs : List V), optAll (ds.map (toP w.cs n)) = some ps → RepAll X.K η H ds vs → DpAll X.K H vs ps := by
    intro n ih ds
    induction ds with
    | nil =>
      intro ps vs h r
      cases h
      cases r
      exact .nil
    | cons d ds ih2 =>
      intro ps vs h r
      cases r with
      | cons r1 r2 =>
        rw [List.map_cons] at h
        cases e : toP w.cs n d with
        | none => rw [e] at h; cases h
        | some p =>
          rw [e] at h
          unfold optAll at h
          cases e2 : optAll (ds.map (toP w.cs n)) with
          | none => rw [e2] at h; cases h
          | some qs =>
            rw [e2] at h
            cases h
            exact .cons (ih d p _ e r1) (ih2 qs _ e2 r2)
  intro n
  induction n with
  | zero =>
    intro d p v h r
    cases d with
    | non => cases h; cases r; exact .non
    | bl b => cases h; cases r; exact .bl b
    | int i => cases h; cases r; exact .int i
    | str x =>
      unfold toP at h
      simp only at h
      split at h
      · cases h; cases r; exact .str x
      · cases h
    | _ => cases h
  | succ n ih =>
    intro d p v h r
    cases d with
    | non => cases h; cases r; exact .non
    | bl b => cases h; cases r; exact .bl b
    | int i => cases h; cases r; exact .int i
    | str x =>
      unfold toP at h
      simp only at h
      split at h
      · cases h; cases r; exact .str x
      · cases h
    | tup ds =>
      unfold toP at h
      simp only at h
      cases e : optAll (ds.map (toP w.cs n)) with
      | none => rw [e] at h; cases h
      | some ps =>
        rw [e] at h
        cases h
        cases r with
        | tup q1 r1 => exact .tup q1 (all n ih ds ps _ e r1)
    | frz ds =>
      unfold toP at h
      simp only at h
      cases e : optAll (ds.map (toP w.cs n)) with
      | none => rw [e] at h; cases h
      | some ps =>
        rw [e] at h
        cases h
        cases r with
        | frz q1 r1 => exact .lst q1.sq (all n ih ds ps _ e r1)
    | ref i =>
      unfold toP at h
      simp only at h
      split at h
      · rename_i ds e0
        cases e : optAll (ds.map (toP w.cs n)) with
        | none => rw [e] at h; cases h
        | some ps =>
          rw [e] at h
          cases h
          obtain ⟨a, vs, rfl, _, h1, r1⟩ := S.lst (n := i) (ds := ds) (by unfold W.lst; rw [e0]) r
          exact .lst (.inl (.inl h1)) (all n ih ds ps _ e r1)
      · cases h
theorem eq_data (S : Sm X.K G η w H) {d e : D} {x y : V} {k : Bool} (h : eqSem d e w = some k) (rx : Rep X.K η H d x) (ry : Rep X.K η H e y) :
    ∃ p q, Dp X.K H x p ∧ Dp X.K H y q ∧ SeqAt.shaped p = true ∧ SeqAt.shaped q = true ∧ k = PyData.eqv p q := by
  unfold eqSem at h
  split at h
  · rename_i p q e1 e2
    cases h
    obtain ⟨a1, a2⟩ := toP_depth 60 d p e1
    obtain ⟨b1, b2⟩ := toP_depth 60 e q e2
    refine ⟨p, q, toP_dp S 60 d p x e1 rx, toP_dp S 60 e q y e2 ry, ?_, ?_, rfl⟩
    · unfold SeqAt.shaped
      rw [a1, decide_eq_true (by omega)]
      rfl
    · unfold SeqAt.shaped
      rw [b1, decide_eq_true (by omega)]
      rfl
  · cases h
/-! ### flat things and in -/
theorem atom_flat {d : D} {v : V} (h : atomB d = true) (r : Rep X.K η H d v) : flatV v = true := by
  cases r <;> first | rfl | cases h
theorem atom_eq {d e : D} {v u : V} (h1 : atomB d = true) (h2 : atomB e = true) (r1 : Rep X.K η H d v) (r2 : Rep X.K η H e u) : eqV v u = atomEq d e := by
  cases r1 <;> cases r2 <;> first | rfl | cases h1 | cases h2
theorem all_flat : ∀ {ds : List D} {vs : List V}, ds.all atomB = true → RepAll X.K η H ds vs → vs.all flatV = true
  | _, _, _, .nil => rfl
  | _, _, h, .cons a b => by
    rw [List.all_cons, Bool.and_eq_true] at h
    rw [List.all_cons, Bool.and_eq_true]
    exact ⟨atom_flat h.1 a, all_flat h.2 b⟩
theorem in_eq {e : D} {u : V} (h2 : atomB e = true) (r2 : Rep X.K η H e u) : ∀ {ds : List D} {vs : List V}, ds.all atomB = true → RepAll X.K η H ds vs → inV u vs = ds.any fun d => atomEq d e
  | _, _, _, .nil => rfl
  | _, _, h, .cons a b => by
    rw [List.all_cons, Bool.and_eq_true] at h
    have ih := in_eq h2 r2 h.2 b
    unfold inV at ih ⊢
    rw [List.any_cons, List.any_cons, ih, atom_eq h.1 h2 a r2]
theorem cp_ok {c : Cp} {x y : V} {d e : D} {k : Bool} {Q : VK} (hu : X.A.units + 64 < cLine) (S : Sm X.K G η w H) (rx : Rep X.K η H d x) (ry : Rep X.K η H e y) (h : cpSem c d e w = some k) (q : Q (.bl k) H) :
    rAny X (compareOp (astCp c)) x y H Q := by
  cases c with
  | eq =>
    obtain ⟨p, p', h1, h2, h3, h4, rfl⟩ := eq_data S (show eqSem d e w = some k from h) rx ry
    exact ⟨_, op_eqD hu, p, p', h1, h2, h3, h4, q⟩
  | ne =>
    have h : (eqSem d e w).map (!·) = some k := h
    cases e0 : eqSem d e w with
    | none => rw [e0] at h; cases h
    | some k' =>
      rw [e0] at h
      cases h
      obtain ⟨p, p', h1, h2, h3, h4, rfl⟩ := eq_data S e0 rx ry
      exact ⟨_, op_neD hu, p, p', h1, h2, h3, h4, q⟩
  | inn =>
    have h : inSem d e w = some k := h
    unfold inSem at h
    split at h
    · rename_i ds e1
      split at h
      · rename_i c
        cases h
        obtain ⟨a, vs, rfl, r1, hq⟩ := S.items e1 ry
        refine ⟨_, op_in_seq, a, vs, rfl, hq, atom_flat c.1 rx, all_flat c.2 r1, ?_⟩
        simp only [Bool.false_eq_true, if_false]
        rw [in_eq c.1 rx c.2 r1]
        exact q
      · cases h
    · cases h
  | notin =>
    have h : (inSem d e w).map (!·) = some k := h
    unfold inSem at h
    split at h
    · rename_i ds e1
      split at h
      · rename_i c
        cases h
        obtain ⟨a, vs, rfl, r1, hq⟩ := S.items e1 ry
        refine ⟨_, op_notIn_seq, a, vs, rfl, hq, atom_flat c.1 rx, all_flat c.2 r1, ?_⟩
        simp only [if_true]
        rw [in_eq c.1 rx c.2 r1]
        exact q
      · cases h
    · cases h
  | is =>
    cases e with
    | bl b =>
      cases d with
      | bl a => cases h; cases rx; cases ry; exact ⟨_, op_isBl, _, _, rfl, rfl, q⟩
      | _ => cases h
    | non =>
      cases ry
      cases rx <;> (cases h; exact ⟨_, op_isN, rfl, by first | exact q | (simpa using q)⟩)
    | _ => cases d <;> cases h
  | isnot =>
    cases e with
    | bl b =>
      cases d with
      | bl a => cases h; cases rx; cases ry; exact ⟨_, op_notBl, _, _, rfl, rfl, q⟩
      | _ => cases h
    | non =>
      cases ry
      cases rx <;> (cases h; exact ⟨_, op_notN, rfl, by first | exact q | (simpa using q)⟩)
    | _ => cases d <;> cases h
  | lt =>
    cases d with
    | int i =>
      cases e with
      | int j => cases h; cases rx; cases ry; exact ⟨_, op_lt, _, _, rfl, rfl, q⟩
      | _ => cases h
    | _ => cases h
  | le =>
    cases d with
    | int i =>
      cases e with
      | int j => cases h; cases rx; cases ry; exact ⟨_, op_le, _, _, rfl, rfl, q⟩
      | _ => cases h
    | _ => cases h
  | gt =>
    cases d with
    | int i =>
      cases e with
      | int j => cases h; cases rx; cases ry; exact ⟨_, op_gt, _, _, rfl, rfl, q⟩
      | _ => cases h
    | _ => cases h
  | ge =>
    cases d with
    | int i =>
      cases e with
      | int j => cases h; cases rx; cases ry; exact ⟨_, op_ge, _, _, rfl, rfl, q⟩
      | _ => cases h
    | _ => cases h
end
end QQ

set_option Elab.async false
set_option linter.all false
set_option maxRecDepth 100000
set_option maxHeartbeats 2000000
/-! Q4: built-in functions and methods, indexing, slices. -/
namespace QQ
open PySem PySem.Spec PyProof.Rows L2 HT
/-! ### t[::-1] of a tuple -/
section
variable {prog : Program} {w : World} {A : Around} {E : Value → Shared → Prop} {s : Shared}
theorem sliceApplied_rev {sl : Addr} {vl vu vs : Value} {n : Nat} {Q : Int × Int × Nat → Shared → Prop} (hs : s.heap.IsSliceOf sl vl vu vs) (pl : IsPart vl none) (pu : IsPart vu none) (ps : IsPart vs (some (-1)))
    (h : Q ((n : Int) - 1, -1, n) s) : wpAny (model prog w) A (Builtin.Slice.sliceApplied (.ref sl) (pure (n : Int))) Q E s := by
  obtain ⟨os, hos, hcs, hds⟩ := id hs
  unfold Builtin.Slice.sliceApplied Builtin.Slice.sliceFields
  refine wpAny_bind (wpAny_bind (wpAny_field hos hds (x := vl) rfl (wpAny_bind (wpAny_field hos hds (x := vu) rfl (wpAny_bind (wpAny_field hos hds (x := vs) rfl (wpAny_pure ?_)))))))
  refine wpAny_bind (slicePart_ ps ?_)
  show wpAny _ _ (if ((-1 : Int) == 0) = true then _ else _) _ _ s
  rw [if_neg (by decide)]
  refine wpAny_bind (slicePart_ pl (wpAny_bind (slicePart_ pu (wpAny_bind (wpAny_pure ?_)))))
  have e : Builtin.Slice.sliceAdjust none none (-1) (n : Int) = ((n : Int) - 1, -1) := by
    unfold Builtin.Slice.sliceAdjust
    rfl
  have e2 : Builtin.Slice.slicePlaces ((n : Int) - 1) (-1) (-1) = n := by
    unfold Builtin.Slice.slicePlaces
    have h1 : ¬ ((-1 : Int) > 0) := by decide
    simp only [h1, if_false]
    by_cases hn : (n : Int) - 1 > -1
    · rw [if_pos hn]
      have : ((n : Int) - 1 - -1 - 1) / (- -1) + 1 = (n : Int) := by
        rw [show (- -1 : Int) = 1 by decide, Int.ediv_one]
        omega
      rw [this]
      exact Int.toNat_natCast n
    · rw [if_neg hn]
      omega
  show wpAny _ _ (match Builtin.Slice.sliceAdjust none none (-1) (n : Int) with | (lo, hi) => pure (lo, (-1 : Int), Builtin.Slice.slicePlaces lo hi (-1))) _ _ s
  rw [e]
  show wpAny _ _ (pure ((n : Int) - 1, (-1 : Int), Builtin.Slice.slicePlaces ((n : Int) - 1) (-1) (-1))) _ _ s
  rw [e2]
  exact wpAny_pure h
theorem pick_rev (xs : Array Value) : ((List.range xs.size).filterMap fun (m : Nat) => xs[(((xs.size : Int) - 1) + (m : Int) * (-1)).toNat]?).toArray = xs.toList.reverse.toArray := by
  have e0 : (fun (m : Nat) => xs[(((xs.size : Int) - 1) + (m : Int) * (-1)).toNat]?) = (fun k => xs[k]?) ∘ fun k => xs.size - 1 - k := by
    funext m
    show _ = xs[xs.size - 1 - m]?
    have : (((xs.size : Int) - 1) + (m : Int) * (-1)).toNat = xs.size - 1 - m := by omega
    rw [this]
  rw [e0, ← List.filterMap_map, PySem.W.krv_range, List.filterMap_reverse, PySem.W.krv_all]
theorem getItem_tuple_rev {t sl : Addr} {items : Array Value} {vl vu vs : Value} {Q : Value → Shared → Prop} (ht : IsTup s.heap t items) (hs : s.heap.IsSliceOf sl vl vu vs) (pl : IsPart vl none) (pu : IsPart vu none) (ps : IsPart vs (some (-1)))
    (h : Q (.ref s.heap.objs.size) { s with heap := s.heap.push { cls := .type "tuple", data := .seq items.toList.reverse.toArray } })
    (hsz : items.size ≤ sizeLine) : wpAny (model prog w) A (getItem (.ref t) (.ref sl)) Q E s := by
  have htake : sizeOk (.seq items.toList.reverse.toArray) := by
    show items.toList.reverse.toArray.size ≤ sizeLine
    rw [List.size_toArray, List.length_reverse, Array.length_toList]
    omega
  obtain ⟨os, hos, hcs, hds⟩ := id hs
  have hTs : s.TypeIs (.ref sl) "slice" := ⟨os, hos, hcs⟩
  unfold getItem
  try with_reducible refine wpAny_holding ?_
  first | refine wpAny_bind (wpAny_pure ?_) | skip
  refine wpAny_bind (wpAny_sequenceKey ht.typeIs (by decide) ?_)
  refine wpAny_bind (wpAny_callSpecial?_slot (name := Str.ofString "__getitem__") ht.typeIs PyProof.Rows.slot_tuple_getitem
    (wpAny_call_entry PyProof.Rows.slot_tuple_getitem ht.typeIs entry_tuple_getitem ?_ (args_tuple_getitem _ _)))
  show wpAny _ _ (Builtin.Tuple.tupleItemsOf (.ref t) >>= _) _ _ s
  refine wpAny_bind (tupleItemsOf_ ht ?_)
  refine wpAny_bind (wpAny_typeOf hTs ?_)
  rw [if_pos (by decide)]
  refine wpAny_bind (sliceApplied_rev hs pl pu ps ?_)
  have hno : ¬ ((((items.size : Int) - 1) == 0 && (-1 : Int) == 1 && items.size == items.size) = true) := by
    intro q
    rw [Bool.and_eq_true, Bool.and_eq_true] at q
    have q1 : (-1 : Int) = 1 := eq_of_beq q.1.2
    omega
  show wpAny _ _ (if (((items.size : Int) - 1) == 0 && (-1 : Int) == 1 && items.size == items.size) = true then _ else _) _ _ s
  rw [if_neg hno, pick_rev]
  first
    | exact wpAny_bind (m := Builtin.Tuple.tupleExact _) (wpAny_newObj_type (wpAny_pure ⟨_, rfl, wpAny_pure h⟩) htake)
    | exact wpAny_bind (m := Builtin.Tuple.tupleExact _) (wpAny_newObj_type (wpAny_bind (wpAny_pure (wpAny_pure ⟨_, rfl, wpAny_pure h⟩))) htake)
    | exact wpAny_bind (wpAny_bind (m := Builtin.Tuple.tupleExact _) (wpAny_newObj_type (wpAny_pure (wpAny_pure ⟨_, rfl, wpAny_pure h⟩)) htake))
    | exact wpAny_bind (wpAny_bind (m := Builtin.Tuple.tupleExact _) (wpAny_newObj_type (wpAny_pure ⟨_, rfl, wpAny_pure h⟩) htake))
end
section
variable {X : Cx}
def tRevA (K : PySem.W.Frag) (te : TE) : TE := fun σ H Q => te σ H fun x H1 => ∃ a xs, x = .ref a ∧ ((SqL K H1 a xs ∧ ∀ p, H1 p = none → Q (.ref p) (upd H1 p (.lst xs.reverse))) ∨ (SqT K H1 a xs ∧ ∀ p, H1 p = none → Q (.ref p) (upd H1 p (.tup xs.reverse))))
theorem pe_revA {e : Expr} {te : TE} {k : Nat} {p1 p2 p3 pos : Pos} (he : PE X e te) : PE X (.Subscript e (.Slice none none (some (.UnaryOp .USub (.Constant (.int 1) k p1) p2)) p3) pos) (tRevA X.K te) := by
  refine ⟨fun pins s σ H Q I h => ?_⟩
  refine Subscript_ (thn (he.run pins s σ H _ I h) fun v s1 ⟨x, H1, I1, r1, q1⟩ => ?_)
  obtain ⟨a, xs, ex, q⟩ := q1
  subst ex
  cases r1
  have hst : PO X (some (.UnaryOp .USub (.Constant (.int 1) k p1) p2)) (tPart (tUn (rU fun i => .int (-i)) (tC (.int 1)))) := po_some (pe_un un_neg pe_int)
  refine wpAny_Slice (thn (po_none.run pins s1 σ H1 (fun o H2 => o = none ∧ H2 = H1) I1 ⟨rfl, rfl⟩) fun vl s2 ⟨l, H2, I2, pl, el, e2⟩ => ?_)
  subst el e2
  refine thn (po_none.run pins s2 σ H2 (fun o H3 => o = none ∧ H3 = H2) I2 ⟨rfl, rfl⟩) fun vu s3 ⟨u, H3, I3, pu, eu, e3⟩ => ?_
  subst eu e3
  refine thn (hst.run pins s3 σ H3 (fun o H4 => o = some (-1) ∧ H4 = H3) I3 ⟨1, rfl, -1, rfl, rfl, rfl⟩) fun vs s4 ⟨o, H4, I4, ps, eo, e4⟩ => ?_
  subst eo e4
  have I5 : Inv X pins σ H4 { s4 with heap := s4.heap.push { cls := .type "slice", data := .fields #[vl, vu, vs] } } := I4.kept (t' := s4.toks) fun b ob q => Heap.get?_push_of_some _ q
  show wpAny (model X.prog X.w) X.A (subscriptTail e (.Slice none none (some (.UnaryOp .USub (.Constant (.int 1) k p1) p2)) p3) (.ref a) (.ref s4.heap.objs.size)) (EP X pins σ Q) X.xe { s4 with heap := s4.heap.push { cls := .type "slice", data := .fields #[vl, vu, vs] } }
  rcases q with ⟨hx, q⟩ | ⟨hx, q⟩
  · obtain ⟨its, r, ht, hz⟩ := I5.list hx
    have hlen := r.length
    refine tail_any (ops := [.ref a, .ref s4.heap.objs.size]) ht.isList.typeIs (PySem.slot_list_getitem.lookup) ?_ (by with_unfolding_all rfl)
    refine wpAny_getItem_list_slice ht.isList (Heap.IsSliceOf.new _ vl vu vs) pl pu ps (by decide) ?_ (by rw [List.size_toArray]; omega)
    rw [PySem.W.krv_pick]
    refine ⟨.ref _, _, I5.laid (t' := s4.toks) (o := .lst xs.reverse) (fun b ob q => Heap.get?_push_of_some _ q) (Nat.le_refl _) ?_, rfl, q _ (I5.hok.fresh (Nat.le_refl _))⟩
    exact ⟨by rw [List.length_reverse]; exact hz, _, 0, r.reverse, Heap.get?_push_size _ rfl⟩
  · obtain ⟨its, r, ht, hz⟩ := I5.tuple hx
    have hlen := r.length
    refine tail_any (ops := [.ref a, .ref s4.heap.objs.size]) ht.typeIs (PyProof.Rows.slot_tuple_getitem.lookup) ?_ (by with_unfolding_all rfl)
    refine getItem_tuple_rev ht (Heap.IsSliceOf.new _ vl vu vs) pl pu ps ?_ (by rw [List.size_toArray]; omega)
    refine ⟨.ref _, _, I5.laid (t' := s4.toks) (o := .tup xs.reverse) (fun b ob q => Heap.get?_push_of_some _ q) (Nat.le_refl _) ?_, rfl, q _ (I5.hok.fresh (Nat.le_refl _))⟩
    exact ⟨by rw [List.length_reverse]; exact hz, _, r.reverse, IsTup.new _ _⟩
/-! ### math.factorial -/
theorem cr_fact : CallR X (.builtin "math.factorial") (fun vs H Q => ∃ i : Int, vs = [.int i] ∧ 0 ≤ i ∧ i ≤ 10000 ∧ (Builtin.Math.factorialNat i.toNat).log2 < 100000000 ∧ Q (.int (Builtin.Math.factorialNat i.toNat : Nat)) H) := by
  intro pins s σ H vs us Q I r h
  obtain ⟨i, rfl, h0, h1, h2, q⟩ := h
  obtain ⟨u, rfl, t, rfl⟩ := vals1 r
  have e : bitsLine = 134217728 := by decide
  refine PySem.W.mg_factorial ?_ (by omega) ?_ ?_ ⟨.int _, H, I.tok _, ⟨_, rfl⟩, q⟩
  · show ¬ i > 2 ^ 63 - 1
    omega
  · show ¬ i > 20000
    omega
  · show (Builtin.Math.factorialNat i.toNat).log2 < bitsLine
    rw [e]
    omega
/-! ### built-in functions -/
inductive BK where
  | fn (x id : String)
  | ty (x T : String)
  | imp (x id : String)
def bltK : Blt → BK
  | .len => .fn "len" "len"
  | .abs => .fn "abs" "abs"
  | .max2 => .fn "max" "max"
  | .min2 => .fn "min" "min"
  | .int1 => .ty "int" "int"
  | .bool1 => .ty "bool" "bool"
  | .list1 => .ty "list" "list"
  | .tuple1 => .ty "tuple" "tuple"
  | .all1 => .fn "all" "all"
  | .any1 => .fn "any" "any"
  | .gcd => .imp "gcd" "math.gcd"
  | .fact => .imp "factorial" "math.factorial"
  | .min1 => .fn "min" "min"
  | .max1 => .fn "max" "max"
  | .min0 => .fn "min" "min"
  | .max0 => .fn "max" "max"
def bkV : BK → Value
  | .fn _ id => .builtin id
  | .ty _ T => .type T
  | .imp _ id => .builtin id
variable {G : Glob} {η : List Addr} {w : W} {H : Hp}
theorem ints_vs : ∀ {ds : List D} {vs : List V} {ns : List Int}, intsD ds = some ns → RepAll X.K η H ds vs → vs = ns.map V.int := by
  intro ds
  induction ds with
  | nil =>
    intro vs ns h r
    cases r
    cases h
    rfl
  | cons d ds ih =>
    intro vs ns h r
    cases r with
    | cons a b =>
      cases d with
      | int i =>
        unfold intsD at h
        cases e : intsD ds with
        | none => rw [e] at h; cases h
        | some ms =>
          rw [e] at h
          cases h
          cases a
          rw [ih e b]
          rfl
      | _ => cases h
theorem bools_vs : ∀ {ds : List D} {vs : List V} {ns : List Bool}, boolsD ds = some ns → RepAll X.K η H ds vs → vs = ns.map V.bl := by
  intro ds
  induction ds with
  | nil =>
    intro vs ns h r
    cases r
    cases h
    rfl
  | cons d ds ih =>
    intro vs ns h r
    cases r with
    | cons a b =>
      cases d with
      | bl i =>
        unfold boolsD at h
        cases e : boolsD ds with
        | none => rw [e] at h; cases h
        | some ms =>
          rw [e] at h
          cases h
          cases a
          rw [ih e b]
          rfl
      | _ => cases h
theorem minI_mem : ∀ (ns : List Int) (i : Int), minI i ns ∈ i :: ns ∧ ∀ y ∈ i :: ns, minI i ns ≤ y
  | [], i => ⟨by simp [minI], by simp [minI]⟩
  | j :: ns, i => by
    by_cases hj : j < i
    · obtain ⟨h1, h2⟩ := minI_mem ns j
      have e : minI i (j :: ns) = minI j ns := by
        show minI (if j < i then j else i) ns = _
        rw [if_pos hj]
      rw [e]
      have key := h2 _ List.mem_cons_self
      refine ⟨List.mem_cons_of_mem _ h1, fun y hy => ?_⟩
      rcases List.mem_cons.mp hy with z | z
      · rw [z]
        omega
      · exact h2 y z
    · obtain ⟨h1, h2⟩ := minI_mem ns i
      have e : minI i (j :: ns) = minI i ns := by
        show minI (if j < i then j else i) ns = _
        rw [if_neg hj]
      rw [e]
      have key := h2 _ List.mem_cons_self
      refine ⟨?_, fun y hy => ?_⟩
      · rcases List.mem_cons.mp h1 with z | z
        · rw [z]
          exact List.mem_cons_self
        · exact List.mem_cons_of_mem _ (List.mem_cons_of_mem _ z)
      · rcases List.mem_cons.mp hy with z | z
        · rw [z]
          exact key
        · rcases List.mem_cons.mp z with z | z
          · rw [z]
            omega
          · exact h2 y (List.mem_cons_of_mem _ z)
theorem maxI_mem : ∀ (ns : List Int) (i : Int), maxI i ns ∈ i :: ns ∧ ∀ y ∈ i :: ns, y ≤ maxI i ns
  | [], i => ⟨by simp [maxI], by simp [maxI]⟩
  | j :: ns, i => by
    by_cases hj : i < j
    · obtain ⟨h1, h2⟩ := maxI_mem ns j
      have e : maxI i (j :: ns) = maxI j ns := by
        show maxI (if i < j then j else i) ns = _
        rw [if_pos hj]
      rw [e]
      have key := h2 _ List.mem_cons_self
      refine ⟨List.mem_cons_of_mem _ h1, fun y hy => ?_⟩
      rcases List.mem_cons.mp hy with z | z
      · rw [z]
        omega
      · exact h2 y z
    · obtain ⟨h1, h2⟩ := maxI_mem ns i
      have e : maxI i (j :: ns) = maxI i ns := by
        show maxI (if i < j then j else i) ns = _
        rw [if_neg hj]
      rw [e]
      have key := h2 _ List.mem_cons_self
      refine ⟨?_, fun y hy => ?_⟩
      · rcases List.mem_cons.mp h1 with z | z
        · rw [z]
          exact List.mem_cons_self
        · exact List.mem_cons_of_mem _ (List.mem_cons_of_mem _ z)
      · rcases List.mem_cons.mp hy with z | z
        · rw [z]
          exact key
        · rcases List.mem_cons.mp z with z | z
          · rw [z]
            omega
          · exact h2 y (List.mem_cons_of_mem _ z)
theorem lst_bind {α : Type} {f : List D → Option α} {n : Nat} {a : α} (h : (w.lst n).bind f = some a) : ∃ ds, w.lst n = some ds ∧ f ds = some a := by
  cases e : w.lst n with
  | none => rw [e] at h; cases h
  | some ds => rw [e] at h; exact ⟨ds, rfl, h⟩
theorem blt_ok {b : Blt} {vs : List V} {ds : List D} {r : D × W} {Q : VK} (hc : X.calm = true) (S : Sm X.K G η w H) (ra : RepAll X.K η H ds vs) (h : bltSem b ds w = some r) (q : Want X.K G η w H Q r) : cAny X (bkV (bltK b)) vs H Q := by
  match b, ds, h with
  | .len, [x], h =>
    cases ra with
    | cons rx rn =>
      cases rn
      cases x with
      | str s =>
        unfold bltSem at h
        simp only at h
        split at h
        · cases h
          cases rx
          exact ⟨_, call_len_str, _, rfl, by rw [← line_eq]; assumption, q _ _ η (Step.refl S) (.int _)⟩
        · cases h
      | tup es =>
        cases h
        cases rx with
        | tup q1 r1 =>
          refine ⟨_, call_len_seq, _, _, rfl, .inr q1, ?_⟩
          rw [← r1.length]
          exact q _ _ η (Step.refl S) (.int _)
      | frz es =>
        cases h
        cases rx with
        | frz q1 r1 =>
          refine ⟨_, call_len_seq, _, _, rfl, .inl q1.sq, ?_⟩
          rw [← r1.length]
          exact q _ _ η (Step.refl S) (.int _)
      | ref n =>
        unfold bltSem at h
        simp only at h
        split at h
        · rename_i es e1
          cases h
          obtain ⟨a, ws, rfl, r1, hq⟩ := S.items e1 rx
          refine ⟨_, call_len_seq, a, ws, rfl, hq, ?_⟩
          rw [← r1.length]
          exact q _ _ η (Step.refl S) (.int _)
        · cases h
      | _ => cases h
  | .abs, [.int i], h =>
    cases h
    cases ra with
    | cons rx rn =>
      cases rn; cases rx
      exact ⟨_, call_abs, i, rfl, q _ _ η (Step.refl S) (.int _)⟩
  | .max2, [.int i, .int j], h =>
    cases h
    cases ra with
    | cons rx rn =>
      cases rn with
      | cons ry rn =>
        cases rn; cases rx; cases ry
        exact ⟨_, call_max2 hc, i, j, rfl, q _ _ η (Step.refl S) (.int _)⟩
  | .min2, [.int i, .int j], h =>
    cases h
    cases ra with
    | cons rx rn =>
      cases rn with
      | cons ry rn =>
        cases rn; cases rx; cases ry
        exact ⟨_, call_min2 hc, i, j, rfl, q _ _ η (Step.refl S) (.int _)⟩
  | .int1, [.int i], h =>
    cases h
    cases ra with
    | cons rx rn =>
      cases rn; cases rx
      exact ⟨_, call_int1, .inl ⟨i, rfl, q _ _ η (Step.refl S) (.int _)⟩⟩
  | .int1, [.bl i], h =>
    cases h
    cases ra with
    | cons rx rn =>
      cases rn; cases rx
      exact ⟨_, call_int1, .inr ⟨i, rfl, q _ _ η (Step.refl S) (.int _)⟩⟩
  | .bool1, [.int i], h =>
    cases h
    cases ra with
    | cons rx rn =>
      cases rn; cases rx
      exact ⟨_, call_bool1, .inl ⟨i, rfl, q _ _ η (Step.refl S) (.bl _)⟩⟩
  | .bool1, [.bl i], h =>
    cases h
    cases ra with
    | cons rx rn =>
      cases rn; cases rx
      exact ⟨_, call_bool1, .inr ⟨i, rfl, q _ _ η (Step.refl S) (.bl _)⟩⟩
  | .list1, [x], h =>
    cases ra with
    | cons rx rn =>
      cases rn
      unfold bltSem at h
      simp only at h
      split at h
      · rename_i es e1
        cases h
        obtain ⟨a, ws, rfl, r1, hq⟩ := S.items e1 rx
        refine ⟨_, call_list_of, a, ws, rfl, hq, fun l hl => ?_⟩
        obtain ⟨st, rp⟩ := made_list S hl r1
        exact q _ _ _ st rp
      · cases h
  | .tuple1, [x], h =>
    cases ra with
    | cons rx rn =>
      cases rn
      unfold bltSem at h
      simp only at h
      split at h
      · rename_i es e1
        cases h
        obtain ⟨a, ws, rfl, r1, hq⟩ := S.items e1 rx
        refine ⟨_, call_tuple_of, a, ws, rfl, ?_⟩
        rcases hq with hq | hq
        · refine .inl ⟨hq, fun l hl => ?_⟩
          obtain ⟨st, rp⟩ := made_tup S hl r1
          exact q _ _ _ st rp
        · exact .inr ⟨hq, q _ _ η (Step.refl S) (.tup hq r1)⟩
      · cases h
  | .all1, [.ref n], h =>
    cases ra with
    | cons rx rn =>
      cases rn
      unfold bltSem at h
      simp only at h
      split at h
      · rename_i bs e1
        cases h
        obtain ⟨es, e2, e3⟩ := lst_bind e1
        obtain ⟨a, ws, rfl, _, h1, r1⟩ := S.lst e2 rx
        have ew := bools_vs e3 r1
        subst ew
        exact ⟨_, cr_all hc, a, bs, rfl, .inl (.inl h1), q _ _ η (Step.refl S) (.bl _)⟩
      · cases h
  | .any1, [.ref n], h =>
    cases ra with
    | cons rx rn =>
      cases rn
      unfold bltSem at h
      simp only at h
      split at h
      · rename_i bs e1
        cases h
        obtain ⟨es, e2, e3⟩ := lst_bind e1
        obtain ⟨a, ws, rfl, _, h1, r1⟩ := S.lst e2 rx
        have ew := bools_vs e3 r1
        subst ew
        exact ⟨_, cr_any hc, a, bs, rfl, .inl (.inl h1), q _ _ η (Step.refl S) (.bl _)⟩
      · cases h
  | .gcd, [.int i, .int j], h =>
    cases h
    cases ra with
    | cons rx rn =>
      cases rn with
      | cons ry rn =>
        cases rn; cases rx; cases ry
        exact ⟨_, cr_gcd, i, j, rfl, q _ _ η (Step.refl S) (.int _)⟩
  | .fact, [.int i], h =>
    cases ra with
    | cons rx rn =>
      cases rn; cases rx
      unfold bltSem at h
      simp only at h
      split at h
      · rename_i c
        cases h
        exact ⟨_, cr_fact, i, rfl, c.1, c.2.1, c.2.2, q _ _ η (Step.refl S) (.int _)⟩
      · cases h
  | .min1, [.ref n], h =>
    cases ra with
    | cons rx rn =>
      cases rn
      unfold bltSem at h
      simp only at h
      split at h
      · rename_i i ns e1
        cases h
        obtain ⟨es, e2, e3⟩ := lst_bind e1
        obtain ⟨a, ws, rfl, _, h1, r1⟩ := S.lst e2 rx
        have ew := ints_vs e3 r1
        subst ew
        obtain ⟨m1, m2⟩ := minI_mem ns i
        refine ⟨_, cr_min hc, a, i :: ns, rfl, .inl (.inl h1), by simp, fun m hm hle => ?_⟩
        have e4 : m = minI i ns := Int.le_antisymm (hle _ m1) (m2 _ hm)
        subst e4
        exact q _ _ η (Step.refl S) (.int _)
      · cases h
  | .max1, [.ref n], h =>
    cases ra with
    | cons rx rn =>
      cases rn
      unfold bltSem at h
      simp only at h
      split at h
      · rename_i i ns e1
        cases h
        obtain ⟨es, e2, e3⟩ := lst_bind e1
        obtain ⟨a, ws, rfl, _, h1, r1⟩ := S.lst e2 rx
        have ew := ints_vs e3 r1
        subst ew
        obtain ⟨m1, m2⟩ := maxI_mem ns i
        refine ⟨_, cr_max hc, a, i :: ns, rfl, .inl (.inl h1), by simp, fun m hm hle => ?_⟩
        have e4 : m = maxI i ns := Int.le_antisymm (m2 _ hm) (hle _ m1)
        subst e4
        exact q _ _ η (Step.refl S) (.int _)
      · cases h
/-! ### isinstance with a built-in type -/
def tyS : Ty → String
  | .int => "int"
  | .bool => "bool"
  | .tuple => "tuple"
  | .str => "str"
  | .list => "list"
theorem kitB_ok (u t : Ty) : kitB (tyS u) (tyS t) = some (decide (u = t) || (decide (u = .bool) && decide (t = .int))) := by
  cases u <;> cases t <;> decide +kernel
theorem kitN_ok (t : Ty) : kitB "NoneType" (tyS t) = some false := by
  cases t <;> decide +kernel
theorem tyOf_ok (S : Sm X.K G η w H) {d : D} {v : V} {u : Ty} (h : tyOf w d = some u) (r : Rep X.K η H d v) : TyX X.K H v (.type (tyS u)) := by
  cases d with
  | bl b => cases h; cases r; exact .base (.bl _)
  | int b => cases h; cases r; exact .base (.int _)
  | str b => cases h; cases r; exact .base (.str _)
  | tup ds =>
    cases h
    cases r with
    | tup q _ =>
      rcases q with (q | ⟨o, q⟩) | ⟨o, its, n, q, c, _⟩
      · exact .base (.tup q)
      · exact .fTuple q
      · exact .kTuple q c
  | frz ds =>
    cases h
    cases r with
    | frz q _ =>
      rcases q with ⟨o, q⟩ | ⟨o, its, n, q, c, _⟩
      · exact .base (.frz q)
      · exact .kList q c
  | ref n =>
    unfold tyOf at h
    simp only at h
    split at h
    · rename_i ds e
      cases h
      obtain ⟨a, vs, rfl, _, h1, _⟩ := S.lst (n := n) (ds := ds) (by unfold W.lst; rw [e]) r
      exact .base (.lst h1)
    · cases h
  | non => cases h
theorem isi_ok (S : Sm X.K G η w H) {d : D} {v : V} {t : Ty} {k : Bool} {Q : VK} (h : isiSem t d w = some k) (r : Rep X.K η H d v) (q : Q (.bl k) H) : rIsi X.K [v, .ty (tyS t)] H Q := by
  cases d with
  | non =>
    cases h
    cases r
    exact ⟨_, _, _, _, _, rfl, .ty _, .base .non, kit_ty (kitN_ok t), q⟩
  | _ =>
    unfold isiSem at h
    simp only at h
    split at h
    · rename_i u e
      cases h
      exact ⟨_, _, _, _, _, rfl, .ty _, tyOf_ok S e r, kit_ty (kitB_ok u t), q⟩
    · cases h
/-! ### indexing, slices -/
def ixAny (X : Cx) : R2 := fun x y H Q => ∃ r, IxR X r ∧ r x y H Q
theorem ixAny_ok : IxR X (ixAny X) := fun a b pins s σ H x y v u Q I rx ry ⟨_, h, q⟩ hs => h a b pins s σ H x y v u Q I rx ry q hs
theorem atI_rep {ds : List D} {vs : List V} {i : Int} {d : D} (h : atI ds i = some d) (r : RepAll X.K η H ds vs) : ∃ v, atI vs i = some v ∧ Rep X.K η H d v := by
  unfold atI at h ⊢
  rw [← r.length]
  cases e : ixN ds.length i with
  | none => rw [e] at h; cases h
  | some j =>
    rw [e] at h
    exact r.get h
theorem ix_ok (S : Sm X.K G η w H) {o i d : D} {x y : V} {Q : VK} (h : ixSem o i w = some d) (rx : Rep X.K η H o x) (ry : Rep X.K η H i y) (q : ∀ v, Rep X.K η H d v → Q v H) : ixAny X x y H Q := by
  cases i with
  | int k =>
    cases ry
    have go : ∀ {ds : List D}, items w o = some ds → atI ds k = some d → ixAny X x (.int k) H Q := fun {ds} e1 e2 => by
      obtain ⟨a, vs, rfl, r1, hq⟩ := S.items e1 rx
      obtain ⟨v, g1, g2⟩ := atI_rep e2 r1
      rcases hq with hq | hq
      · exact ⟨_, ix_list, a, vs, k, v, rfl, rfl, hq, g1, q v g2⟩
      · exact ⟨_, ix_tup, a, vs, k, v, rfl, rfl, hq, g1, q v g2⟩
    cases o with
    | str z =>
      unfold ixSem at h
      simp only at h
      split at h
      · rename_i c
        cases e : atI z.cps.toList k with
        | none => rw [e] at h; cases h
        | some c' =>
          rw [e] at h
          cases h
          cases rx
          exact ⟨_, ix_str, z, k, c', rfl, rfl, by rw [← line_eq]; exact c, e, q _ (.str _)⟩
      · cases h
    | tup ds => exact go rfl h
    | frz ds => exact go rfl h
    | ref n =>
      unfold ixSem at h
      simp only at h
      split at h
      · exact go (by assumption) h
      · cases h
    | _ => cases h
  | _ => cases o <;> cases h
def slAny (X : Cx) : V → Option Int → Option Int → Hp → VK → Prop := fun x lo hi H Q => ∃ r, SlR X r ∧ r x lo hi H Q
theorem slAny_ok : SlR X (slAny X) := fun pins s σ H x v vl vu lo hi sl Q I rx hs pl pu ⟨_, h, q⟩ => h pins s σ H x v vl vu lo hi sl Q I rx hs pl pu q
theorem cut_whole {α : Type} {xs : List α} {lo hi : Option Int} (h : HT.sIx xs.length 0 lo = 0 ∧ HT.sIx xs.length xs.length hi = xs.length) : cutA xs lo hi = xs := by
  unfold cutA
  rw [h.1, h.2]
  simp
theorem sl_ok (S : Sm X.K G η w H) {o : D} {x : V} {lo hi : Option Int} {r : D × W} {Q : VK} (h : slSem o lo hi w = some r) (rx : Rep X.K η H o x) (q : Want X.K G η w H Q r) : slAny X x lo hi H Q := by
  cases o with
  | tup ds =>
    cases h
    cases rx with
    | tup q1 r1 =>
      rename_i a vs
      refine ⟨_, sl_tupA, a, vs, rfl, q1, fun hw => ?_, fun hn p hp => ?_⟩
      · refine q _ _ η (Step.refl S) ?_
        show Rep X.K η H (.tup (cutA ds lo hi)) _
        rw [cut_whole (by rw [r1.length]; exact hw)]
        exact .tup q1 r1
      · obtain ⟨st, rp⟩ := made_tup S hp (r1.cut lo hi)
        exact q _ _ _ st rp
  | frz ds =>
    cases h
    cases rx with
    | frz q1 r1 =>
      rename_i a vs
      refine ⟨_, sl_list, a, vs, rfl, q1.sq, fun p hp => ?_⟩
      obtain ⟨st, rp⟩ := made_list S hp (r1.cut lo hi)
      exact q _ _ _ st rp
  | ref n =>
    unfold slSem at h
    simp only at h
    split at h
    · rename_i ds e
      cases h
      obtain ⟨a, vs, rfl, r1, hq⟩ := S.litems e rx
      refine ⟨_, sl_list, a, vs, rfl, hq, fun p hp => ?_⟩
      obtain ⟨st, rp⟩ := made_list S hp (r1.cut lo hi)
      exact q _ _ _ st rp
    · cases h
  | _ => cases h
theorem rev_ok (S : Sm X.K G η w H) {o : D} {x : V} {r : D × W} {Q : VK} (h : revSem o w = some r) (rx : Rep X.K η H o x) (q : Want X.K G η w H Q r) :
    ∃ a xs, x = .ref a ∧ ((SqL X.K H a xs ∧ ∀ p, H p = none → Q (.ref p) (upd H p (.lst xs.reverse))) ∨ (SqT X.K H a xs ∧ ∀ p, H p = none → Q (.ref p) (upd H p (.tup xs.reverse)))) := by
  cases o with
  | tup ds =>
    cases h
    cases rx with
    | tup q1 r1 =>
      rename_i a vs
      refine ⟨a, vs, rfl, .inr ⟨q1, fun p hp => ?_⟩⟩
      obtain ⟨st, rp⟩ := made_tup S hp r1.reverse
      exact q _ _ _ st rp
  | frz ds =>
    cases h
    cases rx with
    | frz q1 r1 =>
      rename_i a vs
      refine ⟨a, vs, rfl, .inl ⟨q1.sq, fun p hp => ?_⟩⟩
      obtain ⟨st, rp⟩ := made_list S hp r1.reverse
      exact q _ _ _ st rp
  | ref n =>
    unfold revSem at h
    simp only at h
    split at h
    · rename_i ds e
      cases h
      obtain ⟨a, vs, rfl, r1, hq⟩ := S.litems e rx
      refine ⟨a, vs, rfl, .inl ⟨hq, fun p hp => ?_⟩⟩
      obtain ⟨st, rp⟩ := made_list S hp r1.reverse
      exact q _ _ _ st rp
    · cases h
  | _ => cases h
theorem set_ok (S : Sm X.K G η w H) {o i d : D} {x y v : V} {w' : W} {Q : Hp → Prop} (h : setSem o i d w = some w') (rx : Rep X.K η H o x) (ry : Rep X.K η H i y) (rv : Rep X.K η H d v) (q : ∀ H', Stp X.K G η w H η w' H' → Q H') : rSetL x y v H Q := by
  cases o with
  | ref n =>
    cases i with
    | int k =>
      unfold setSem at h
      simp only at h
      split at h
      · rename_i ds e1
        split at h
        · rename_i j e2
          cases h
          cases ry
          obtain ⟨a, vs, rfl, hn, h1, r1⟩ := S.lst e1 rx
          refine ⟨a, vs, k, j, rfl, rfl, h1, by rw [← r1.length]; exact e2, q _ ?_⟩
          exact put_list S hn (((r1.set rv j)).mono (stay_put S hn) (Pre.refl _))
        · cases h
      · cases h
    | _ => cases h
  | _ => cases i <;> cases h
/-! ### methods of lists -/
def bmK : Bm → String × String
  | .append => ("append", "list.append")
  | .extend => ("extend", "list.extend")
  | .pop0 => ("pop", "list.pop")
  | .pop1 => ("pop", "list.pop")
def mAny (X : Cx) (id : String) : V → List V → Hp → VK → Prop := fun x xs H Q => ∃ r, MtR X id r ∧ r x xs H Q
theorem mAny_ok {id : String} : MtR X id (mAny X id) := fun pins s σ H x xs v us Q I rx rs ⟨_, h, q⟩ => h pins s σ H x xs v us Q I rx rs q
theorem seqIx {n : Nat} {i : Int} {k : Nat} (h : ixN n i = some k) : seqIndex? i n = some k := (ixN_seq h).1
theorem bm_ok {b : Bm} {o : D} {x : V} {ds : List D} {vs : List V} {r : D × W} {Q : VK} (S : Sm X.K G η w H) (rx : Rep X.K η H o x) (ra : RepAll X.K η H ds vs) (h : bmSem b o ds w = some r) (q : Want X.K G η w H Q r) :
    mAny X (bmK b).2 x vs H Q := by
  match b, o, ds, h with
  | .append, .ref n, [d], h =>
    unfold bmSem at h
    simp only at h
    split at h
    · rename_i es e1
      split at h
      · rename_i c
        cases h
        cases ra with
        | cons ry rn =>
          cases rn
          obtain ⟨a, ws, rfl, hn, h1, r1⟩ := S.lst e1 rx
          refine ⟨_, mt_append, a, ws, _, rfl, rfl, h1, by rw [← r1.length, ← line_eq]; exact c, ?_⟩
          exact q _ _ η (put_list S hn ((r1.append (.cons ry .nil)).mono (stay_put S hn) (Pre.refl _))) .non
      · cases h
    · cases h
  | .extend, .ref n, [.ref m], h =>
    unfold bmSem at h
    simp only at h
    split at h
    · rename_i xs ys e1 e2
      split at h
      · rename_i c
        cases h
        cases ra with
        | cons ry rn =>
          cases rn
          obtain ⟨a, ws, rfl, hn, h1, r1⟩ := S.lst e1 rx
          obtain ⟨b, zs, rfl, hm, h2, r2⟩ := S.lst e2 ry
          refine ⟨_, mt_extend, a, b, ws, zs, rfl, rfl, h1, h2, by rw [← r1.length, ← r2.length, ← line_eq]; exact c, ?_⟩
          exact q _ _ η (put_list S hn ((r1.append r2).mono (stay_put S hn) (Pre.refl _))) .non
      · cases h
    · cases h
  | .pop0, .ref n, [], h =>
    unfold bmSem at h
    simp only at h
    split at h
    · rename_i es e1
      split at h
      · rename_i y e2
        cases h
        cases ra
        obtain ⟨a, ws, rfl, hn, h1, r1⟩ := S.lst e1 rx
        obtain ⟨v, g1, g2⟩ := r1.get e2
        refine ⟨_, mt_pop, a, ws, v, rfl, rfl, h1, by rw [← r1.length]; exact g1, ?_⟩
        exact q _ _ η (put_list S hn (r1.dropLast.mono (stay_put S hn) (Pre.refl _))) (g2.mono (stay_put S hn) (Pre.refl _))
      · cases h
    · cases h
  | .pop1, .ref n, [.int i], h =>
    unfold bmSem at h
    simp only at h
    split at h
    · rename_i es e1
      split at h
      · rename_i k e2'
        split at e2'
        case isFalse => cases e2'
        rename_i hz
        have e2 := e2'
        rw [line_eq, sizeLine_eq] at hz
        split at h
        · rename_i y e3
          cases h
          cases ra with
          | cons ry rn =>
            cases rn
            cases ry
            obtain ⟨a, ws, rfl, hn, h1, r1⟩ := S.lst e1 rx
            obtain ⟨v, g1, g2⟩ := r1.get e3
            obtain ⟨k1, k2, k3, k4⟩ := ixN_seq e2
            refine ⟨_, mt_popAt, a, ws, i, k, v, rfl, rfl, h1, by omega, by omega, by rw [← r1.length]; exact k1, g1, ?_⟩
            exact q _ _ η (put_list S hn ((r1.erase k).mono (stay_put S hn) (Pre.refl _))) (g2.mono (stay_put S hn) (Pre.refl _))
        · cases h
      · cases h
    · cases h
end
end QQ

set_option Elab.async false
set_option linter.all false
set_option maxRecDepth 100000
set_option maxHeartbeats 2000000
/-! Q5: the check that a compact term stands for a piece of the text. -/
namespace QQ
open PySem PySem.Spec PyProof.Rows L2

def visB (sc : Scope) (x : Str) : Bool := match sc.names.lookup x with
  | some .local => true
  | some .cell => true
  | some .free => true
  | _ => false
def locB (sc : Scope) (x : Str) : Bool := match sc.names.lookup x with
  | some .local => true
  | some .cell => true
  | _ => false
def lclB (sc : Scope) (x : Str) : Bool := match sc.names.lookup x with
  | some .local => true
  | _ => false
def glbB (sc : Scope) (x : Str) : Bool := match sc.names.lookup x with
  | some .globalImplicit => true
  | _ => false
def okN (x : Str) : Bool := !(x == ("__debug__" : Str)) && !(x == ("__classdict__" : Str))
def cstB (d : D) (c : Const) : Bool := match d, c with
  | .int i, .int j => decide (i = j)
  | .bl b, .bool c => decide (b = c)
  | .non, .none => true
  | .str x, .str y => decide (x = y)
  | _, _ => false
def bkN : BK → Str
  | .fn x _ => Str.ofString x
  | .ty x _ => Str.ofString x
  | .imp x _ => Str.ofString x
def ownOf (N : List Str) (own : List Nat) : List (Str × Nat) := own.map fun i => (N.getD i Str.empty, i)
def isOne : Expr → Bool
  | .Constant (.int 1) _ _ => true
  | _ => false
/-- what a for's target must be where pairs are walked -/
def isPairT : Expr → Bool
  | .Tuple _ _ _ => true
  | _ => false
/-- super() -/
def isSuper : Expr → Bool
  | .Call (.Name x _) [] [] _ => x == ("super" : Str)
  | _ => false
def bkB (P : Prog) : BK → Bool
  | .fn x _ => P.free.contains (Str.ofString x)
  | .ty x _ => P.free.contains (Str.ofString x)
  | .imp x id => P.imp.contains (Str.ofString x, id)
/-- x names the function f -/
def nmB (P : Prog) (f : Nat) (F : Fn) (x : Str) : Bool := (F.glob && decide (F.x = x)) || P.als.contains (x, f)
section
variable (P : Prog) (N : List Str)
mutual
def chkE (sc : Scope) : E → Expr → Bool
  | .var i, e => match e with
    | .Name x _ => decide (N[i]? = some x) && (visB sc x && okN x)
    | _ => false
  | .cst d, e => match e with
    | .Constant c _ _ => cstB d c
    | _ => false
  | .glob g, e => match e with
    | .Name x _ => (match P.cst[g]? with
      | some (y, _) => decide (x = y)
      | none => false) && (glbB sc x && okN x)
    | _ => false
  | .bin o a b, e => match e with
    | .BinOp l op r _ => decide (op = astOp o) && (chkE sc a l && chkE sc b r)
    | _ => false
  | .neg a, e => match e with
    | .UnaryOp .USub x _ => chkE sc a x
    | _ => false
  | .cmp c a b, e => match e with
    | .Compare l [op] [r] _ => decide (op = astCp c) && (chkE sc a l && chkE sc b r)
    | _ => false
  | .chain c c' a b d, e => match e with
    | .Compare l [op, op'] [r, r'] _ => decide (op = astCp c) && (decide (op' = astCp c') && (chkE sc a l && (chkE sc b r && chkE sc d r')))
    | _ => false
  | .andv es, e => match e with
    | .BoolOp .And vs _ => chkEs sc es vs
    | _ => false
  | .orv es, e => match e with
    | .BoolOp .Or vs _ => chkEs sc es vs
    | _ => false
  | .notv a, e => match e with
    | .UnaryOp .Not x _ => chkE sc a x
    | _ => false
  | .ifx t a b, e => match e with
    | .IfExp c x y _ => chkT sc t c && (chkE sc a x && chkE sc b y)
    | _ => false
  | .tup es, e => match e with
    | .Tuple xs _ _ => chkEs sc es xs
    | _ => false
  | .lst es, e => match e with
    | .List xs _ => chkEs sc es xs
    | _ => false
  | .idx a b, e => match e with
    | .Subscript x y _ => chkE sc a x && chkE sc b y
    | _ => false
  | .slc0 a, e => match e with
    | .Subscript x (.Slice none none none _) _ => chkE sc a x
    | _ => false
  | .slc1 a b, e => match e with
    | .Subscript x (.Slice (some l) none none _) _ => chkE sc a x && chkE sc b l
    | _ => false
  | .slc2 a b, e => match e with
    | .Subscript x (.Slice none (some h) none _) _ => chkE sc a x && chkE sc b h
    | _ => false
  | .slc3 a b c, e => match e with
    | .Subscript x (.Slice (some l) (some h) none _) _ => chkE sc a x && (chkE sc b l && chkE sc c h)
    | _ => false
  | .rev a, e => match e with
    | .Subscript x (.Slice none none (some (.UnaryOp .USub c _)) _) _ => isOne c && chkE sc a x
    | _ => false
  | .call f es, e => match e with
    | .Call (.Name x _) args [] _ => (match P.fns[f]? with
      | some F => nmB P f F x && decide (args.length = F.np)
      | none => false) && (glbB sc x && (okN x && chkEs sc es args))
    | _ => false
  | .callk f es ks perm, e => match e with
    | .Call (.Name x _) args kws _ => (match P.fns[f]? with
      | some F => nmB P f F x
      | none => false) && (glbB sc x && (okN x && (P.kwt.contains (f, args.length, kws.map (·.arg), perm) && (chkEs sc es args && (!kws.isEmpty && chkKs sc ks kws)))))
    | _ => false
  | .make c es, e => match e with
    | .Call (.Name x _) args [] _ => (match P.cls[c]? with
      | some k => decide (k.x = x) && (match k.init with
        | some f => (match P.fns[f]? with
          | some F => decide (args.length + 1 = F.np)
          | none => false)
        | none => args.isEmpty)
      | none => false) && (glbB sc x && (okN x && chkEs sc es args))
    | _ => false
  | .meth o m es, e => match e with
    | .Call (.Attribute ob nm apos) args [] pos => decide (P.attr[m]? = some nm) && ((apos.endLine == pos.line) && (decide (args.length < 29) && (chkE sc o ob && (chkEs sc es args && !isSuper ob))))
    | _ => false
  | .fld o f, e => match e with
    | .Attribute ob nm _ => decide (P.attr[f]? = some nm) && (chkE sc o ob && !isSuper ob)
    | _ => false
  | .blt b es, e => match e with
    | .Call (.Name x _) args [] _ => decide (x = bkN (bltK b)) && (bkB P (bltK b) && (glbB sc x && (okN x && (!args.isEmpty && chkEs sc es args))))
    | _ => false
  | .bltd b es dft, e => match e with
    | .Call (.Name x _) [a] [⟨some k, ed, _⟩] _ => (decide (b = .min1) || decide (b = .max1)) && (decide (x = bkN (bltK b)) && (decide (k = ("default" : Str)) && (P.free.contains x && (glbB sc x && (chkEs sc es [a] && chkE sc dft ed)))))
    | _ => false
  | .isi t a, e => match e with
    | .Call (.Name x _) [v, .Name y _] [] _ => (decide (x = ("isinstance" : Str)) && (P.free.contains x && P.free.contains y)) && (decide (y = Str.ofString (tyS t)) && (glbB sc x && (glbB sc y && chkE sc a v)))
    | _ => false
  | .bm b o es, e => match e with
    | .Call (.Attribute ob nm apos) args [] pos => decide (nm = Str.ofString (bmK b).1) && ((apos.endLine == pos.line) && (decide (args.length < 29) && (chkE sc o ob && (chkEs sc es args && !isSuper ob))))
    | _ => false
  | .comp elt tg it own cs, e => match e with
    | .ListComp x [⟨t, iter, ifs, 0⟩] scope _ => blkC N sc scope (ownOf N own) && ((tgVars tg).all (fun i => own.contains i) && (chkTg scope (relS scope sc) tg t && (chkIt sc t it iter && (chkT1 (relS scope sc) cs ifs && chkE (relS scope sc) elt x))))
    | _ => false
/-- at most one test -/
def chkT1 (sc : Scope) : Ts → List Expr → Bool
  | .nil, l => match l with
    | [] => true
    | _ :: _ => false
  | .cons e es, l => match es with
    | .nil => match l with
      | [x] => chkT sc e x
      | _ => false
    | _ => false
def chkEs (sc : Scope) : Es → List Expr → Bool
  | .nil, l => match l with
    | [] => true
    | _ :: _ => false
  | .cons e es, l => match l with
    | x :: xs => chkE sc e x && chkEs sc es xs
    | [] => false
def chkKs (sc : Scope) : Es → List Keyword → Bool
  | .nil, l => match l with
    | [] => true
    | _ :: _ => false
  | .cons e es, l => match l with
    | ⟨nm, x, _⟩ :: xs => nm.isSome && (chkE sc e x && chkKs sc es xs)
    | [] => false
def chkT (sc : Scope) : T → Expr → Bool
  | .val a, e => match e with
    | .UnaryOp .Not _ _ => false
    | .BoolOp _ _ _ => false
    | .IfExp _ _ _ _ => false
    | e => chkE sc a e
  | .nt t, e => match e with
    | .UnaryOp .Not x _ => chkT sc t x
    | _ => false
  | .an ts, e => match e with
    | .BoolOp .And vs _ => !vs.isEmpty && chkTs sc ts vs
    | _ => false
  | .or ts, e => match e with
    | .BoolOp .Or vs _ => !vs.isEmpty && chkTs sc ts vs
    | _ => false
def chkTs (sc : Scope) : Ts → List Expr → Bool
  | .nil, l => match l with
    | [] => true
    | _ :: _ => false
  | .cons e es, l => match l with
    | x :: xs => chkT sc e x && chkTs sc es xs
    | [] => false
def chkTg (ts sc : Scope) : Tg → Expr → Bool
  | .nm i, e => match e with
    | .Name x _ => decide (N[i]? = some x) && locB ts x
    | _ => false
  | .tup us, e => match e with
    | .Tuple xs _ _ => chkTgs ts sc us xs
    | _ => false
  | .sub o i, e => match e with
    | .Subscript x y _ => chkE sc o x && chkE sc i y
    | _ => false
def chkTgs (ts sc : Scope) : Tgs → List Expr → Bool
  | .nil, l => match l with
    | [] => true
    | _ :: _ => false
  | .cons e es, l => match l with
    | x :: xs => chkTg ts sc e x && chkTgs ts sc es xs
    | [] => false
def chkIt (sc : Scope) (t : Expr) : It → Expr → Bool
  | .seq a, e => chkE sc a e
  | .rng1 a, e => match e with
    | .Call (.Name x _) [n] [] _ => (decide (x = ("range" : Str)) && P.free.contains x) && (glbB sc x && chkE sc a n)
    | _ => false
  | .rng2 a b, e => match e with
    | .Call (.Name x _) [n, m] [] _ => (decide (x = ("range" : Str)) && P.free.contains x) && (glbB sc x && (chkE sc a n && chkE sc b m))
    | _ => false
  | .rngd a b, e => match e with
    | .Call (.Name x _) [n, m, .UnaryOp .USub c _] [] _ => (decide (x = ("range" : Str)) && P.free.contains x) && (glbB sc x && (chkE sc a n && (chkE sc b m && isOne c)))
    | _ => false
  | .enum a, e => match e with
    | .Call (.Name x _) [n] [] _ => (decide (x = ("enumerate" : Str)) && P.free.contains x) && (glbB sc x && (chkE sc a n && isPairT t))
    | _ => false
  | .zip a b, e => match e with
    | .Call (.Name x _) [n, m] [] _ => (decide (x = ("zip" : Str)) && P.free.contains x) && (glbB sc x && (chkE sc a n && (chkE sc b m && isPairT t)))
    | _ => false
end
end
end QQ

set_option Elab.async false
set_option linter.all false
set_option maxRecDepth 100000
set_option maxHeartbeats 2000000
/-! Q6: the context, calls. -/
namespace QQ
open PySem PySem.Spec PyProof.Rows L2

abbrev veTailQ : List Value := [.type "ValueError", .type "Exception", .type "BaseException", .type "object"]
def permL {α : Type} (l : List α) (perm : List Nat) : List α := perm.filterMap fun i => l[i]?
theorem permD_eq {vs : List D} : ∀ {perm : List Nat} {ws : List D}, permD vs perm = some ws → ws = permL vs perm
  | [], _, h => by cases h; rfl
  | i :: perm, ws, h => by
    unfold permD at h
    rw [List.map_cons] at h
    cases e : vs[i]? with
    | none => rw [e] at h; cases h
    | some x =>
      rw [e] at h
      unfold optAll at h
      cases e2 : optAll (perm.map fun i => vs[i]?) with
      | none => rw [e2] at h; cases h
      | some xs =>
        rw [e2] at h
        cases h
        have ih := permD_eq (vs := vs) (perm := perm) (ws := xs) e2
        unfold permL
        rw [List.filterMap_cons, e]
        show x :: xs = x :: permL vs perm
        rw [ih]
theorem RepAll.perm {K : PySem.W.Frag} {η : List Addr} {H : Hp} {ds : List D} {vs : List V} (r : RepAll K η H ds vs) : ∀ perm : List Nat, RepAll K η H (permL ds perm) (permL vs perm)
  | [] => .nil
  | i :: perm => by
    unfold permL
    rw [List.filterMap_cons, List.filterMap_cons]
    cases e : ds[i]? with
    | none =>
      have : vs[i]? = none := by
        rw [List.getElem?_eq_none_iff] at e ⊢
        rw [← r.length]
        exact e
      rw [this]
      exact RepAll.perm r perm
    | some d =>
      obtain ⟨v, e1, e2⟩ := r.get e
      rw [e1]
      exact .cons e2 (RepAll.perm r perm)
theorem Vals.perm {xs : List V} {us : List Value} (r : Vals xs us) : ∀ perm : List Nat, Vals (permL xs perm) (permL us perm)
  | [] => .nil
  | i :: perm => by
    unfold permL
    rw [List.filterMap_cons, List.filterMap_cons]
    cases e : xs[i]? with
    | none =>
      rw [r.none_of e]
      exact Vals.perm r perm
    | some d =>
      obtain ⟨v, e1, e2⟩ := r.get e
      rw [e1]
      exact .cons e2 (Vals.perm r perm)
/-- what the written part holds of the program -/
structure POk (P : Prog) (G : Glob) (K : PySem.W.Frag) (mg : Str → Option Value) : Prop where
  nm : G.nm = P.attr
  nd : P.attr.Nodup
  cst : ∀ (g : Nat) (x : Str) (d : D), P.cst[g]? = some (x, d) → ∃ u v, mg x = some u ∧ RelV v u ∧ ∀ η H, Rep K η H d v
  fn : ∀ (f : Nat) (F : Fn), P.fns[f]? = some F → ∀ x, nmB P f F x = true → mg x = some (.ref (G.fa f))
  keep : ∀ (f : Nat) (F : Fn), P.fns[f]? = some F → PySem.W.keepIn K (.ref (G.fa f)) = true
  binds : ∀ (f : Nat) (F : Fn), P.fns[f]? = some F → Binds K (G.fd f) (F.N.take F.np) []
  npl : ∀ (f : Nat) (F : Fn), P.fns[f]? = some F → (F.N.take F.np).length = F.np
  kw : ∀ (f n : Nat) (ks : List (Option Str)) (perm : List Nat), (f, n, ks, perm) ∈ P.kwt → ∃ F, P.fns[f]? = some F ∧ ∀ (s : Shared) (us ws : List Value), K.In s.heap → us.length = n → ws.length = ks.length → BindsTo s (G.fd f) ⟨us, (ks.filterMap id).zip ws⟩ ((F.N.take F.np).zip (permL (us ++ ws) perm))
  cls : ∀ (c : Nat) (k : QQ.Cls), P.cls[c]? = some k → L2.Cls K (G.ca c) ∧ mg k.x = some (.ref (G.ca c)) ∧ PySem.W.keepIn K (.ref (G.ca c)) = true
  init : ∀ (c : Nat) (k : QQ.Cls) (f : Nat), P.cls[c]? = some k → k.init = some f → Mk K (G.ca c) (G.fa f) ∧ ∃ F, P.fns[f]? = some F
  bare : ∀ (c : Nat) (k : QQ.Cls), P.cls[c]? = some k → k.init = none → PySem.W.makesIn K (G.ca c) = true ∧ PySem.W.findIn K (.ref (G.ca c)) "__init__" = some (some (.builtin "object.__init__")) ∧ PySem.W.mroIn K (G.ca c) (.type "object") = some true
  meth : ∀ (c : Nat) (k : QQ.Cls) (m f : Nat), P.cls[c]? = some k → k.meth.lookup m = some f → ∃ x F, P.attr[m]? = some x ∧ P.fns[f]? = some F ∧ Meth K (G.ca c) x (G.fa f)
  con : ∀ (c : Nat) (k : QQ.Cls) (f : Nat) (d : D), P.cls[c]? = some k → k.con.lookup f = some d → ∃ x v u, P.attr[f]? = some x ∧ Con K (G.ca c) x v u ∧ ∀ η H, Rep K η H d v
  fld : ∀ (c : Nat) (k : QQ.Cls) (f : Nat), P.cls[c]? = some k → f ∈ k.flds → ∃ x, P.attr[f]? = some x ∧ NoAttr K (G.ca c) x
  free : ∀ x, x ∈ P.free → mg x = none
  imp : ∀ x id, (x, id) ∈ P.imp → mg x = some (.builtin id)
  exn : ∀ (c : Nat) (x : Str) (anc : List Nat), P.exc[c]? = some (x, anc) → mg x = some (.ref (G.ea c)) ∧ PySem.W.excIn K (G.ea c) veTailQ "ValueError.__new__" = true ∧ PySem.W.keepIn K (.ref (G.ea c)) = true ∧ PySem.W.subIn K (.ref (G.ea c)) (.type "BaseException") = some true ∧ PySem.W.typeIn K (.ref (G.ea c)) = some (.type "type")
  exm : ∀ (c : Nat) (x : Str) (anc : List Nat) (c' : Nat), P.exc[c]? = some (x, anc) → c' < P.exc.length → PySem.W.exmOne K (.ref (G.ea c)) (.ref (G.ea c')) = some (anc.contains c')

/-- an exception's payload -/
def PayOk (p : D) (d : Option Addr) : Prop := p = .non ∧ d = none
def Xp (K : PySem.W.Frag) (G : Glob) (Wx : WX) (σ : L2.St) (η : List Addr) (w : W) (H : Hp) : Nat → D → Env → W → Prop := fun c p _ w' => ∀ H' η' d, Stp K G η w H η' w' H' → PayOk p d → Wx (.ref (G.ea c)) d σ H'
/-- what a call of f is worth -/
def spC (C : Ctx) (G : Glob) (K : PySem.W.Frag) (f : Nat) : Sp := fun vs H Q E => ∃ F η w ds, C.P.fns[f]? = some F ∧ ds.length = F.np ∧ Sm K G η w H ∧ RepAll K η H ds vs ∧ (C.call f ds w).sat (Want K G η w H Q) (fun c p _ w' => ∀ H' η' d, Stp K G η w H η' w' H' → PayOk p d → E (.ref (G.ea c)) d H')
structure GoodE (C : Ctx) (G : Glob) (N : List Str) (kk : Nat) (X : Cx) (sc : Scope) : Prop where
  pk : POk C.P G X.K X.mg
  scope : X.env.scope = sc
  names : X.N = N
  nd : N.Nodup
  calm : X.calm = true
  room : Room (kk + 1) X.A
  clen : ∀ (f : Nat) (F : Fn) (ds : List D) (w : W), C.P.fns[f]? = some F → ds.length ≠ F.np → C.call f ds w = .bad
  fns : ∀ (f : Nat) (F : Fn), C.P.fns[f]? = some F → FnOk X.prog X.w X.K X.mg X.base (L2.CX X.prog X.w) kk (G.fa f) (G.fd f) (F.N.take F.np) (spC C G X.K f)
section
variable {C : Ctx} {G : Glob} {N : List Str} {kk : Nat} {X : Cx} {sc : Scope}
theorem GoodE.units (g : GoodE C G N kk X sc) : X.A.units + 64 < cLine := g.room.units
theorem GoodE.room0 (g : GoodE C G N kk X sc) : Room kk X.A := g.room.mono (Nat.le_succ _)
theorem GoodE.gl (g : GoodE C G N kk X sc) {x : Str} (h : glbB sc x = true) : Gl X x := by
  unfold Gl Env.kindOf
  rw [g.scope]
  unfold glbB at h
  split at h
  · assumption
  · cases h
theorem GoodE.vis (g : GoodE C G N kk X sc) {x : Str} (h : visB sc x = true) : Vis X.env.scope x := by
  rw [g.scope]
  unfold visB at h
  unfold Vis
  split at h
  · exact .inl (by assumption)
  · exact .inr (.inl (by assumption))
  · exact .inr (.inr (by assumption))
  · cases h
theorem GoodE.loc (g : GoodE C G N kk X sc) {x : Str} (h : locB sc x = true) : L2.Loc X.env.scope x := by
  rw [g.scope]
  unfold locB at h
  unfold L2.Loc
  split at h
  · exact .inl (by assumption)
  · exact .inr (by assumption)
  · cases h
theorem okN1 {x : Str} (h : okN x = true) : (x == ("__debug__" : Str)) = false := by
  unfold okN at h
  rw [Bool.and_eq_true] at h
  simpa using h.1
theorem okN2 {x : Str} (h : okN x = true) : (x == ("__classdict__" : Str)) = false := by
  unfold okN at h
  rw [Bool.and_eq_true] at h
  simpa using h.2

/-! ### the judgements' readings -/
def tE (C : Ctx) (G : Glob) (K : PySem.W.Frag) (a : E) (Wx : WX) : TE := fun σ H Q => ∃ ρ η w, Sm K G η w H ∧ Slots K η H ρ σ ∧ (evE C ρ a w).sat (Want K G η w H Q) (Xp K G Wx σ η w H)
def tA (C : Ctx) (G : Glob) (K : PySem.W.Frag) (a : Es) (Wx : WX) : TA := fun σ H Q => ∃ ρ η w, Sm K G η w H ∧ Slots K η H ρ σ ∧ (evEs C ρ a w).sat (fun r => ∀ vs H' η', Stp K G η w H η' r.2 H' → RepAll K η' H' r.1 vs → Q vs H') (Xp K G Wx σ η w H)
abbrev WantB (K : PySem.W.Frag) (G : Glob) (η : List Addr) (w : W) (H : Hp) (Q : Bool → Hp → Prop) (r : Bool × W) : Prop := ∀ H' η', Stp K G η w H η' r.2 H' → Q r.1 H'
def tT (C : Ctx) (G : Glob) (K : PySem.W.Frag) (a : T) (Wx : WX) : TT := fun σ H Q => ∃ ρ η w, Sm K G η w H ∧ Slots K η H ρ σ ∧ (evT C ρ a w).sat (WantB K G η w H Q) (Xp K G Wx σ η w H)
def tAll (C : Ctx) (G : Glob) (K : PySem.W.Frag) (a : Ts) (Wx : WX) : TT := fun σ H Q => ∃ ρ η w, Sm K G η w H ∧ Slots K η H ρ σ ∧ (evAll C ρ a w).sat (WantB K G η w H Q) (Xp K G Wx σ η w H)
def tAny (C : Ctx) (G : Glob) (K : PySem.W.Frag) (a : Ts) (Wx : WX) : TT := fun σ H Q => ∃ ρ η w, Sm K G η w H ∧ Slots K η H ρ σ ∧ (evAny C ρ a w).sat (WantB K G η w H Q) (Xp K G Wx σ η w H)
theorem Xp.step {K : PySem.W.Frag} {Wx : WX} {σ : L2.St} {η η1 : List Addr} {w w1 : W} {H H1 : Hp} (S : Sm K G η w H) (st : Stp K G η w H η1 w1 H1) {c : Nat} {p : D} {ρ : Env} {w' : W} (h : Xp K G Wx σ η w H c p ρ w') : Xp K G Wx σ η1 w1 H1 c p ρ w' :=
  fun H' η' d st' pay => h H' η' d (st.trans S st') pay
/-! ### a call -/
/-- the callee runs: the arguments bound as b says -/
theorem run_any {Wx : WX} {pins : List (Addr × Obj)} {σ : L2.St} {H : Hp} {s : Shared} {Q : VK} {us pos : List Value} {kws : List (Str × Value)} {vs : List V} {f : Nat} {F : Fn} {sp : Sp} (k : Nat) (Fk : FnOk X.prog X.w X.K X.mg X.base (L2.CX X.prog X.w) k (G.fa f) (G.fd f) (F.N.take F.np) sp) (hr : Room k X.A)
    (b : BindsTo s (G.fd f) ⟨pos, kws⟩ ((F.N.take F.np).zip us)) (tk : Takes X Wx) (I : Inv X pins σ H s) (r : Vals vs us) (h : sp vs H Q (WE Wx σ)) : wpAny (model X.prog X.w) X.A (call (.ref (G.fa f)) pos kws) (EP X pins σ Q) X.xe s := by
  refine wpAny_call (codeAny_mono (Fk.run X.A X.stack s H ⟨pos, kws⟩ us vs Q (WE Wx σ) hr I.env0 b r h) fun r s' hq => ?_)
  cases r with
  | error e => exact passAt tk σ pins H s e s' I hq
  | ok fl =>
    cases fl with
    | ret u => exact I.after hq
    | next => exact False.elim hq
    | brk => exact False.elim hq
    | cont => exact False.elim hq
theorem run_pos {Wx : WX} {pins : List (Addr × Obj)} {σ : L2.St} {H : Hp} {s : Shared} {Q : VK} {us : List Value} {vs : List V} {f : Nat} {F : Fn} (g : GoodE C G N kk X sc) (hF : C.P.fns[f]? = some F) (tk : Takes X Wx) (I : Inv X pins σ H s) (r : Vals vs us) (h : spC C G X.K f vs H Q (WE Wx σ)) :
    wpAny (model X.prog X.w) X.A (call (.ref (G.fa f)) us) (EP X pins σ Q) X.xe s := by
  have hl : us.length = (F.N.take F.np).length := by
    rw [← r.length]
    exact (g.fns f F hF).len _ _ _ _ h
  have b := g.pk.binds f F hF s us I.kIn (by rw [List.append_nil]; exact hl)
  rw [List.append_nil] at b
  exact run_any kk (g.fns f F hF) g.room0 b tk I r h
/-- C(..) runs -/
theorem run_mk {Wx : WX} {pins : List (Addr × Obj)} {σ : L2.St} {H : Hp} {s : Shared} {Q : VK} {us : List Value} {vs : List V} {c f : Nat} {F : Fn} (g : GoodE C G N kk X sc) (M : Mk X.K (G.ca c) (G.fa f)) (hF : C.P.fns[f]? = some F) (tk : Takes X Wx) (I : Inv X pins σ H s) (r : Vals vs us)
    (h : ∀ x dx, H x = none → H dx = none → dx ≠ x → spC C G X.K f (.ref x :: vs) (upd (upd H dx (.own x)) x (.ins (G.ca c) dx [])) (fun v H2 => v = .non ∧ Q (.ref x) H2) (WE Wx σ)) :
    wpAny (model X.prog X.w) X.A (call (.ref (G.ca c)) us) (EP X pins σ Q) X.xe s := by
  have hq := h (s.heap.objs.size + 1) s.heap.objs.size (I.hok.fresh (Nat.le_succ _)) (I.hok.fresh (Nat.le_refl _)) (Nat.ne_of_lt (Nat.lt_succ_self _))
  have I2 := Inv.made (C := G.ca c) I
  have r2 : Vals (V.ref (s.heap.objs.size + 1) :: vs) (Value.ref (s.heap.objs.size + 1) :: us) := .cons rfl r
  have Fk := g.fns f F hF
  have hl : (Value.ref (s.heap.objs.size + 1) :: us).length = (F.N.take F.np).length := by
    rw [← r2.length]
    exact Fk.len _ _ _ _ hq
  have b := g.pk.binds f F hF _ (Value.ref (s.heap.objs.size + 1) :: us) I2.kIn (by rw [List.append_nil]; exact hl)
  rw [List.append_nil] at b
  refine wpAny_call (make_map (f := G.fa f) I.kIn M.makes M.init (beq_iff_eq.mp M.fn) (codeAny_mono (Fk.run _ X.stack _ _ ⟨Value.ref (s.heap.objs.size + 1) :: us, []⟩ (Value.ref (s.heap.objs.size + 1) :: us) _ _ (WE Wx σ) (g.room.make (G.ca c) us [])
    (I2.env0.make (G.ca c) us []) b r2 hq) fun r s' hq' => ?_))
  cases r with
  | error e => exact passAt tk σ pins _ _ e s' I2 hq'
  | ok fl =>
    cases fl with
    | ret u =>
      obtain ⟨v, H', I3, rv, ev, q3⟩ := I2.after hq'
      subst ev
      exact ⟨rv, ⟨V.ref (s.heap.objs.size + 1), H', I3, rfl, q3⟩⟩
    | next => exact False.elim hq'
    | brk => exact False.elim hq'
    | cont => exact False.elim hq'
/-- C() where no __init__ stands -/
theorem run_bare {pins : List (Addr × Obj)} {σ : L2.St} {H : Hp} {s : Shared} {Q : VK} {c : Addr} (mk : PySem.W.makesIn X.K c = true) (hi : PySem.W.findIn X.K (.ref c) "__init__" = some (some (.builtin "object.__init__"))) (top : PySem.W.mroIn X.K c (.type "object") = some true) (I : Inv X pins σ H s)
    (h : ∀ x dx, H x = none → H dx = none → dx ≠ x → Q (.ref x) (upd (upd H dx (.own x)) x (.ins c dx []))) :
    wpAny (model X.prog X.w) X.A (call (.ref c) []) (EP X pins σ Q) X.xe s := by
  have hq := h (s.heap.objs.size + 1) s.heap.objs.size (I.hok.fresh (Nat.le_succ _)) (I.hok.fresh (Nat.le_refl _)) (Nat.ne_of_lt (Nat.lt_succ_self _))
  have I2 := Inv.made (C := c) I
  refine wpAny_call (make_map0 I.kIn mk hi (fun self => PySem.W.Looks.of_pure (PySem.W.oi_bind _)) ?_)
  obtain ⟨_, _, _, ho, _⟩ := I2.hok (s.heap.objs.size + 1) _ upd_same
  have t2 : PySem.W.Looks (model X.prog X.w) ((s.heap.push PySem.W.emptyDict).push (PySem.W.instObj c s.heap.objs.size)) (isInstance (.ref (s.heap.objs.size + 1)) (.type "object")) true := (NwA.type_at ho rfl).andThen (PySem.W.looks_mroIn I2.kIn top)
  refine codeAny_call_builtin PySem.W.oi_plain PySem.W.entry_oi (@PySem.W.check_slot (model X.prog X.w) _ _ _ "object.__init__" "object" "__init__" (.ref (s.heap.objs.size + 1)) [] [] _ PySem.W.oi_kind PySem.W.oi_split t2 (NwA.oi_args_any (.ref (s.heap.objs.size + 1)) [] []) ?_)
  rw [PySem.W.oi_run]
  exact wpAny_pure ⟨rfl, ⟨V.ref (s.heap.objs.size + 1), _, I2, rfl, hq⟩⟩
end
end QQ

set_option Elab.async false
set_option linter.all false
set_option maxRecDepth 100000
set_option maxHeartbeats 4000000
/-! Q7: expressions. -/
namespace QQ
open PySem PySem.Spec PyProof.Rows L2

section
variable {P : Prog} {N : List Str} {sc : Scope}
theorem and2 {a b : Bool} (h : (a && b) = true) : a = true ∧ b = true := Bool.and_eq_true_iff.mp h
theorem chk_star (a : E) (x : Expr) (p : Pos) : chkE P N sc a (.Starred x p) = false := by cases a <;> rfl
theorem star_cons {a : E} {e : Expr} (h : chkE P N sc a e = true) (rest : List Expr) (env : PySem.Env) : starEach (e :: rest) env = (false, eval e env) :: starEach rest env := by
  cases e <;> first | rfl | (rw [chk_star] at h; cases h)
theorem star_all (env : PySem.Env) : ∀ {es : Es} {l : List Expr}, chkEs P N sc es l = true → starEach l env = l.map fun e => (false, eval e env)
  | .nil, [], _ => rfl
  | .nil, _ :: _, h => by cases h
  | .cons _ _, [], h => by cases h
  | .cons a es, e :: l, h => by
    have h1 : (chkE P N sc a e && chkEs P N sc es l) = true := h
    obtain ⟨h1, h2⟩ := and2 h1
    rw [star_cons h1, star_all env h2]
    rfl
theorem plain_any (pos : Pos) (env : PySem.Env) {es : Es} {l : List Expr} (h : chkEs P N sc es l = true) : (backTo pos (starEach l env)).any (·.1) = false := by
  rw [star_all env h]
  unfold backTo
  rw [List.map_map, List.any_map, List.any_eq_false]
  intro x _
  simp
theorem plain_all (pos : Pos) (env : PySem.Env) {es : Es} {l : List Expr} (h : chkEs P N sc es l = true) : (backTo pos (starEach l env)).all (fun x => !x.1) = true := by
  rw [star_all env h]
  unfold backTo
  rw [List.map_map, List.all_map, List.all_eq_true]
  intro x _
  simp
theorem chk_set (a : E) (l : List Expr) (k : Nat) (p : Pos) : chkE P N sc a (.Set l k p) = false := by cases a <;> rfl
theorem chk_slice (a : E) (x y z : Option Expr) (p : Pos) : chkE P N sc a (.Slice x y z p) = false := by cases a <;> rfl
theorem no_marks {a : E} {e : Expr} (h : chkE P N sc a e = true) (op : CmpOp) : behindInMarks op e = false := by
  cases e <;> first | rfl | (rw [chk_set] at h; cases h)
theorem plain_ix {a : E} {e : Expr} (h : chkE P N sc a e = true) : PlainIx e := by
  intro o i
  cases e <;> first | rfl | (rw [chk_slice] at h; cases h)
theorem no_fold {a : E} {e : Expr} (h : chkE P N sc a e = true) (env : PySem.Env) (x : Value) : foldedSetIterable e env x = pure x := by
  cases e <;> first | rfl | (rw [chk_set] at h; cases h)
theorem base_of {e : Expr} {nm : Str} {env : PySem.Env} (h : isSuper e = false) : attributeBase e nm env (eval e env) = eval e env := by
  unfold attributeBase
  split
  · rename_i id np pos
    have h1 : (id == ("super" : Str)) = false := h
    have h2 : (id != ("super" : Str)) = true := by rw [bne, h1]; rfl
    rw [h2]
    simp
  · rfl
/-- whether a test is asked by the value -/
theorem val_true {a : E} {e : Expr} {t : T} (h : chkT P N sc (.val a) e = true) : chkE P N sc a e = true ∧ ((∀ (env : PySem.Env) (whole : Sem Value), isTrue e env whole = (do let v ← whole; standAt e.pos; holding [v] (truthy v))) ∨ ∃ l ops cs p, e = .Compare l ops cs p) := by
  cases e with
  | UnaryOp op x p => cases op <;> first | (cases h; done) | exact ⟨h, .inl fun _ _ => rfl⟩
  | BoolOp _ _ _ => cases h
  | IfExp _ _ _ _ => cases h
  | Compare l ops cs p => exact ⟨h, .inr ⟨l, ops, cs, p, rfl⟩⟩
  | _ => exact ⟨h, .inl fun _ _ => rfl⟩
end
theorem K_items {K : PySem.W.Frag} {ca : Nat → Addr} {nm : List Str} {η : List Addr} {w : W} {H : Hp} {P : Prog} {d : D} {c : Nat} {fs : List (Nat × D)} {v : V} (S : Sim K ca nm η w.cs H) (h : insOf P w d = some (c, fs)) (r : Rep K η H d v) :
    ∃ n a dx vs, d = .ref n ∧ v = .ref a ∧ η[n]? = some a ∧ w.cs[n]? = some (.ins c fs) ∧ H a = some (.ins (ca c) dx vs) ∧ FRep K nm η H fs vs := by
  cases d with
  | ref n =>
    unfold insOf at h
    simp only at h
    split at h
    · rename_i c' fs' e
      cases h
      cases r with
      | ref e2 =>
        rename_i a
        obtain ⟨dx, vs, h1, h2⟩ := S.cell n _ a e e2
        exact ⟨n, a, dx, vs, rfl, rfl, e2, e, h1, h2⟩
    · cases h
  | _ => cases h
section
variable {C : QQ.Ctx} {G : Glob} {N : List Str} {kk : Nat}
/-- an attribute -/
theorem getF_ok {X : Cx} {sc : Scope} (g : GoodE C G N kk X sc) {η : List Addr} {w : W} {H : Hp} (S : Sm X.K G η w H) {o d : D} {x : V} {f : Nat} {fn : Str} {Q : VK} (hf : C.P.attr[f]? = some fn) (h : getF C.P w o f = some d) (r : Rep X.K η H o x) (q : ∀ v, Rep X.K η H d v → Q v H) :
    (∃ a c dx fs v, x = .ref a ∧ H a = some (.ins c dx fs) ∧ L2.Cls X.K c ∧ NoAttr X.K c fn ∧ fs.lookup fn = some v ∧ Q v H) ∨ (∃ a c dx fs v u, x = .ref a ∧ H a = some (.ins c dx fs) ∧ L2.Cls X.K c ∧ Con X.K c fn v u ∧ fs.lookup fn = none ∧ Q v H) := by
  unfold getF at h
  split at h
  · rename_i c fs e1
    split at h
    · rename_i k e2
      obtain ⟨n, a, dx, vs, rfl, rfl, e3, e4, e5, fr⟩ := K_items S e1 r
      have nd := g.pk.nd
      have hf' : G.nm[f]? = some fn := by rw [g.pk.nm]; exact hf
      have lk := FRep.look (by rw [g.pk.nm]; exact nd) hf' fr
      obtain ⟨cl, _, _⟩ := g.pk.cls c k e2
      split at h
      · rename_i d' e6
        split at h
        · rename_i e7
          cases h
          obtain ⟨v, g1, g2⟩ := lk.1 _ e6
          obtain ⟨x', ex, na⟩ := g.pk.fld c k f e2 (by simpa using e7)
          rw [hf] at ex
          cases ex
          exact .inl ⟨a, _, dx, vs, v, rfl, e5, cl, na, g1, q v g2⟩
        · cases h
      · rename_i e6
        obtain ⟨x', v, u, ex, co, rp⟩ := g.pk.con c k f d e2 h
        rw [hf] at ex
        cases ex
        exact .inr ⟨a, _, dx, vs, v, u, rfl, e5, cl, co, lk.2 e6, q v (rp _ _)⟩
    · cases h
  · cases h
theorem pe_getF {X : Cx} {e : Expr} {te : TE} {f : Str} {pos : Pos} (he : PE X e te) (hb : attributeBase e f X.env (eval e X.env) = eval e X.env) :
    PE X (.Attribute e f pos) (fun σ H Q => te σ H fun x H1 => (∃ a c dx fs v, x = .ref a ∧ H1 a = some (.ins c dx fs) ∧ L2.Cls X.K c ∧ NoAttr X.K c f ∧ fs.lookup f = some v ∧ Q v H1) ∨ (∃ a c dx fs v u, x = .ref a ∧ H1 a = some (.ins c dx fs) ∧ L2.Cls X.K c ∧ Con X.K c f v u ∧ fs.lookup f = none ∧ Q v H1)) := by
  refine ⟨fun pins s σ H Q I h => ?_⟩
  refine attr_of hb (thn (he.run pins s σ H _ I h) fun u s1 ⟨x, H1, I1, r1, q1⟩ => ?_)
  rcases q1 with ⟨a, c, dx, fs, v, ex, e1, cl, na, lk, q⟩ | ⟨a, c, dx, fs, v, u', ex, e1, cl, co, lk, q⟩
  · subst ex
    cases r1
    exact getattr_ok I1 e1 cl na lk fun w' s' I' r' => ⟨v, H1, I', r', q⟩
  · subst ex
    cases r1
    exact getcon_ok I1 e1 cl co lk fun s' I' => ⟨v, H1, I', co.rel, q⟩
end
end QQ

set_option Elab.async false
set_option linter.all false
set_option maxRecDepth 100000
set_option maxHeartbeats 4000000
/-! Q8: each construct by its rule. -/
namespace QQ
open PySem PySem.Spec PyProof.Rows L2

section
variable {C : QQ.Ctx} {G : Glob} {N : List Str} {kk : Nat} {X : Cx} {sc : Scope} {Wx : WX}
theorem q_var (g : GoodE C G N kk X sc) {i : Nat} {x : Str} {pos : Pos} (h1 : N[i]? = some x) (h2 : visB sc x = true) (h3 : okN x = true) : PE X (.Name x pos) (tE C G X.K (.var i) Wx) := by
  refine ⟨fun pins s σ H Q I h => ?_⟩
  obtain ⟨ρ, η, w, S, sl, h⟩ := h
  refine (pe_var (i := i) (by rw [g.names]; exact h1) (g.vis h2) (okN1 h3) (okN2 h3)).run pins s σ H Q I ?_
  have h : (match ρ[i]? with | some (some d) => R.ok (d, w) | _ => .bad).sat (Want X.K G η w H Q) (Xp X.K G Wx σ η w H) := h
  split at h
  · rename_i d e
    obtain ⟨v, e1, r⟩ := sl.2 i d e
    exact ⟨v, e1, h v H η (Step.refl S) r⟩
  · exact h.elim
theorem q_cst {d : D} {c : Const} {k : Nat} {pos : Pos} (h1 : cstB d c = true) : PE X (.Constant c k pos) (tE C G X.K (.cst d) Wx) := by
  refine ⟨fun pins s σ H Q I h => ?_⟩
  obtain ⟨ρ, η, w, S, sl, h⟩ := h
  have h : Want X.K G η w H Q (d, w) := h
  cases d with
  | int i =>
    cases c with
    | int j =>
      have e : i = j := of_decide_eq_true h1
      subst e
      exact pe_int.run pins s σ H Q I (h _ H η (Step.refl S) (.int i))
    | _ => cases h1
  | bl b =>
    cases c with
    | bool j =>
      have e : b = j := of_decide_eq_true h1
      subst e
      exact pe_bl.run pins s σ H Q I (h _ H η (Step.refl S) (.bl b))
    | _ => cases h1
  | non =>
    cases c with
    | none => exact pe_non.run pins s σ H Q I (h _ H η (Step.refl S) .non)
    | _ => cases h1
  | str b =>
    cases c with
    | str j =>
      have e : b = j := of_decide_eq_true h1
      subst e
      exact pe_str.run pins s σ H Q I (h _ H η (Step.refl S) (.str b))
    | _ => cases h1
  | _ => cases c <;> cases h1
theorem q_glob (g : GoodE C G N kk X sc) {i : Nat} {x : Str} {d : D} {pos : Pos} (h1 : C.P.cst[i]? = some (x, d)) (h2 : glbB sc x = true) (h3 : okN x = true) : PE X (.Name x pos) (tE C G X.K (.glob i) Wx) := by
  refine ⟨fun pins s σ H Q I h => ?_⟩
  obtain ⟨ρ, η, w, S, sl, h⟩ := h
  obtain ⟨u, v, e1, e2, e3⟩ := g.pk.cst i x d h1
  refine (pe_glob (g.gl h2) e1 e2 (okN1 h3)).run pins s σ H Q I ?_
  have h : (match C.P.cst[i]? with | some (_, d) => R.ok (d, w) | none => .bad).sat (Want X.K G η w H Q) (Xp X.K G Wx σ η w H) := h
  rw [h1] at h
  exact h v H η (Step.refl S) (e3 η H)
/-- one part -/
theorem un_E {a : E} {e : Expr} (ha : PE X e (tE C G X.K a Wx)) {ρ : QQ.Env} {η : List Addr} {w : W} {σ : L2.St} {H : Hp} {f : D × W → R (D × W)} {Q : VK} {R1 : V → Hp → Prop} (S : Sm X.K G η w H) (sl : Slots X.K η H ρ σ) (h : ((evE C ρ a w).bind f).sat (Want X.K G η w H Q) (Xp X.K G Wx σ η w H))
    (k : ∀ r v H1 η1, Stp X.K G η w H η1 r.2 H1 → Rep X.K η1 H1 r.1 v → Slots X.K η1 H1 ρ σ → (f r).sat (Want X.K G η1 r.2 H1 Q) (Xp X.K G Wx σ η1 r.2 H1) → R1 v H1) : tE C G X.K a Wx σ H R1 := by
  rw [sat_bind] at h
  refine ⟨ρ, η, w, S, sl, sat_mono h (fun r hr v H1 η1 st rv => k r v H1 η1 st rv (sl.step S st) ?_) fun _ _ _ _ z => z⟩
  exact sat_mono hr (fun q hq u H2 η2 st2 ru => hq u H2 η2 (st.trans S st2) ru) fun c p ρ' w' z => z.step S st
/-- the same, whatever is wanted behind -/
theorem un_G {α : Type} {a : E} {e : Expr} (ha : PE X e (tE C G X.K a Wx)) {ρ : QQ.Env} {η : List Addr} {w : W} {σ : L2.St} {H : Hp} {f : D × W → R α} {Φ : α → Prop} {Z : Nat → D → QQ.Env → W → Prop} {R1 : V → Hp → Prop} (S : Sm X.K G η w H) (sl : Slots X.K η H ρ σ) (h : ((evE C ρ a w).bind f).sat Φ Z)
    (hz : ∀ c p ρ w', Z c p ρ w' → Xp X.K G Wx σ η w H c p ρ w')
    (k : ∀ r v H1 η1, Stp X.K G η w H η1 r.2 H1 → Rep X.K η1 H1 r.1 v → Slots X.K η1 H1 ρ σ → (f r).sat Φ Z → R1 v H1) : tE C G X.K a Wx σ H R1 := by
  rw [sat_bind] at h
  exact ⟨ρ, η, w, S, sl, sat_mono h (fun r hr v H1 η1 st rv => k r v H1 η1 st rv (sl.step S st) hr) hz⟩
theorem q_bin {o : Op2} {a b : E} {l r : Expr} {pos : Pos} (ha : PE X l (tE C G X.K a Wx)) (hb : PE X r (tE C G X.K b Wx)) : PE X (.BinOp l (astOp o) r pos) (tE C G X.K (.bin o a b) Wx) := by
  refine ⟨fun pins s σ H Q I h => ?_⟩
  obtain ⟨ρ, η, w, S, sl, h⟩ := h
  refine (pe_op opAny ha hb).run pins s σ H Q I (un_E ha S sl h fun r1 v H1 η1 st rv sl1 h1 => un_E hb st.sim sl1 h1 fun r2 u H2 η2 st2 ru _ h2 => ?_)
  obtain ⟨res, e1, want⟩ := sat_ofO h2
  exact op_ok st2.sim (rv.step st.sim st2) ru e1 want
theorem q_neg {a : E} {l : Expr} {pos : Pos} (ha : PE X l (tE C G X.K a Wx)) : PE X (.UnaryOp .USub l pos) (tE C G X.K (.neg a) Wx) := by
  refine ⟨fun pins s σ H Q I h => ?_⟩
  obtain ⟨ρ, η, w, S, sl, h⟩ := h
  refine (pe_un un_neg ha).run pins s σ H Q I (un_E ha S sl h fun r1 v H1 η1 st rv sl1 h1 => ?_)
  obtain ⟨d, w1⟩ := r1
  cases d with
  | int i =>
    cases rv
    exact ⟨i, rfl, h1 _ _ η1 (Step.refl st.sim) (.int _)⟩
  | _ => exact h1.elim
theorem q_cmp (g : GoodE C G N kk X sc) {c : Cp} {a b : E} {l r : Expr} {pos : Pos} (ha : PE X l (tE C G X.K a Wx)) (hb : PE X r (tE C G X.K b Wx)) (hm : behindInMarks (astCp c) r = false) : PE X (.Compare l [astCp c] [r] pos) (tE C G X.K (.cmp c a b) Wx) := by
  refine ⟨fun pins s σ H Q I h => ?_⟩
  obtain ⟨ρ, η, w, S, sl, h⟩ := h
  refine (pe_cmpR opAny ha hb hm).run pins s σ H Q I (un_E ha S sl h fun r1 v H1 η1 st rv sl1 h1 => un_E hb st.sim sl1 h1 fun r2 u H2 η2 st2 ru _ h2 => ?_)
  split at h2
  · rename_i k e1
    exact cp_ok g.units st2.sim (rv.step st.sim st2) ru e1 (h2 _ _ η2 (Step.refl st2.sim) (.bl _))
  · exact h2.elim
theorem q_notv {a : E} {l : Expr} {pos : Pos} (ha : PE X l (tE C G X.K a Wx)) : PE X (.UnaryOp .Not l pos) (tE C G X.K (.notv a) Wx) := by
  refine ⟨fun pins s σ H Q I h => ?_⟩
  obtain ⟨ρ, η, w, S, sl, h⟩ := h
  refine (pe_not ha).run pins s σ H Q I (un_E ha S sl h fun r1 v H1 η1 st rv sl1 h1 => ?_)
  obtain ⟨d, w1⟩ := r1
  cases d with
  | bl i =>
    cases rv
    exact ⟨i, rfl, h1 _ _ η1 (Step.refl st.sim) (.bl _)⟩
  | _ => exact h1.elim
theorem q_chain (g : GoodE C G N kk X sc) {c c' : Cp} {a b d : E} {l r r' : Expr} {pos : Pos} (ha : PE X l (tE C G X.K a Wx)) (hb : PE X r (tE C G X.K b Wx)) (hd : PE X r' (tE C G X.K d Wx)) (hm' : behindInMarks (astCp c') r' = false) : PE X (.Compare l [astCp c, astCp c'] [r, r'] pos) (tE C G X.K (.chain c c' a b d) Wx) := by
  refine ⟨fun pins s σ H Q I h => ?_⟩
  obtain ⟨ρ, η, w, S, sl, h⟩ := h
  refine (pe_chain opAny opAny ha hb hd (hm := hm')).run pins s σ H Q I (un_E ha S sl h fun r1 v H1 η1 st rv sl1 h1 => un_E hb st.sim sl1 h1 fun r2 u H2 η2 st2 ru sl2 h2 => ?_)
  split at h2
  · rename_i e1
    have P1 := cp_ok (Q := fun z H3 => ∃ k, z = .bl k ∧ if k = true then tE C G X.K d Wx σ H3 (fun x H4 => rAny X (compareOp (astCp c')) u x H4 Q) else Q (.bl false) H3) g.units st2.sim (rv.step st.sim st2) ru e1 ⟨true, rfl, by
      rw [if_pos rfl]
      refine un_E hd st2.sim sl2 h2 fun r3 x H3 η3 st3 rx _ h3 => ?_
      split at h3
      · rename_i k e2
        exact cp_ok g.units st3.sim (ru.step st2.sim st3) rx e2 (h3 _ _ η3 (Step.refl st3.sim) (.bl _))
      · exact h3.elim⟩
    exact P1
  · rename_i e1
    exact cp_ok (Q := fun z H3 => ∃ k, z = .bl k ∧ if k = true then tE C G X.K d Wx σ H3 (fun x H4 => rAny X (compareOp (astCp c')) u x H4 Q) else Q (.bl false) H3) g.units st2.sim (rv.step st.sim st2) ru e1 ⟨false, rfl, by
      rw [if_neg Bool.false_ne_true]
      exact h2 _ _ η2 (Step.refl st2.sim) (.bl _)⟩
  · exact h2.elim
theorem q_t_cmp (g : GoodE C G N kk X sc) {c : Cp} {a b : E} {l r : Expr} {pos : Pos} (ha : PE X l (tE C G X.K a Wx)) (hb : PE X r (tE C G X.K b Wx)) (hm : behindInMarks (astCp c) r = false) : PT X (.Compare l [astCp c] [r] pos) (tT C G X.K (.val (.cmp c a b)) Wx) := by
  refine ⟨fun pins s σ H Q I h => ?_⟩
  obtain ⟨ρ, η, w, S, sl, h⟩ := h
  have h : (((evE C ρ a w).bind fun r => (evE C ρ b r.2).bind fun q => match cpSem c r.1 q.1 q.2 with
    | some k => R.ok (D.bl k, q.2)
    | none => R.bad).bind fun r => match r.1 with
    | .bl k => R.ok (k, r.2)
    | _ => R.bad).sat (WantB X.K G η w H Q) (Xp X.K G Wx σ η w H) := h
  rw [sat_bind] at h
  refine (pt_cmpR opAny ha hb hm).run pins s σ H Q I (un_G ha S sl h (fun _ _ _ _ z => z) fun r1 v H1 η1 st rv sl1 h1 => un_G hb st.sim sl1 h1 (fun _ _ _ _ z => z.step S st) fun r2 u H2 η2 st2 ru _ h2 => ?_)
  split at h2
  · rename_i k e1
    exact cp_ok (Q := fun x H' => ∃ k, x = .bl k ∧ Q k H') g.units st2.sim (rv.step st.sim st2) ru e1 ⟨k, rfl, h2 H2 η2 (st.trans S st2)⟩
  · exact h2.elim
theorem q_t_chain (g : GoodE C G N kk X sc) {c c' : Cp} {a b d : E} {l r r' : Expr} {pos : Pos} (ha : PE X l (tE C G X.K a Wx)) (hb : PE X r (tE C G X.K b Wx)) (hd : PE X r' (tE C G X.K d Wx)) (hm' : behindInMarks (astCp c') r' = false) :
    PT X (.Compare l [astCp c, astCp c'] [r, r'] pos) (tT C G X.K (.val (.chain c c' a b d)) Wx) := by
  refine ⟨fun pins s σ H Q I h => ?_⟩
  obtain ⟨ρ, η, w, S, sl, h⟩ := h
  have h : (((evE C ρ a w).bind fun r => (evE C ρ b r.2).bind fun q => match cpSem c r.1 q.1 q.2 with
    | some true => (evE C ρ d q.2).bind fun p => match cpSem c' q.1 p.1 p.2 with
      | some k => R.ok (D.bl k, p.2)
      | none => R.bad
    | some false => R.ok (D.bl false, q.2)
    | none => R.bad).bind fun r => match r.1 with
    | .bl k => R.ok (k, r.2)
    | _ => R.bad).sat (WantB X.K G η w H Q) (Xp X.K G Wx σ η w H) := h
  rw [sat_bind] at h
  refine (pt_chain opAny opAny ha hb hd (hm := hm')).run pins s σ H Q I (un_G ha S sl h (fun _ _ _ _ z => z) fun r1 v H1 η1 st rv sl1 h1 => un_G hb st.sim sl1 h1 (fun _ _ _ _ z => z.step S st) fun r2 u H2 η2 st2 ru sl2 h2 => ?_)
  have st12 := st.trans S st2
  split at h2
  · rename_i e1
    exact cp_ok (Q := fun z H3 => ∃ k, z = .bl k ∧ if k = true then tE C G X.K d Wx σ H3 (fun x H4 => rAny X (compareOp (astCp c')) u x H4 fun x H' => ∃ k, x = .bl k ∧ Q k H') else (∃ k, V.bl false = .bl k ∧ Q k H3)) g.units st2.sim (rv.step st.sim st2) ru e1 ⟨true, rfl, by
      rw [if_pos rfl]
      refine un_G hd st2.sim sl2 h2 (fun _ _ _ _ z => z.step S st12) fun r3 x H3 η3 st3 rx _ h3 => ?_
      split at h3
      · rename_i k e2
        exact cp_ok (Q := fun x H' => ∃ k, x = .bl k ∧ Q k H') g.units st3.sim (ru.step st2.sim st3) rx e2 ⟨k, rfl, h3 H3 η3 (st12.trans S st3)⟩
      · exact h3.elim⟩
  · rename_i e1
    exact cp_ok (Q := fun z H3 => ∃ k, z = .bl k ∧ if k = true then tE C G X.K d Wx σ H3 (fun x H4 => rAny X (compareOp (astCp c')) u x H4 fun x H' => ∃ k, x = .bl k ∧ Q k H') else (∃ k, V.bl false = .bl k ∧ Q k H3)) g.units st2.sim (rv.step st.sim st2) ru e1 ⟨false, rfl, by
      rw [if_neg Bool.false_ne_true]
      exact ⟨false, rfl, h2 H2 η2 st12⟩⟩
  · exact h2.elim
theorem q_t_val {a : E} {e : Expr} (ha : PE X e (tE C G X.K a Wx)) (he : ∀ whole, isTrue e X.env whole = (do let v ← whole; standAt e.pos; holding [v] (truthy v))) : PT X e (tT C G X.K (.val a) Wx) := by
  refine ⟨fun pins s σ H Q I h => ?_⟩
  obtain ⟨ρ, η, w, S, sl, h⟩ := h
  refine (pt_val ha he).run pins s σ H Q I (un_G ha S sl h (fun _ _ _ _ z => z) fun r1 v H1 η1 st rv sl1 h1 => ?_)
  obtain ⟨d, w1⟩ := r1
  cases d with
  | bl i =>
    cases rv
    exact ⟨i, rfl, h1 _ η1 st⟩
  | _ => exact h1.elim
theorem q_t_not {t : T} {e : Expr} {pos : Pos} (ht : PT X e (tT C G X.K t Wx)) : PT X (.UnaryOp .Not e pos) (tT C G X.K (.nt t) Wx) := by
  refine ⟨fun pins s σ H Q I h => ?_⟩
  obtain ⟨ρ, η, w, S, sl, h⟩ := h
  have h : ((evT C ρ t w).bind fun r => .ok (!r.1, r.2)).sat (WantB X.K G η w H Q) (Xp X.K G Wx σ η w H) := h
  rw [sat_bind] at h
  exact (pt_not ht).run pins s σ H Q I ⟨ρ, η, w, S, sl, sat_mono h (fun r hr H1 η1 st => hr H1 η1 st) fun _ _ _ _ z => z⟩
/-- a test behind another -/
theorem un_T {t : T} {e : Expr} (ht : PT X e (tT C G X.K t Wx)) {α : Type} {ρ : QQ.Env} {η : List Addr} {w : W} {σ : L2.St} {H : Hp} {f : Bool × W → R α} {Φ : α → Prop} {Z : Nat → D → QQ.Env → W → Prop} {R1 : Bool → Hp → Prop} (S : Sm X.K G η w H) (sl : Slots X.K η H ρ σ) (h : ((evT C ρ t w).bind f).sat Φ Z)
    (hz : ∀ c p ρ w', Z c p ρ w' → Xp X.K G Wx σ η w H c p ρ w')
    (k : ∀ (r : Bool × W) H1 η1, Stp X.K G η w H η1 r.2 H1 → Slots X.K η1 H1 ρ σ → (f r).sat Φ Z → R1 r.1 H1) : tT C G X.K t Wx σ H R1 := by
  rw [sat_bind] at h
  exact ⟨ρ, η, w, S, sl, sat_mono h (fun r hr H1 η1 st => k r H1 η1 st (sl.step S st) hr) hz⟩
theorem q_an1 {t : T} {e : Expr} {pos : Pos} (ht : PT X e (tT C G X.K t Wx)) : PW X (.BoolOp .And [e] pos) (tAll C G X.K (.cons t .nil) Wx) := by
  refine ⟨fun wh pins s σ H Q I h => ?_⟩
  obtain ⟨ρ, η, w, S, sl, h⟩ := h
  refine (pw_and1 ht).run wh pins s σ H Q I (un_T ht S sl h (fun _ _ _ _ z => z) fun r H1 η1 st sl1 h1 => ?_)
  obtain ⟨k, w1⟩ := r
  cases k with
  | true => exact h1 H1 η1 st
  | false => exact h1 H1 η1 st
theorem q_an {t : T} {ts : Ts} {e e' : Expr} {l : List Expr} {pos : Pos} (ht : PT X e (tT C G X.K t Wx)) (hts : PW X (.BoolOp .And (e' :: l) pos) (tAll C G X.K ts Wx)) : PW X (.BoolOp .And (e :: e' :: l) pos) (tAll C G X.K (.cons t ts) Wx) := by
  refine ⟨fun wh pins s σ H Q I h => ?_⟩
  obtain ⟨ρ, η, w, S, sl, h⟩ := h
  refine (pw_and ht hts).run wh pins s σ H Q I (un_T ht S sl h (fun _ _ _ _ z => z) fun r H1 η1 st sl1 h1 => ?_)
  obtain ⟨k, w1⟩ := r
  cases k with
  | true => exact ⟨ρ, η1, w1, st.sim, sl1, sat_mono h1 (fun q hq H2 η2 st2 => hq H2 η2 (st.trans S st2)) fun c p ρ' w' z => z.step S st⟩
  | false => exact h1 H1 η1 st
theorem q_or1 {t : T} {e : Expr} {pos : Pos} (ht : PT X e (tT C G X.K t Wx)) : PW X (.BoolOp .Or [e] pos) (tAny C G X.K (.cons t .nil) Wx) := by
  refine ⟨fun wh pins s σ H Q I h => ?_⟩
  obtain ⟨ρ, η, w, S, sl, h⟩ := h
  refine (pw_or1 ht).run wh pins s σ H Q I (un_T ht S sl h (fun _ _ _ _ z => z) fun r H1 η1 st sl1 h1 => ?_)
  obtain ⟨k, w1⟩ := r
  cases k with
  | true => exact h1 H1 η1 st
  | false => exact h1 H1 η1 st
theorem q_or {t : T} {ts : Ts} {e e' : Expr} {l : List Expr} {pos : Pos} (ht : PT X e (tT C G X.K t Wx)) (hts : PW X (.BoolOp .Or (e' :: l) pos) (tAny C G X.K ts Wx)) : PW X (.BoolOp .Or (e :: e' :: l) pos) (tAny C G X.K (.cons t ts) Wx) := by
  refine ⟨fun wh pins s σ H Q I h => ?_⟩
  obtain ⟨ρ, η, w, S, sl, h⟩ := h
  refine (pw_or ht hts).run wh pins s σ H Q I (un_T ht S sl h (fun _ _ _ _ z => z) fun r H1 η1 st sl1 h1 => ?_)
  obtain ⟨k, w1⟩ := r
  cases k with
  | true => exact h1 H1 η1 st
  | false => exact ⟨ρ, η1, w1, st.sim, sl1, sat_mono h1 (fun q hq H2 η2 st2 => hq H2 η2 (st.trans S st2)) fun c p ρ' w' z => z.step S st⟩
/-! ### and, or as values -/
def tAndV (C : QQ.Ctx) (G : Glob) (K : PySem.W.Frag) (a : Es) (Wx : WX) : TE := fun σ H Q => ∃ ρ η w, Sm K G η w H ∧ Slots K η H ρ σ ∧ (evAnd C ρ a w).sat (Want K G η w H Q) (Xp K G Wx σ η w H)
def tOrV (C : QQ.Ctx) (G : Glob) (K : PySem.W.Frag) (a : Es) (Wx : WX) : TE := fun σ H Q => ∃ ρ η w, Sm K G η w H ∧ Slots K η H ρ σ ∧ (evOr C ρ a w).sat (Want K G η w H Q) (Xp K G Wx σ η w H)
theorem q_av1 {a : E} {e : Expr} {pos : Pos} (ha : PE X e (tE C G X.K a Wx)) : PE X (.BoolOp .And [e] pos) (QQ.tAndV C G X.K (.cons a .nil) Wx) := ⟨fun pins s σ H Q I h => (pe_one ha).run pins s σ H Q I h⟩
theorem q_ov1 {a : E} {e : Expr} {pos : Pos} (ha : PE X e (tE C G X.K a Wx)) : PE X (.BoolOp .Or [e] pos) (QQ.tOrV C G X.K (.cons a .nil) Wx) := ⟨fun pins s σ H Q I h => (pe_one ha).run pins s σ H Q I h⟩
theorem q_av {a b : E} {es : Es} {e e' : Expr} {l : List Expr} {pos : Pos} (ha : PE X e (tE C G X.K a Wx)) (hes : PE X (.BoolOp .And (e' :: l) pos) (QQ.tAndV C G X.K (.cons b es) Wx)) : PE X (.BoolOp .And (e :: e' :: l) pos) (QQ.tAndV C G X.K (.cons a (.cons b es)) Wx) := by
  refine ⟨fun pins s σ H Q I h => ?_⟩
  obtain ⟨ρ, η, w, S, sl, h⟩ := h
  refine (pe_and ha hes).run pins s σ H Q I (un_E ha S sl h fun r v H1 η1 st rv sl1 h1 => ?_)
  obtain ⟨d, w1⟩ := r
  cases d with
  | bl k =>
    cases rv
    refine ⟨k, rfl, ?_⟩
    cases k with
    | true => exact ⟨ρ, η1, w1, st.sim, sl1, h1⟩
    | false => exact h1 _ _ η1 (Step.refl st.sim) (.bl _)
  | _ => exact h1.elim
theorem q_ov {a b : E} {es : Es} {e e' : Expr} {l : List Expr} {pos : Pos} (ha : PE X e (tE C G X.K a Wx)) (hes : PE X (.BoolOp .Or (e' :: l) pos) (QQ.tOrV C G X.K (.cons b es) Wx)) : PE X (.BoolOp .Or (e :: e' :: l) pos) (QQ.tOrV C G X.K (.cons a (.cons b es)) Wx) := by
  refine ⟨fun pins s σ H Q I h => ?_⟩
  obtain ⟨ρ, η, w, S, sl, h⟩ := h
  refine (pe_or ha hes).run pins s σ H Q I (un_E ha S sl h fun r v H1 η1 st rv sl1 h1 => ?_)
  obtain ⟨d, w1⟩ := r
  cases d with
  | bl k =>
    cases rv
    refine ⟨k, rfl, ?_⟩
    cases k with
    | true => exact h1 _ _ η1 (Step.refl st.sim) (.bl _)
    | false => exact ⟨ρ, η1, w1, st.sim, sl1, h1⟩
  | _ => exact h1.elim
theorem q_ifx {t : T} {a b : E} {c x y : Expr} {pos : Pos} (ht : PT X c (tT C G X.K t Wx)) (ha : PE X x (tE C G X.K a Wx)) (hb : PE X y (tE C G X.K b Wx)) : PE X (.IfExp c x y pos) (tE C G X.K (.ifx t a b) Wx) := by
  refine ⟨fun pins s σ H Q I h => ?_⟩
  obtain ⟨ρ, η, w, S, sl, h⟩ := h
  refine (pe_ifExp ht ha hb).run pins s σ H Q I (un_T ht S sl h (fun _ _ _ _ z => z) fun r H1 η1 st sl1 h1 => ?_)
  obtain ⟨k, w1⟩ := r
  have go : ∀ {a : E}, (evE C ρ a w1).sat (Want X.K G η w H Q) (Xp X.K G Wx σ η w H) → tE C G X.K a Wx σ H1 Q := fun {a} h1 =>
    ⟨ρ, η1, w1, st.sim, sl1, sat_mono h1 (fun q hq v H2 η2 st2 rv => hq v H2 η2 (st.trans S st2) rv) fun c p ρ' w' z => z.step S st⟩
  cases k with
  | true => exact go h1
  | false => exact go h1
/-! ### lists of arguments -/
theorem q_nil : PA X [] (tA C G X.K .nil Wx) := by
  refine ⟨fun pos pins s σ H Q I h => ?_⟩
  obtain ⟨ρ, η, w, S, sl, h⟩ := h
  exact pa_nil.run pos pins s σ H Q I (h [] H η (Step.refl S) .nil)
theorem q_cons {a : E} {es : Es} {e : Expr} {l : List Expr} (ha : PE X e (tE C G X.K a Wx)) (hl : PA X l (tA C G X.K es Wx)) (hs : starEach (e :: l) X.env = (false, eval e X.env) :: starEach l X.env) : PA X (e :: l) (tA C G X.K (.cons a es) Wx) := by
  refine ⟨fun pos pins s σ H Q I h => ?_⟩
  obtain ⟨ρ, η, w, S, sl, h⟩ := h
  refine (pa_cons ha hl hs).run pos pins s σ H Q I (un_G ha S sl h (fun _ _ _ _ z => z) fun r v H1 η1 st rv sl1 h1 => ?_)
  rw [sat_bind] at h1
  exact ⟨ρ, η1, r.2, st.sim, sl1, sat_mono h1 (fun q hq vs H2 η2 st2 rvs => hq (v :: vs) H2 η2 (st.trans S st2) (.cons (rv.step st.sim st2) rvs)) fun c p ρ' w' z => z.step S st⟩
theorem q_knil : PK X [] (tA C G X.K .nil Wx) := by
  refine ⟨fun pos pins s σ H Q I h => ?_⟩
  obtain ⟨ρ, η, w, S, sl, h⟩ := h
  exact pk_nil.run pos pins s σ H Q I (h [] H η (Step.refl S) .nil)
theorem q_kcons {a : E} {es : Es} {e : Expr} {l : List Keyword} {nm : Option Str} {kp : Pos} (ha : PE X e (tE C G X.K a Wx)) (hl : PK X l (tA C G X.K es Wx)) : PK X (⟨nm, e, kp⟩ :: l) (tA C G X.K (.cons a es) Wx) := by
  refine ⟨fun pos pins s σ H Q I h => ?_⟩
  obtain ⟨ρ, η, w, S, sl, h⟩ := h
  refine (pk_cons ha hl).run pos pins s σ H Q I (un_G ha S sl h (fun _ _ _ _ z => z) fun r v H1 η1 st rv sl1 h1 => ?_)
  rw [sat_bind] at h1
  exact ⟨ρ, η1, r.2, st.sim, sl1, sat_mono h1 (fun q hq vs H2 η2 st2 rvs => hq (v :: vs) H2 η2 (st.trans S st2) (.cons (rv.step st.sim st2) rvs)) fun c p ρ' w' z => z.step S st⟩
/-- arguments, then something -/
theorem un_A {a : Es} {l : List Expr} (ha : PA X l (tA C G X.K a Wx)) {α : Type} {ρ : QQ.Env} {η : List Addr} {w : W} {σ : L2.St} {H : Hp} {f : List D × W → R α} {Φ : α → Prop} {Z : Nat → D → QQ.Env → W → Prop} {R1 : List V → Hp → Prop} (S : Sm X.K G η w H) (sl : Slots X.K η H ρ σ) (h : ((evEs C ρ a w).bind f).sat Φ Z)
    (hz : ∀ c p ρ w', Z c p ρ w' → Xp X.K G Wx σ η w H c p ρ w')
    (k : ∀ r vs H1 η1, Stp X.K G η w H η1 r.2 H1 → RepAll X.K η1 H1 r.1 vs → Slots X.K η1 H1 ρ σ → (f r).sat Φ Z → R1 vs H1) : tA C G X.K a Wx σ H R1 := by
  rw [sat_bind] at h
  exact ⟨ρ, η, w, S, sl, sat_mono h (fun r hr v H1 η1 st rv => k r v H1 η1 st rv (sl.step S st) hr) hz⟩
theorem q_tup {es : Es} {l : List Expr} {k : Nat} {pos : Pos} (ha : PA X l (tA C G X.K es Wx)) : PE X (.Tuple l k pos) (tE C G X.K (.tup es) Wx) := by
  refine ⟨fun pins s σ H Q I h => ?_⟩
  obtain ⟨ρ, η, w, S, sl, h⟩ := h
  refine (pe_tup ha).run pins s σ H Q I (un_A ha S sl h (fun _ _ _ _ z => z) fun r vs H1 η1 st rvs sl1 h1 => ?_)
  split at h1
  · rename_i c
    refine ⟨by rw [← rvs.length, ← line_eq]; exact c, fun p hp => ?_⟩
    obtain ⟨st2, rp⟩ := made_tup st.sim hp rvs
    exact h1 _ _ _ (st.trans S st2) rp
  · exact h1.elim
theorem q_lst {es : Es} {l : List Expr} {pos : Pos} (ha : PA X l (tA C G X.K es Wx)) : PE X (.List l pos) (tE C G X.K (.lst es) Wx) := by
  refine ⟨fun pins s σ H Q I h => ?_⟩
  obtain ⟨ρ, η, w, S, sl, h⟩ := h
  refine (pe_lst ha).run pins s σ H Q I (un_A ha S sl h (fun _ _ _ _ z => z) fun r vs H1 η1 st rvs sl1 h1 => ?_)
  split at h1
  · rename_i c
    refine ⟨by rw [← rvs.length, ← line_eq]; exact c, fun p hp => ?_⟩
    obtain ⟨st2, rp⟩ := made_list st.sim hp rvs
    exact h1 _ _ _ (st.trans S st2) rp
  · exact h1.elim
theorem q_idx {a b : E} {l r : Expr} {pos : Pos} (ha : PE X l (tE C G X.K a Wx)) (hb : PE X r (tE C G X.K b Wx)) (hp : PlainIx r) : PE X (.Subscript l r pos) (tE C G X.K (.idx a b) Wx) := by
  refine ⟨fun pins s σ H Q I h => ?_⟩
  obtain ⟨ρ, η, w, S, sl, h⟩ := h
  refine (pe_ix ixAny_ok ha hb hp).run pins s σ H Q I (un_E ha S sl h fun r1 v H1 η1 st rv sl1 h1 => un_E hb st.sim sl1 h1 fun r2 u H2 η2 st2 ru _ h2 => ?_)
  split at h2
  · rename_i d e
    exact ix_ok st2.sim e (rv.step st.sim st2) ru fun x rx => h2 x _ η2 (Step.refl st2.sim) rx
  · exact h2.elim
theorem q_rev {a : E} {l : Expr} {c : Expr} {p1 p2 p3 : Pos} (ha : PE X l (tE C G X.K a Wx)) (hc : isOne c = true) : PE X (.Subscript l (.Slice none none (some (.UnaryOp .USub c p1)) p2) p3) (tE C G X.K (.rev a) Wx) := by
  obtain ⟨k, p, rfl⟩ : ∃ k p, c = .Constant (.int 1) k p := by
    unfold isOne at hc
    split at hc
    · exact ⟨_, _, rfl⟩
    · cases hc
  refine ⟨fun pins s σ H Q I h => ?_⟩
  obtain ⟨ρ, η, w, S, sl, h⟩ := h
  refine (pe_revA ha).run pins s σ H Q I (un_E ha S sl h fun r1 v H1 η1 st rv sl1 h1 => ?_)
  obtain ⟨res, e1, want⟩ := sat_ofO h1
  exact rev_ok st.sim e1 rv want
theorem q_slc0 {a : E} {l : Expr} {p1 p2 : Pos} (ha : PE X l (tE C G X.K a Wx)) : PE X (.Subscript l (.Slice none none none p1) p2) (tE C G X.K (.slc0 a) Wx) := by
  refine ⟨fun pins s σ H Q I h => ?_⟩
  obtain ⟨ρ, η, w, S, sl, h⟩ := h
  refine (pe_slice slAny_ok ha po_none po_none).run pins s σ H Q I (un_E ha S sl h fun r1 v H1 η1 st rv sl1 h1 => ?_)
  obtain ⟨res, e1, want⟩ := sat_ofO h1
  exact sl_ok st.sim e1 rv want
theorem q_slc1 {a b : E} {l x : Expr} {p1 p2 : Pos} (ha : PE X l (tE C G X.K a Wx)) (hb : PE X x (tE C G X.K b Wx)) : PE X (.Subscript l (.Slice (some x) none none p1) p2) (tE C G X.K (.slc1 a b) Wx) := by
  refine ⟨fun pins s σ H Q I h => ?_⟩
  obtain ⟨ρ, η, w, S, sl, h⟩ := h
  refine (pe_slice slAny_ok ha (po_some hb) po_none).run pins s σ H Q I (un_E ha S sl h fun r1 v H1 η1 st rv sl1 h1 => un_E hb st.sim sl1 h1 fun r2 u H2 η2 st2 ru _ h2 => ?_)
  obtain ⟨d, w2⟩ := r2
  cases d with
  | int i =>
    cases ru
    obtain ⟨res, e1, want⟩ := sat_ofO h2
    exact ⟨i, rfl, sl_ok st2.sim e1 (rv.step st.sim st2) want⟩
  | _ => exact h2.elim
theorem q_slc2 {a b : E} {l x : Expr} {p1 p2 : Pos} (ha : PE X l (tE C G X.K a Wx)) (hb : PE X x (tE C G X.K b Wx)) : PE X (.Subscript l (.Slice none (some x) none p1) p2) (tE C G X.K (.slc2 a b) Wx) := by
  refine ⟨fun pins s σ H Q I h => ?_⟩
  obtain ⟨ρ, η, w, S, sl, h⟩ := h
  refine (pe_slice slAny_ok ha po_none (po_some hb)).run pins s σ H Q I (un_E ha S sl h fun r1 v H1 η1 st rv sl1 h1 => un_E hb st.sim sl1 h1 fun r2 u H2 η2 st2 ru _ h2 => ?_)
  obtain ⟨d, w2⟩ := r2
  cases d with
  | int i =>
    cases ru
    obtain ⟨res, e1, want⟩ := sat_ofO h2
    exact ⟨i, rfl, sl_ok st2.sim e1 (rv.step st.sim st2) want⟩
  | _ => exact h2.elim
theorem q_slc3 {a b b' : E} {l x x' : Expr} {p1 p2 : Pos} (ha : PE X l (tE C G X.K a Wx)) (hb : PE X x (tE C G X.K b Wx)) (hb' : PE X x' (tE C G X.K b' Wx)) : PE X (.Subscript l (.Slice (some x) (some x') none p1) p2) (tE C G X.K (.slc3 a b b') Wx) := by
  refine ⟨fun pins s σ H Q I h => ?_⟩
  obtain ⟨ρ, η, w, S, sl, h⟩ := h
  refine (pe_slice slAny_ok ha (po_some hb) (po_some hb')).run pins s σ H Q I (un_E ha S sl h fun r1 v H1 η1 st rv sl1 h1 => un_E hb st.sim sl1 h1 fun r2 u H2 η2 st2 ru sl2 h2 => ?_)
  obtain ⟨d, w2⟩ := r2
  cases d with
  | int i =>
    cases ru
    refine ⟨i, rfl, un_E hb' st2.sim sl2 h2 fun r3 u3 H3 η3 st3 ru3 _ h3 => ?_⟩
    obtain ⟨d3, w3⟩ := r3
    cases d3 with
    | int j =>
      cases ru3
      obtain ⟨res, e1, want⟩ := sat_ofO h3
      exact ⟨j, rfl, sl_ok st3.sim e1 ((rv.step st.sim st2).step st2.sim st3) want⟩
    | _ => exact h3.elim
  | _ => exact h2.elim
end
end QQ

set_option Elab.async false
set_option linter.all false
set_option maxRecDepth 100000
set_option maxHeartbeats 4000000
/-! Q9: calls, attributes, built-in functions. -/
namespace QQ
open PySem PySem.Spec PyProof.Rows L2

section
variable {C : QQ.Ctx} {G : Glob} {N : List Str} {kk : Nat} {X : Cx} {sc : Scope} {Wx : WX}
theorem nil_args {P : Prog} {l : List Expr} (hc : chkEs P N sc .nil l = true) : l = [] := by
  cases l with
  | nil => rfl
  | cons => cases hc
theorem cons_args {P : Prog} {a : E} {es : Es} {l : List Expr} (hc : chkEs P N sc (.cons a es) l = true) : ∃ e l', l = e :: l' ∧ chkE P N sc a e = true ∧ chkEs P N sc es l' = true := by
  cases l with
  | nil => cases hc
  | cons e l' =>
    have h1 : (chkE P N sc a e && chkEs P N sc es l') = true := hc
    obtain ⟨h1, h2⟩ := and2 h1
    exact ⟨e, l', rfl, h1, h2⟩
/-- the arguments, then the call -/
theorem args_run {P : Prog} {es : Es} {l : List Expr} {pos : Pos} {pins : List (Addr × Obj)} {s : Shared} {σ : L2.St} {H : Hp} {R1 : List V → Hp → Prop} {fv : Value} {first : List Value} {Q : Value → Shared → Prop} (hc : chkEs P N sc es l = true) (ha : PA X l (tA C G X.K es Wx)) (hk : PySem.W.keepIn X.K fv = true)
    (I : L2.Inv X pins σ H s) (h : tA C G X.K es Wx σ H R1) (run : ∀ vs us H1 s1, L2.Inv X pins σ H1 s1 → Vals vs us → R1 vs H1 → wpAny (model X.prog X.w) X.A (PySem.call fv (first ++ us)) Q X.xe s1) :
    wpAny (model X.prog X.w) X.A (callWith pos fv first (backTo pos (starEach l X.env)) (backToKw pos (keywordEach [] X.env))) Q X.xe s := by
  cases es with
  | nil =>
    cases nil_args hc
    obtain ⟨ρ, η, w, S, sl, h⟩ := h
    exact PySem.W.callWith_K0 I.kIn hk (run [] [] H s I .nil (h [] H η (Step.refl S) .nil))
  | cons a es =>
    obtain ⟨e, l', rfl, h1, h2⟩ := cons_args hc
    exact PySem.W.callWith_K (h₀ := X.base) I.ok.mod.kin hk (thn (ha.run pos pins s σ H _ I h) fun us s1 ⟨vs, H1, I1, r, q⟩ => ⟨I1.kIn, run vs us H1 s1 I1 r q⟩) (star_cons h1 l' X.env) (plain_any pos X.env h2)
/-- what a call of f is worth, behind its arguments -/
theorem sp_cur {f : Nat} {F : Fn} {η0 : List Addr} {w0 : W} {H0 : Hp} {ρ : QQ.Env} {η : List Addr} {w : W} {H : Hp} {ds : List D} {vs : List V} {σ : L2.St} {Q : VK} (g : GoodE C G N kk X sc) (hF : C.P.fns[f]? = some F) (st : Stp X.K G η0 w0 H0 η w H) (S0 : Sm X.K G η0 w0 H0) (r : RepAll X.K η H ds vs)
    (h : ((C.call f ds w).env ρ).sat (Want X.K G η w H Q) (Xp X.K G Wx σ η0 w0 H0)) : spC C G X.K f vs H Q (WE Wx σ) := by
  rw [sat_env] at h
  have hl : ds.length = F.np := by
    by_cases e : ds.length = F.np
    · exact e
    · rw [g.clen f F ds w hF e] at h
      exact h.elim
  refine ⟨F, η, w, ds, hF, hl, st.sim, r, ?_⟩
  exact sat_mono h (fun q hq => hq) fun c p ρ' w' z H' η' d st' pay => z H' η' d (st.trans S0 st') pay
theorem sp_of {f : Nat} {F : Fn} {η0 : List Addr} {w0 : W} {H0 : Hp} {ρ : QQ.Env} {η : List Addr} {w : W} {H : Hp} {ds : List D} {vs : List V} {σ : L2.St} {Q : VK} (g : GoodE C G N kk X sc) (hF : C.P.fns[f]? = some F) (st : Stp X.K G η0 w0 H0 η w H) (S0 : Sm X.K G η0 w0 H0) (r : RepAll X.K η H ds vs)
    (h : ((C.call f ds w).env ρ).sat (Want X.K G η0 w0 H0 Q) (Xp X.K G Wx σ η0 w0 H0)) : spC C G X.K f vs H Q (WE Wx σ) :=
  sp_cur g hF st S0 r (sat_mono h (fun q hq v H' η' st' rv => hq v H' η' (st.trans S0 st') rv) fun _ _ _ _ z => z)
theorem q_call (g : GoodE C G N kk X sc) (tk : Takes X Wx) {f : Nat} {F : Fn} {x : Str} {es : Es} {l : List Expr} {p pos : Pos} (hF : C.P.fns[f]? = some F) (hg : nmB C.P f F x = true) (h2 : glbB sc x = true) (h3 : okN x = true) (hc : chkEs C.P N sc es l = true) (ha : PA X l (tA C G X.K es Wx)) :
    PE X (.Call (.Name x p) l [] pos) (tE C G X.K (.call f es) Wx) := by
  refine ⟨fun pins s σ H Q I h => ?_⟩
  obtain ⟨ρ, η, w, S, sl, h⟩ := h
  refine wpAny_Call_Name_kw (ld_glob I (g.gl h2) (g.pk.fn f F hF _ hg) ?_ (okN1 h3))
  refine args_run hc ha (g.pk.keep f F hF) I (un_A ha S sl h (fun _ _ _ _ z => z) fun r vs H1 η1 st rvs sl1 h1 => sp_of g hF st S rvs h1) fun vs us H1 s1 I1 rv q => ?_
  exact run_pos g hF tk I1 rv q
theorem kws_all (pos : Pos) (env : PySem.Env) : ∀ {es : Es} {l : List Keyword}, chkKs C.P N sc es l = true → (backToKw pos (keywordEach l env)).all (·.1.isSome) = true ∧ (backToKw pos (keywordEach l env)).any (·.1.isNone) = false ∧ (backToKw pos (keywordEach l env)).filterMap (·.1) = (l.map (·.arg)).filterMap id
  | .nil, [], _ => ⟨rfl, rfl, rfl⟩
  | .nil, _ :: _, h => by cases h
  | .cons _ _, [], h => by cases h
  | .cons a es, ⟨nm, e, kp⟩ :: l, h => by
    have h1 : (nm.isSome && (chkE C.P N sc a e && chkKs C.P N sc es l)) = true := h
    obtain ⟨h1, h2⟩ := and2 h1
    obtain ⟨h2, h3⟩ := and2 h2
    obtain ⟨i1, i2, i3⟩ := kws_all pos env h3
    cases nm with
    | none => cases h1
    | some nm =>
      refine ⟨i1, i2, ?_⟩
      show nm :: (backToKw pos (keywordEach l env)).filterMap (·.1) = nm :: (l.map (·.arg)).filterMap id
      rw [i3]
theorem kws_len : ∀ {es : Es} {l : List Keyword}, chkKs C.P N sc es l = true → ((l.map (·.arg)).filterMap id).length = l.length
  | .nil, [], _ => rfl
  | .nil, _ :: _, h => by cases h
  | .cons _ _, [], h => by cases h
  | .cons a es, ⟨nm, e, kp⟩ :: l, h => by
    have h1 : (nm.isSome && (chkE C.P N sc a e && chkKs C.P N sc es l)) = true := h
    obtain ⟨h1, h2⟩ := and2 h1
    obtain ⟨h2, h3⟩ := and2 h2
    cases nm with
    | none => cases h1
    | some nm =>
      show (nm :: (l.map (·.arg)).filterMap id).length = l.length + 1
      rw [List.length_cons, kws_len h3]
/-- how many values a list of arguments gives -/
theorem evEs_len (ρ : QQ.Env) : ∀ {es : Es} {l : List Expr} {w : W} {Φ : List D × W → Prop} {Z : Nat → D → QQ.Env → W → Prop}, chkEs C.P N sc es l = true → (evEs C ρ es w).sat Φ Z → (evEs C ρ es w).sat (fun r => Φ r ∧ r.1.length = l.length) Z
  | .nil, [], w, Φ, Z, _, h => ⟨h, rfl⟩
  | .nil, _ :: _, _, _, _, h, _ => by cases h
  | .cons _ _, [], _, _, _, h, _ => by cases h
  | .cons a es, e :: l, w, Φ, Z, hc, h => by
    have h1 : (chkE C.P N sc a e && chkEs C.P N sc es l) = true := hc
    obtain ⟨h1, h2⟩ := and2 h1
    have h : ((evE C ρ a w).bind fun r => (evEs C ρ es r.2).bind fun q => R.ok (r.1 :: q.1, q.2)).sat Φ Z := h
    show ((evE C ρ a w).bind fun r => (evEs C ρ es r.2).bind fun q => R.ok (r.1 :: q.1, q.2)).sat _ Z
    rw [sat_bind] at h ⊢
    refine sat_mono h (fun r hr => ?_) fun _ _ _ _ z => z
    rw [sat_bind] at hr ⊢
    exact sat_mono (evEs_len ρ h2 hr) (fun q hq => ⟨hq.1, by show q.1.length + 1 = l.length + 1; rw [hq.2]⟩) fun _ _ _ _ z => z
theorem evKs_len (ρ : QQ.Env) : ∀ {es : Es} {l : List Keyword} {w : W} {Φ : List D × W → Prop} {Z : Nat → D → QQ.Env → W → Prop}, chkKs C.P N sc es l = true → (evEs C ρ es w).sat Φ Z → (evEs C ρ es w).sat (fun r => Φ r ∧ r.1.length = l.length) Z
  | .nil, [], w, Φ, Z, _, h => ⟨h, rfl⟩
  | .nil, _ :: _, _, _, _, h, _ => by cases h
  | .cons _ _, [], _, _, _, h, _ => by cases h
  | .cons a es, ⟨nm, e, kp⟩ :: l, w, Φ, Z, hc, h => by
    have h1 : (nm.isSome && (chkE C.P N sc a e && chkKs C.P N sc es l)) = true := hc
    obtain ⟨_, h1⟩ := and2 h1
    obtain ⟨h1, h2⟩ := and2 h1
    have h : ((evE C ρ a w).bind fun r => (evEs C ρ es r.2).bind fun q => R.ok (r.1 :: q.1, q.2)).sat Φ Z := h
    show ((evE C ρ a w).bind fun r => (evEs C ρ es r.2).bind fun q => R.ok (r.1 :: q.1, q.2)).sat _ Z
    rw [sat_bind] at h ⊢
    refine sat_mono h (fun r hr => ?_) fun _ _ _ _ z => z
    rw [sat_bind] at hr ⊢
    exact sat_mono (evKs_len ρ h2 hr) (fun q hq => ⟨hq.1, by show q.1.length + 1 = l.length + 1; rw [hq.2]⟩) fun _ _ _ _ z => z
theorem q_callk (g : GoodE C G N kk X sc) (tk : Takes X Wx) {f : Nat} {F : Fn} {x : Str} {es ks : Es} {perm : List Nat} {l : List Expr} {kws : List Keyword} {p pos : Pos} (hF : C.P.fns[f]? = some F) (hg : nmB C.P f F x = true) (h2 : glbB sc x = true) (h3 : okN x = true) (hk : (f, l.length, kws.map (·.arg), perm) ∈ C.P.kwt)
    (hc : chkEs C.P N sc es l = true) (hkc : chkKs C.P N sc ks kws = true) (ha : PA X l (tA C G X.K es Wx)) (hka : PK X kws (tA C G X.K ks Wx)) : PE X (.Call (.Name x p) l kws pos) (tE C G X.K (.callk f es ks perm) Wx) := by
  refine ⟨fun pins s σ H Q I h => ?_⟩
  obtain ⟨ρ, η, w, S, sl, h⟩ := h
  refine wpAny_Call_Name_kw (ld_glob I (g.gl h2) (g.pk.fn f F hF _ hg) ?_ (okN1 h3))
  obtain ⟨k1, k2, k3⟩ := kws_all pos X.env hkc
  have kl := kws_len hkc
  obtain ⟨F', hF', bd⟩ := g.pk.kw f l.length _ perm hk
  rw [hF] at hF'
  cases hF'
  -- the keywords' part
  have inner : ∀ (vs : List V) (us : List Value) (H1 : Hp) (s1 : Shared) (first : List Value), first = [] → L2.Inv X pins σ H1 s1 → Vals vs us → vs.length = l.length → tA C G X.K ks Wx σ H1 (fun zs H2 => zs.length = kws.length ∧ spC C G X.K f (permL (vs ++ zs) perm) H2 Q (WE Wx σ)) →
      wpAny (model X.prog X.w) X.A (evalAll ((backToKw pos (keywordEach kws X.env)).map (·.2))) (fun ws s2 => X.K.In s2.heap ∧ wpAny (model X.prog X.w) X.A (PySem.call (.ref (G.fa f)) (first ++ us) (((backToKw pos (keywordEach kws X.env)).filterMap (·.1)).zip ws)) (EP X pins σ Q) X.xe s2) X.xe s1 := by
    intro vs us H1 s1 first ef I1 rv lv hh
    refine thn (hka.run pos pins s1 σ H1 _ I1 hh) fun ws s2 ⟨zs, H2, I2, rz, lz, q⟩ => ⟨I2.kIn, ?_⟩
    rw [k3, ef]
    refine run_any kk (g.fns f F hF) g.room0 (bd s2 us ws I2.kIn (rv.length.symm.trans lv) ?_) tk I2 (Vals.perm (rv.append rz) perm) q
    rw [← rz.length, lz, List.length_map]
  have h : ((evEs C ρ es w).bind fun r => (evEs C ρ ks r.2).bind fun q => match permD (r.1 ++ q.1) perm with
    | some vs => (C.call f vs q.2).env ρ
    | none => R.bad).sat (Want X.K G η w H Q) (Xp X.K G Wx σ η w H) := h
  rw [sat_bind] at h
  have h := evEs_len ρ hc h
  have args : tA C G X.K es Wx σ H (fun vs H1 => vs.length = l.length ∧ tA C G X.K ks Wx σ H1 (fun zs H2 => zs.length = kws.length ∧ spC C G X.K f (permL (vs ++ zs) perm) H2 Q (WE Wx σ))) := by
    refine ⟨ρ, η, w, S, sl, sat_mono h (fun r hr vs H1 η1 st rvs => ⟨rvs.length.symm.trans hr.2, ?_⟩) fun _ _ _ _ z => z⟩
    have hr1 := hr.1
    rw [sat_bind] at hr1
    refine ⟨ρ, η1, r.2, st.sim, sl.step S st, sat_mono (evKs_len ρ hkc hr1) (fun q hq zs H2 η2 st2 rzs => ⟨rzs.length.symm.trans hq.2, ?_⟩) fun c p ρ' w' z => z.step S st⟩
    have hq1 := hq.1
    split at hq1
    · rename_i ds e
      have e2 := permD_eq e
      refine sp_of g hF (st.trans S st2) S ?_ hq1
      rw [e2]
      exact RepAll.perm ((rvs.step st.sim st2).append rzs) perm
    · exact hq1.elim
  cases es with
  | nil =>
    cases nil_args hc
    obtain ⟨ρ', η', w', S', sl', h'⟩ := args
    obtain ⟨lv, hh⟩ := h' [] H η' (Step.refl S') .nil
    refine PySem.W.callWith_KW0 (h₀ := X.base) I.ok.mod.kin (g.pk.keep f F hF) k1 ?_ (by rw [k2]; rfl)
    exact inner [] [] H s [] rfl I .nil lv hh
  | cons a es =>
    obtain ⟨e, l', rfl, c1, c2⟩ := cons_args hc
    refine PySem.W.callWith_KW (h₀ := X.base) I.ok.mod.kin (g.pk.keep f F hF) k1 (thn (ha.run pos pins s σ H _ I args) fun us s1 ⟨vs, H1, I1, r, lv, q⟩ => inner vs us H1 s1 [] rfl I1 r lv q) ?_ (star_cons c1 l' X.env)
    rw [k2, plain_any pos X.env hc]
    rfl
end
end QQ

set_option Elab.async false
set_option linter.all false
set_option maxRecDepth 100000
set_option maxHeartbeats 4000000
/-! Q10: objects, built-in functions, methods. -/
namespace QQ
open PySem PySem.Spec PyProof.Rows L2

section
variable {C : QQ.Ctx} {G : Glob} {N : List Str} {kk : Nat} {X : Cx} {sc : Scope} {Wx : WX}
/-- a new instance -/
theorem made_ins {K : PySem.W.Frag} {ca : Nat → Addr} {nm : List Str} {η : List Addr} {w : W} {H : Hp} (S : Sim K ca nm η w.cs H) {x dx : Addr} {c : Nat} (hx : H x = none) (hd : H dx = none) (ne : dx ≠ x) :
    Step K ca nm η w H (η ++ [x]) (w.new (.ins c [])) (upd (upd H dx (.own x)) x (.ins (ca c) dx [])) := by
  have s1 : Step K ca nm η w H η w (upd H dx (.own x)) := Step.beside S hd
  have hx1 : upd H dx (.own x) x = none := by rw [upd_ne ne.symm]; exact hx
  exact Step.trans S s1 (Step.made s1.sim hx1 ⟨dx, [], upd_same, .nil⟩)
theorem q_make (g : GoodE C G N kk X sc) (tk : Takes X Wx) {c : Nat} {k : QQ.Cls} {es : Es} {l : List Expr} {p pos : Pos} (hk : C.P.cls[c]? = some k) (hi : ∀ f, k.init = some f → ∃ F, C.P.fns[f]? = some F) (h2 : glbB sc k.x = true) (h3 : okN k.x = true) (hb : k.init = none → l = [])
    (hc : chkEs C.P N sc es l = true) (ha : PA X l (tA C G X.K es Wx)) : PE X (.Call (.Name k.x p) l [] pos) (tE C G X.K (.make c es) Wx) := by
  refine ⟨fun pins s σ H Q I h => ?_⟩
  obtain ⟨ρ, η, w, S, sl, h⟩ := h
  obtain ⟨_, m1, m2⟩ := g.pk.cls c k hk
  refine wpAny_Call_Name_kw (ld_glob I (g.gl h2) m1 ?_ (okN1 h3))
  have h : ((evEs C ρ es w).bind fun r => match C.P.cls[c]? with
    | some k => match k.init with
      | some f => ((C.call f (.ref r.2.cs.length :: r.1) (r.2.new (.ins c []))).env ρ).bind fun q => match q.1 with
        | .non => R.ok (D.ref r.2.cs.length, q.2)
        | _ => R.bad
      | none => if r.1.isEmpty = true then R.ok (D.ref r.2.cs.length, r.2.new (.ins c [])) else R.bad
    | none => R.bad).sat (Want X.K G η w H Q) (Xp X.K G Wx σ η w H) := h
  rw [hk] at h
  simp only at h
  cases e : k.init with
  | some f =>
    rw [e] at h
    simp only at h
    obtain ⟨F, hF⟩ := hi f e
    obtain ⟨M, _⟩ := g.pk.init c k f hk e
    refine args_run hc ha m2 I (un_A (R1 := fun vs H1 => ∀ x dx, H1 x = none → H1 dx = none → dx ≠ x → spC C G X.K f (.ref x :: vs) (upd (upd H1 dx (.own x)) x (.ins (G.ca c) dx [])) (fun v H2 => v = .non ∧ Q (.ref x) H2) (WE Wx σ)) ha S sl h (fun _ _ _ _ z => z)
      fun r vs H1 η1 st rvs sl1 h1 => fun x dx hx hd ne => ?_) fun vs us H1 s1 I1 rv q => run_mk g M hF tk I1 rv q
    have st2 := made_ins (c := c) st.sim hx hd ne
    have el : η1.length = r.2.cs.length := st.sim.len
    have r0 : Rep X.K (η1 ++ [x]) (upd (upd H1 dx (.own x)) x (.ins (G.ca c) dx [])) (.ref r.2.cs.length) (.ref x) := .ref (by rw [← el]; simp)
    rw [sat_bind] at h1
    refine sp_cur (ρ := ρ) g hF (st.trans S st2) S (.cons r0 (rvs.step st.sim st2)) (sat_mono h1 (fun q hq => ?_) fun _ _ _ _ z => z)
    intro v H' η' st' rv
    split at hq
    · rename_i ev
      rw [ev] at rv
      cases rv
      exact ⟨rfl, hq _ H' η' ((st.trans S st2).trans S st') (.ref (st'.prefix _ _ (by rw [← el]; simp)))⟩
    · exact hq.elim
  | none =>
    rw [e] at h
    simp only at h
    cases hb e
    have : es = .nil := by
      cases es with
      | nil => rfl
      | cons => cases hc
    subst this
    obtain ⟨mk, fi, top⟩ := g.pk.bare c k hk e
    refine PySem.W.callWith_K0 I.kIn m2 (run_bare mk fi top I fun x dx hx hd ne => ?_)
    have st2 := made_ins (c := c) S hx hd ne
    have el : η.length = w.cs.length := S.len
    have h : (if ([] : List D).isEmpty = true then R.ok (D.ref w.cs.length, w.new (.ins c [])) else R.bad).sat (Want X.K G η w H Q) (Xp X.K G Wx σ η w H) := h
    exact h (.ref x) _ _ st2 (.ref (by rw [← el]; simp))
/-- a method's tree -/
theorem meth_tree {o : Expr} {m : Str} {apos pos : Pos} {args : List Expr} {env : PySem.Env} (hb : attributeBase o m env (eval o env) = eval o env) (hst : (backTo pos (starEach args env)).all (fun x => !x.1) = true) (hn : args.length < 29) (hl : (apos.endLine == pos.line) = true) :
    eval (.Call (.Attribute o m apos) args [] pos) env = (do
      let ov ← eval o env
      standAt apos.atName
      let (f, first) ← holding [ov] (getMethod ov m (plainOf o env))
      callWith pos f first (backTo pos (starEach args env)) (backToKw pos (keywordEach [] env))) := by
  have e0 : eval (.Call (.Attribute o m apos) args [] pos) env = (do
    let ov ← attributeBase o m env (eval o env)
    standAt apos.atName
    methodCall o m apos pos env ov (args.length + 0) (backTo pos (starEach args env)) (backToKw pos (keywordEach [] env))) := rfl
  have hf : methodCallForm (args.length + 0) (backTo pos (starEach args env)) (backToKw pos (keywordEach [] env)) = true := by
    unfold methodCallForm
    rw [hst]
    have : decide (args.length + 0 + 0 < 30) = true := decide_eq_true (by omega)
    exact this
  rw [e0, hb]
  congr 1
  funext ov
  congr 1
  funext _
  exact mcall_line hf hl
theorem q_meth (g : GoodE C G N kk X sc) (tk : Takes X Wx) {m : Nat} {o : E} {es : Es} {ob : Expr} {nm : Str} {l : List Expr} {apos pos : Pos} (hm : C.P.attr[m]? = some nm) (hl : (apos.endLine == pos.line) = true) (hn : l.length < 29) (hs : isSuper ob = false)
    (ho : PE X ob (tE C G X.K o Wx)) (hc : chkEs C.P N sc es l = true) (ha : PA X l (tA C G X.K es Wx)) : PE X (.Call (.Attribute ob nm apos) l [] pos) (tE C G X.K (.meth o m es) Wx) := by
  refine ⟨fun pins s σ H Q I h => ?_⟩
  obtain ⟨ρ, η, w, S, sl, h⟩ := h
  refine methcall_of ho I ?_ (meth_tree (base_of hs) (plain_all pos X.env hc) hn hl)
  refine un_G ho S sl h (fun _ _ _ _ z => z) fun r v H1 η1 st rv sl1 h1 => ?_
  split at h1
  · rename_i f hf
    unfold methOf at hf
    split at hf
    · rename_i c fs e1
      split at hf
      · rename_i k e2
        split at hf
        · rename_i e3
          obtain ⟨n, a, dx, vs, rd, rfl, e4, e5, e6, fr⟩ := K_items st.sim e1 rv
          obtain ⟨x', F, ea, hF, M⟩ := g.pk.meth c k m f e2 hf
          rw [hm] at ea
          cases ea
          obtain ⟨cl, _, _⟩ := g.pk.cls c k e2
          have hf' : G.nm[m]? = some nm := by rw [g.pk.nm]; exact hm
          have lk := FRep.look (by rw [g.pk.nm]; exact g.pk.nd) hf' fr
          refine ⟨a, _, dx, vs, G.fa f, rfl, e6, cl, M, lk.2 e3, fun s1 I1 => ?_⟩
          refine args_run hc ha (g.pk.keep f F hF) I1 (un_A ha st.sim sl1 h1 (fun _ _ _ _ z => z.step S st) fun q vs2 H2 η2 st2 rvs sl2 h2 => sp_of g hF (st.trans S st2) S (.cons (rv.step st.sim st2) rvs) h2) fun vs2 us H2 s2 I2 rv2 q => ?_
          exact run_pos (us := .ref a :: us) g hF tk I2 (.cons (show L2.RelV (V.ref a) (Value.ref a) from rfl) rv2) q
        · cases hf
      · cases hf
    · cases hf
  · exact h1.elim
theorem q_fld (g : GoodE C G N kk X sc) {f : Nat} {o : E} {ob : Expr} {nm : Str} {pos : Pos} (hm : C.P.attr[f]? = some nm) (hs : isSuper ob = false) (ho : PE X ob (tE C G X.K o Wx)) : PE X (.Attribute ob nm pos) (tE C G X.K (.fld o f) Wx) := by
  refine ⟨fun pins s σ H Q I h => ?_⟩
  obtain ⟨ρ, η, w, S, sl, h⟩ := h
  refine (pe_getF ho (base_of hs)).run pins s σ H Q I (un_E ho S sl h fun r v H1 η1 st rv sl1 h1 => ?_)
  split at h1
  · rename_i d e
    exact getF_ok g st.sim hm e rv fun v rv => h1 v H1 η1 (Step.refl st.sim) rv
  · exact h1.elim
/-! ### built-in functions -/
theorem boot_bk (b : Blt) : match bltK b with
  | .fn x id => bootBuiltins (Str.ofString x) = some (.builtin id) ∧ Str.ofString x ≠ "__name__"
  | .ty x T => bootBuiltins (Str.ofString x) = some (.type T) ∧ Str.ofString x ≠ "__name__"
  | .imp _ _ => True := by
  cases b <;> first | exact True.intro | exact ⟨by decide +kernel, by decide +kernel⟩
theorem q_blt (g : GoodE C G N kk X sc) {b : Blt} {es : Es} {l : List Expr} {p pos : Pos} (hb : bkB C.P (bltK b) = true) (h2 : glbB sc (bkN (bltK b)) = true) (h3 : okN (bkN (bltK b)) = true) (hne : l.isEmpty = false) (hc : chkEs C.P N sc es l = true) (ha : PA X l (tA C G X.K es Wx)) :
    PE X (.Call (.Name (bkN (bltK b)) p) l [] pos) (tE C G X.K (.blt b es) Wx) := by
  refine ⟨fun pins s σ H Q I h => ?_⟩
  obtain ⟨ρ, η, w, S, sl, h⟩ := h
  have hh : tA C G X.K es Wx σ H (fun vs H1 => cAny X (bkV (bltK b)) vs H1 Q) := by
    refine un_A ha S sl h (fun _ _ _ _ z => z) fun r vs H1 η1 st rvs sl1 h1 => ?_
    obtain ⟨res, e1, want⟩ := sat_ofO h1
    exact blt_ok g.calm st.sim rvs e1 fun v H' η' st' rv' => want v H' η' (st.trans S st') rv'
  have bb := boot_bk b
  cases es with
  | nil => cases nil_args hc; cases hne
  | cons a es =>
    obtain ⟨e, l', rfl, c1, c2⟩ := cons_args hc
    have st := star_cons c1 l' X.env
    have pl := plain_any pos X.env c2
    generalize bltK b = K at *
    cases K with
    | fn x id =>
      have m : X.mg (Str.ofString x) = none := g.pk.free _ (by simpa [bkB] using hb)
      exact (pe_callB callAny (g.gl h2) m bb.1 ha bb.2 (okN1 h3) st pl).run pins s σ H Q I hh
    | ty x T =>
      have m : X.mg (Str.ofString x) = none := g.pk.free _ (by simpa [bkB] using hb)
      exact (pe_callTy callAny (g.gl h2) m bb.1 ha bb.2 (okN1 h3) st pl).run pins s σ H Q I hh
    | imp x id =>
      have m : X.mg (Str.ofString x) = some (.builtin id) := g.pk.imp _ _ (by simpa [bkB] using hb)
      exact (pe_callBfun callAny (g.gl h2) m ha (okN1 h3) st pl).run pins s σ H Q I hh
theorem boot_ty (t : Ty) : bootBuiltins (Str.ofString (tyS t)) = some (.type (tyS t)) ∧ Str.ofString (tyS t) ≠ "__name__" ∧ okN (Str.ofString (tyS t)) = true := by
  cases t <;> exact ⟨by decide +kernel, by decide +kernel, by decide +kernel⟩
theorem q_isi (g : GoodE C G N kk X sc) {t : Ty} {a : E} {e : Expr} {p p2 pos : Pos} (f1 : ("isinstance" : Str) ∈ C.P.free) (f2 : Str.ofString (tyS t) ∈ C.P.free) (h2 : glbB sc "isinstance" = true) (h3 : glbB sc (Str.ofString (tyS t)) = true) (hc : chkE C.P N sc a e = true) (ha : PE X e (tE C G X.K a Wx)) :
    PE X (.Call (.Name "isinstance" p) [e, .Name (Str.ofString (tyS t)) p2] [] pos) (tE C G X.K (.isi t a) Wx) := by
  refine ⟨fun pins s σ H Q I h => ?_⟩
  obtain ⟨ρ, η, w, S, sl, h⟩ := h
  obtain ⟨b1, b2, b3⟩ := boot_ty t
  have hT : PE X (.Name (Str.ofString (tyS t)) p2) (tC (.ty (tyS t))) := pe_bltn (g.gl h3) (g.pk.free _ f2) b1 rfl b2 (okN1 b3)
  have hA : PA X [e, .Name (Str.ofString (tyS t)) p2] (tCons (tE C G X.K a Wx) (tCons (tC (.ty (tyS t))) tNil)) := pa_cons ha (pa_cons hT pa_nil (by rfl)) (star_cons hc _ X.env)
  refine (pe_callB call_isi (g.gl h2) (g.pk.free _ f1) (by decide +kernel) hA (by decide +kernel) (by decide +kernel) (star_cons hc _ X.env) (by rfl)).run pins s σ H Q I ?_
  refine un_E ha S sl h fun r1 v H1 η1 st rv sl1 h1 => ?_
  split at h1
  · rename_i k e1
    exact isi_ok st.sim e1 rv (h1 _ _ η1 (Step.refl st.sim) (.bl _))
  · exact h1.elim
theorem bm_slot (b : Bm) : Slot "list" (Str.ofString (bmK b).1) (bmK b).2 ∧ typeOf (.builtin (bmK b).2) = pure (.type "method_descriptor") := by
  cases b
  · exact ⟨PySem.F.slot_list_append, PySem.F.type_list_append⟩
  · exact ⟨PySem.F.slot_list_extend, PySem.F.type_list_extend⟩
  · exact ⟨PySem.F.slot_list_pop, PySem.F.type_list_pop⟩
  · exact ⟨PySem.F.slot_list_pop, PySem.F.type_list_pop⟩
theorem q_bm {P : Prog} {b : Bm} {o : E} {es : Es} {ob : Expr} {l : List Expr} {apos pos : Pos} (hl : (apos.endLine == pos.line) = true) (hn : l.length < 29) (hs : isSuper ob = false) (ho : PE X ob (tE C G X.K o Wx)) (hc : chkEs P N sc es l = true) (ha : PA X l (tA C G X.K es Wx)) :
    PE X (.Call (.Attribute ob (Str.ofString (bmK b).1) apos) l [] pos) (tE C G X.K (.bm b o es) Wx) := by
  refine ⟨fun pins s σ H Q I h => ?_⟩
  obtain ⟨ρ, η, w, S, sl, h⟩ := h
  obtain ⟨s1, s2⟩ := bm_slot b
  have key : ∀ (r : D × W) (v : V) (H1 : Hp) (η1 : List Addr), Stp X.K G η w H η1 r.2 H1 → Rep X.K η1 H1 r.1 v → Slots X.K η1 H1 ρ σ → (if isL r.2 r.1 = true then (evEs C ρ es r.2).bind fun q => ofO (bmSem b r.1 q.1 q.2) else R.bad).sat (Want X.K G η w H Q) (Xp X.K G Wx σ η w H) →
      tyV X.K "list" v H1 ∧ tA C G X.K es Wx σ H1 (fun xs H2 => mAny X (bmK b).2 v xs H2 Q) := by
    intro r v H1 η1 st rv sl1 h1
    split at h1
    case isFalse => exact h1.elim
    rename_i hL
    have hA : tA C G X.K es Wx σ H1 (fun xs H2 => mAny X (bmK b).2 v xs H2 Q) := by
      refine un_A ha st.sim sl1 h1 (fun _ _ _ _ z => z.step S st) fun q vs H2 η2 st2 rvs sl2 h2 => ?_
      obtain ⟨res, e1, want⟩ := sat_ofO h2
      exact bm_ok st2.sim (rv.step st.sim st2) rvs e1 fun v' H' η' st' rv' => want v' H' η' ((st.trans S st2).trans S st') rv'
    refine ⟨?_, hA⟩
    obtain ⟨d, w1⟩ := r
    cases d with
    | ref n =>
      have hL : (w1.lst n).isSome = true := hL
      obtain ⟨ds, e1⟩ := Option.isSome_iff_exists.mp hL
      obtain ⟨a, ws, rfl, hn, hh, r1⟩ := Sim.lst st.sim e1 rv
      exact .inl ⟨rfl, ws, .inl (.inl hh)⟩
    | _ => cases hL
  cases es with
  | nil =>
    cases nil_args hc
    refine (pe_bm0 PySem.F.plainAttrs_list s1 s2 mAny_ok ho (base_of hs) hl).run pins s σ H Q I (un_G ho S sl h (fun _ _ _ _ z => z) fun r v H1 η1 st rv sl1 h1 => ?_)
    obtain ⟨ty, hA⟩ := key r v H1 η1 st rv sl1 h1
    obtain ⟨ρ', η', w', S', sl', h'⟩ := hA
    exact ⟨ty, h' [] H1 η' (Step.refl S') .nil⟩
  | cons a es =>
    obtain ⟨e, l', rfl, c1, c2⟩ := cons_args hc
    refine (pe_bm PySem.F.plainAttrs_list s1 s2 mAny_ok ho ha (base_of hs) ?_ hl (star_cons c1 l' X.env) (plain_any pos X.env c2)).run pins s σ H Q I (un_G ho S sl h (fun _ _ _ _ z => z) fun r v H1 η1 st rv sl1 h1 => key r v H1 η1 st rv sl1 h1)
    rw [plain_all pos X.env hc]
    have : decide ((e :: l').length + 0 + 0 < 30) = true := decide_eq_true (by omega)
    exact this
end
end QQ

set_option Elab.async false
set_option linter.all false
set_option maxRecDepth 100000
set_option maxHeartbeats 400000
/-! Qd: min(xs, default=d), max(xs, default=d). -/
namespace QQ
open PySem PySem.Spec PyProof.Rows
section
variable {prog : Program} {w : World} {A : Around} {Z : Result → Shared → Prop} {I : Addr} {fp wr : List Addr} {n : Nat} {P : Nat → Value → Prop} {St : Nat → Heap → Prop}
/-- a built-in function given keywords -/
theorem call_tree_kw {A : Around} {E : Value → Shared → Prop} {s : Shared} {id : String} {b : Builtin} {args : List Value} {kw : List (Str × Value)} {Q : Value → Shared → Prop} (hk : builtinKind id = none) (hp : plainId id = true) (hb : entryFor table id = some b) (ha : argsOk id ⟨args, kw⟩)
    (hc : wpAny (model prog w) A.in1 (b ⟨args, kw⟩) (fun fin s' => match fin with
      | .done f => (match (Except.ok f : Result) with | .ok (.ret v) => Q v s' | .ok _ => False | .error e => E e s')
      | .again c' => c'.quiet = true ∧ codeAny (model prog w) A c' (fun r s' => match r with | .ok (.ret v) => Q v s' | .ok _ => False | .error e => E e s') s') E s) : wpAny (model prog w) A (call (.builtin id) args kw) Q E s := by
  refine wpAny_call (codeAny_call_builtin hp hb ?_)
  simp only [checkBuiltinCall, hk]
  cases e : Manifest.signature? id with
  | none => exact wpAny_pure hc
  | some g =>
    have h2 : Bind.checkArgs id g ⟨args, kw⟩ = pure () := by simpa only [argsOk, e] using ha
    simp only [h2]
    exact wpAny_pure hc

theorem args_mindk (a d : Value) : argsOk "min" ⟨[a], [("default", d)]⟩ := by unfold argsOk; kernel_rfl
/-- the loop, whatever keywords it was given -/
theorem loop_min (W : Walks prog w A.in1 I fp wr n P St) (bt : Nat → Nat → Bool) (hcmp : CmpOf prog w A.in1 .Lt P bt) (S : Addr) (hSf : S ∉ fp) (kws : List (Str × Value)) (m : Nat) : ∀ (j : Nat) (s : Shared) (vb : Value) (c : Nat), j + 1 + m = n → St (j + 1) s.heap → P (argBest bt j) vb →
    s.heap.get? S = some { cls := .type "list", dict := none, data := .seq #[vb, vb] c, slots := #[] } → (∀ v h' tk, P (argBest bt (n - 1)) v → (∀ b o, b ∉ wr → b ≠ S → s.heap.get? b = some o → h'.get? b = some o) → Z (.ok (.ret v)) { s with heap := h', toks := tk }) →
    codeAny (model prog w) A (.builtin "min.loop" ⟨[.ref I, .none, .ref S], kws⟩) Z s := by
  have nw : S ∉ wr := fun z => hSf (W.sub _ z)
  have nm : (toString "min" ++ toString ".loop" : String) = "min.loop" := by decide
  induction m with
  | zero =>
    intro j s vb c hj st hP hS fin
    have ej : n = j + 1 := by omega
    refine codeAny_builtin F.entry_min_loop ?_; rw [Around.under_plainId F.plain_min_loop _]
    show wpAny _ A.in1 (seqItems? (.ref S) >>= _) _ _ s
    refine wpAny_bind (wpAny_seqItems hS rfl (show wpAny _ A.in1 (tryCatch (pyNext (.ref I)) _ >>= _) _ _ s from wpAny_bind (wpAny_tryCatch (W.done s _ _ (ej ▸ st) fun h' tk kp => ?_))))
    show wpAny _ A.in1 (updateSeq S (fun _ => #[]) >>= _) _ _ _
    refine wpAny_bind (wpAny_updateSeq (kp S _ nw hS) rfl (wpAny_bind (wpAny_letGo (wpAny_pure (fin vb _ tk (by rw [ej]; exact hP) fun b o h1 h2 e => ?_)))))
    rw [Heap.get?_update_other _ _ (Ne.symm h2)]; exact kp b o h1 e
  | succ m ih =>
    intro j s vb c hj st hP hS fin
    refine codeAny_builtin F.entry_min_loop ?_; rw [Around.under_plainId F.plain_min_loop _]
    show wpAny _ A.in1 (seqItems? (.ref S) >>= _) _ _ s
    refine wpAny_bind (wpAny_seqItems hS rfl (show wpAny _ A.in1 (tryCatch (pyNext (.ref I)) _ >>= _) _ _ s from wpAny_bind (wpAny_tryCatch (W.item (j + 1) s _ _ (by omega) st fun v h' tk hv st' kp => ?_))))
    have hS2 := kp S _ nw hS
    show wpAny _ A.in1 (tryCatch (holding [v, v] (richCompare .Lt v vb >>= _)) _ >>= _) _ _ _
    refine wpAny_bind (wpAny_tryCatch (wpAny_holding (wpAny_bind (hcmp (j + 1) (argBest bt j) v vb _ _ _ hv hP ?_))))
    refine wpAny_bind (wpAny_holding (wpAny_truthy_bool (wpAny_bind (wpAny_letGo (wpAny_pure ?_)))))
    cases e : bt (j + 1) (argBest bt j) with
    | true =>
      rw [if_pos rfl]
      refine wpAny_bind (wpAny_updateSeq hS2 rfl (wpAny_bind (wpAny_letGo ?_)))
      rw [nm]
      refine wpAny_pure ⟨plainId_quiet F.plain_min_loop _, ih (j + 1) _ v _ (by omega) (W.frame _ _ _ st' fun b hb o eo => ?_) (by unfold argBest; rw [e, if_pos rfl]; exact hv) (Heap.get?_update_self _ hS2 rfl) fun u h3 tk3 hu k3 => fin u h3 tk3 hu fun b o h1 h2 eo => k3 b o h1 h2 ?_⟩
      · rw [Heap.get?_update_other _ _ (fun z : S = b => hSf (by rw [z]; exact hb))]; exact eo
      · rw [Heap.get?_update_other _ _ (Ne.symm h2)]; exact kp b o h1 eo
    | false =>
      rw [if_neg Bool.false_ne_true]
      refine wpAny_bind (wpAny_letGo ?_)
      rw [nm]
      exact wpAny_pure ⟨plainId_quiet F.plain_min_loop _, ih (j + 1) _ vb c (by omega) st' (by unfold argBest; rw [e, if_neg Bool.false_ne_true]; exact hP) hS2 fun u h3 tk3 hu k3 => fin u h3 tk3 hu fun b o h1 h2 eo => k3 b o h1 h2 (kp b o h1 eo)⟩
/-- min(xs, default=d) -/
theorem call_mind {its : Array Value} {l : Addr} {d : Value} {Q : Value → Shared → Prop} {E : Value → Shared → Prop} {s : Shared} (hh : A.handled = none) (bt : Nat → Nat → Bool) (hl : s.heap.IsList l its) (hcmp : CmpOf prog w A.in1 .Lt (fun i v => its[i]? = some v) bt)
    (h : ∀ v h' tk, (its.size = 0 → v = d) → (0 < its.size → its[argBest bt (its.size - 1)]? = some v) → (∀ b o, s.heap.get? b = some o → h'.get? b = some o) → Q v { s with heap := h', toks := tk }) : wpAny (model prog w) A (call (.builtin "min") [.ref l] [("default", d)]) Q E s := by
  have nm : (toString "min" ++ toString ".loop" : String) = "min.loop" := by decide
  refine call_tree_kw F.kind_min F.plain_min F.entry_min (args_mindk _ d) ?_
  show wpAny _ A.in1 (Builtin.Builtins.bindParams "min" ["key", "default"] 0 ⟨[], [("default", d)]⟩ >>= _) _ _ s
  refine wpAny_bind (wpAny_of_eq (show Builtin.Builtins.bindParams "min" ["key", "default"] 0 ⟨[], [("default", d)]⟩ = pure [none, some d] from rfl) (wpAny_bind (wpAny_pure (wpAny_bind (wpAny_pyIter_list hl ?_)))))
  have hlt : l < s.heap.objs.size := by obtain ⟨_, e, _⟩ := hl; exact Heap.lt_size e
  have W := Walks.list (prog := prog) (w := w) (A := A.in1) hh s.heap.objs.size l (Nat.ne_of_lt hlt) its
  refine wpAny_bind (wpAny_newObj_type ?_)
  rw [nm]
  refine wpAny_pure ⟨plainId_quiet F.plain_min_loop _, ?_⟩
  generalize hs2 : s.heap.push { cls := .type "list_iterator", data := .fields #[.ref l, .int 0 0] } = h2
  have z2 : h2.objs.size = s.heap.objs.size + 1 := by rw [← hs2, Heap.size_push]
  have k2 : ∀ b o, s.heap.get? b = some o → h2.get? b = some o := fun b o e => by rw [← hs2]; exact Heap.get?_push_of_some _ e
  have it2 : h2.get? s.heap.objs.size = some { cls := .type "list_iterator", data := .fields #[.ref l, .int 0 0] } := by rw [← hs2]; exact Heap.get?_push_size _ rfl
  have hS : (h2.push { cls := .type "list", data := .seq ([] : List Value).toArray }).get? h2.objs.size = some { cls := .type "list", dict := none, data := .seq #[] 0, slots := #[] } := Heap.get?_push_size _ rfl
  have k3 : ∀ b o, h2.get? b = some o → (h2.push { cls := .type "list", data := .seq ([] : List Value).toArray }).get? b = some o := fun b o e => Heap.get?_push_of_some _ e
  generalize h2.push { cls := .type "list", data := .seq ([] : List Value).toArray } = h3 at hS k3 ⊢
  have hz : s.heap.objs.size < h2.objs.size := by rw [z2]; exact Nat.lt_succ_self _
  have hz2 : l < h2.objs.size := Nat.lt_trans hlt hz
  have nw : h2.objs.size ∉ [s.heap.objs.size] := fun m => by
    rcases List.mem_cons.mp m with e | m
    · exact absurd e (Nat.ne_of_gt hz)
    · cases m
  have nS : h2.objs.size ∉ [s.heap.objs.size, l] := fun m => by
    rcases List.mem_cons.mp m with e | m
    · exact absurd e (Nat.ne_of_gt hz)
    · rcases List.mem_cons.mp m with e | m
      · exact absurd e (Nat.ne_of_gt hz2)
      · cases m
  have st : (fun (i : Nat) (h : Heap) => h.IsListIter s.heap.objs.size l i ∧ h.IsList l its) 0 h3 := by
    refine ⟨⟨_, k3 _ _ it2, rfl, rfl⟩, ?_⟩
    obtain ⟨o, e, r⟩ := hl
    exact ⟨o, k3 _ _ (k2 _ _ e), r⟩
  have old : ∀ {h' : Heap}, (∀ b o, b ∉ [s.heap.objs.size] → b ≠ h2.objs.size → h3.get? b = some o → h'.get? b = some o) → ∀ b o, s.heap.get? b = some o → h'.get? b = some o := fun kp b o e => by
    have hb := Heap.lt_size e
    have hb2 : b < h2.objs.size := Nat.lt_trans hb hz
    refine kp b o (fun m => ?_) (Nat.ne_of_lt hb2) (k3 _ _ (k2 _ _ e))
    rcases List.mem_cons.mp m with e2 | m
    · exact absurd e2 (Nat.ne_of_lt hb)
    · cases m
  refine codeAny_builtin F.entry_min_loop ?_; rw [Around.under_plainId F.plain_min_loop _]
  show wpAny _ A.in1 (seqItems? (.ref h2.objs.size) >>= _) _ _ _
  refine wpAny_bind (wpAny_seqItems hS rfl ?_)
  show wpAny _ A.in1 (tryCatch (pyNext (.ref s.heap.objs.size)) _ >>= _) _ _ _
  by_cases hn : 0 < its.size
  · refine wpAny_bind (wpAny_tryCatch (W.item 0 _ _ _ hn st fun v h' tk hv st' kp => ?_))
    have hS2 := kp _ _ nw hS
    show wpAny _ A.in1 (updateSeq h2.objs.size (fun _ => #[v, v]) >>= _) _ _ _
    refine wpAny_bind (wpAny_updateSeq hS2 rfl ?_)
    rw [nm]
    refine wpAny_pure ⟨plainId_quiet F.plain_min_loop _, loop_min W bt hcmp _ nS _ (its.size - 1) 0 _ v _ (by omega) (W.frame _ _ _ st' fun b hb o eo => ?_) hv (Heap.get?_update_self _ hS2 rfl) fun u h4 tk4 hu k4 => h u h4 tk4 (fun z => by omega) (fun _ => hu) (old fun b o h5 h6 eo => k4 b o h5 h6 ?_)⟩
    · rw [Heap.get?_update_other _ _ (fun z : h2.objs.size = b => nS (by rw [z]; exact hb))]; exact eo
    · rw [Heap.get?_update_other _ _ (Ne.symm h6)]; exact kp b o h5 eo
  · refine wpAny_bind (wpAny_tryCatch (W.done _ _ _ (by have : its.size = 0 := by omega
                                                        rw [this]; exact st) fun h' tk kp => ?_))
    refine wpAny_bind (wpAny_rule (wpAny_pure ?_))
    exact h d h' tk (fun _ => rfl) (fun z => absurd z hn) (old fun b o h5 _ eo => kp b o h5 eo)

theorem args_maxdk (a d : Value) : argsOk "max" ⟨[a], [("default", d)]⟩ := by unfold argsOk; kernel_rfl
/-- the loop, whatever keywords it was given -/
theorem loop_max (W : Walks prog w A.in1 I fp wr n P St) (bt : Nat → Nat → Bool) (hcmp : CmpOf prog w A.in1 .Gt P bt) (S : Addr) (hSf : S ∉ fp) (kws : List (Str × Value)) (m : Nat) : ∀ (j : Nat) (s : Shared) (vb : Value) (c : Nat), j + 1 + m = n → St (j + 1) s.heap → P (argBest bt j) vb →
    s.heap.get? S = some { cls := .type "list", dict := none, data := .seq #[vb, vb] c, slots := #[] } → (∀ v h' tk, P (argBest bt (n - 1)) v → (∀ b o, b ∉ wr → b ≠ S → s.heap.get? b = some o → h'.get? b = some o) → Z (.ok (.ret v)) { s with heap := h', toks := tk }) →
    codeAny (model prog w) A (.builtin "max.loop" ⟨[.ref I, .none, .ref S], kws⟩) Z s := by
  have nw : S ∉ wr := fun z => hSf (W.sub _ z)
  have nm : (toString "max" ++ toString ".loop" : String) = "max.loop" := by decide
  induction m with
  | zero =>
    intro j s vb c hj st hP hS fin
    have ej : n = j + 1 := by omega
    refine codeAny_builtin F.entry_max_loop ?_; rw [Around.under_plainId F.plain_max_loop _]
    show wpAny _ A.in1 (seqItems? (.ref S) >>= _) _ _ s
    refine wpAny_bind (wpAny_seqItems hS rfl (show wpAny _ A.in1 (tryCatch (pyNext (.ref I)) _ >>= _) _ _ s from wpAny_bind (wpAny_tryCatch (W.done s _ _ (ej ▸ st) fun h' tk kp => ?_))))
    show wpAny _ A.in1 (updateSeq S (fun _ => #[]) >>= _) _ _ _
    refine wpAny_bind (wpAny_updateSeq (kp S _ nw hS) rfl (wpAny_bind (wpAny_letGo (wpAny_pure (fin vb _ tk (by rw [ej]; exact hP) fun b o h1 h2 e => ?_)))))
    rw [Heap.get?_update_other _ _ (Ne.symm h2)]; exact kp b o h1 e
  | succ m ih =>
    intro j s vb c hj st hP hS fin
    refine codeAny_builtin F.entry_max_loop ?_; rw [Around.under_plainId F.plain_max_loop _]
    show wpAny _ A.in1 (seqItems? (.ref S) >>= _) _ _ s
    refine wpAny_bind (wpAny_seqItems hS rfl (show wpAny _ A.in1 (tryCatch (pyNext (.ref I)) _ >>= _) _ _ s from wpAny_bind (wpAny_tryCatch (W.item (j + 1) s _ _ (by omega) st fun v h' tk hv st' kp => ?_))))
    have hS2 := kp S _ nw hS
    show wpAny _ A.in1 (tryCatch (holding [v, v] (richCompare .Gt v vb >>= _)) _ >>= _) _ _ _
    refine wpAny_bind (wpAny_tryCatch (wpAny_holding (wpAny_bind (hcmp (j + 1) (argBest bt j) v vb _ _ _ hv hP ?_))))
    refine wpAny_bind (wpAny_holding (wpAny_truthy_bool (wpAny_bind (wpAny_letGo (wpAny_pure ?_)))))
    cases e : bt (j + 1) (argBest bt j) with
    | true =>
      rw [if_pos rfl]
      refine wpAny_bind (wpAny_updateSeq hS2 rfl (wpAny_bind (wpAny_letGo ?_)))
      rw [nm]
      refine wpAny_pure ⟨plainId_quiet F.plain_max_loop _, ih (j + 1) _ v _ (by omega) (W.frame _ _ _ st' fun b hb o eo => ?_) (by unfold argBest; rw [e, if_pos rfl]; exact hv) (Heap.get?_update_self _ hS2 rfl) fun u h3 tk3 hu k3 => fin u h3 tk3 hu fun b o h1 h2 eo => k3 b o h1 h2 ?_⟩
      · rw [Heap.get?_update_other _ _ (fun z : S = b => hSf (by rw [z]; exact hb))]; exact eo
      · rw [Heap.get?_update_other _ _ (Ne.symm h2)]; exact kp b o h1 eo
    | false =>
      rw [if_neg Bool.false_ne_true]
      refine wpAny_bind (wpAny_letGo ?_)
      rw [nm]
      exact wpAny_pure ⟨plainId_quiet F.plain_max_loop _, ih (j + 1) _ vb c (by omega) st' (by unfold argBest; rw [e, if_neg Bool.false_ne_true]; exact hP) hS2 fun u h3 tk3 hu k3 => fin u h3 tk3 hu fun b o h1 h2 eo => k3 b o h1 h2 (kp b o h1 eo)⟩
/-- max(xs, default=d) -/
theorem call_maxd {its : Array Value} {l : Addr} {d : Value} {Q : Value → Shared → Prop} {E : Value → Shared → Prop} {s : Shared} (hh : A.handled = none) (bt : Nat → Nat → Bool) (hl : s.heap.IsList l its) (hcmp : CmpOf prog w A.in1 .Gt (fun i v => its[i]? = some v) bt)
    (h : ∀ v h' tk, (its.size = 0 → v = d) → (0 < its.size → its[argBest bt (its.size - 1)]? = some v) → (∀ b o, s.heap.get? b = some o → h'.get? b = some o) → Q v { s with heap := h', toks := tk }) : wpAny (model prog w) A (call (.builtin "max") [.ref l] [("default", d)]) Q E s := by
  have nm : (toString "max" ++ toString ".loop" : String) = "max.loop" := by decide
  refine call_tree_kw F.kind_max F.plain_max F.entry_max (args_maxdk _ d) ?_
  show wpAny _ A.in1 (Builtin.Builtins.bindParams "max" ["key", "default"] 0 ⟨[], [("default", d)]⟩ >>= _) _ _ s
  refine wpAny_bind (wpAny_of_eq (show Builtin.Builtins.bindParams "max" ["key", "default"] 0 ⟨[], [("default", d)]⟩ = pure [none, some d] from rfl) (wpAny_bind (wpAny_pure (wpAny_bind (wpAny_pyIter_list hl ?_)))))
  have hlt : l < s.heap.objs.size := by obtain ⟨_, e, _⟩ := hl; exact Heap.lt_size e
  have W := Walks.list (prog := prog) (w := w) (A := A.in1) hh s.heap.objs.size l (Nat.ne_of_lt hlt) its
  refine wpAny_bind (wpAny_newObj_type ?_)
  rw [nm]
  refine wpAny_pure ⟨plainId_quiet F.plain_max_loop _, ?_⟩
  generalize hs2 : s.heap.push { cls := .type "list_iterator", data := .fields #[.ref l, .int 0 0] } = h2
  have z2 : h2.objs.size = s.heap.objs.size + 1 := by rw [← hs2, Heap.size_push]
  have k2 : ∀ b o, s.heap.get? b = some o → h2.get? b = some o := fun b o e => by rw [← hs2]; exact Heap.get?_push_of_some _ e
  have it2 : h2.get? s.heap.objs.size = some { cls := .type "list_iterator", data := .fields #[.ref l, .int 0 0] } := by rw [← hs2]; exact Heap.get?_push_size _ rfl
  have hS : (h2.push { cls := .type "list", data := .seq ([] : List Value).toArray }).get? h2.objs.size = some { cls := .type "list", dict := none, data := .seq #[] 0, slots := #[] } := Heap.get?_push_size _ rfl
  have k3 : ∀ b o, h2.get? b = some o → (h2.push { cls := .type "list", data := .seq ([] : List Value).toArray }).get? b = some o := fun b o e => Heap.get?_push_of_some _ e
  generalize h2.push { cls := .type "list", data := .seq ([] : List Value).toArray } = h3 at hS k3 ⊢
  have hz : s.heap.objs.size < h2.objs.size := by rw [z2]; exact Nat.lt_succ_self _
  have hz2 : l < h2.objs.size := Nat.lt_trans hlt hz
  have nw : h2.objs.size ∉ [s.heap.objs.size] := fun m => by
    rcases List.mem_cons.mp m with e | m
    · exact absurd e (Nat.ne_of_gt hz)
    · cases m
  have nS : h2.objs.size ∉ [s.heap.objs.size, l] := fun m => by
    rcases List.mem_cons.mp m with e | m
    · exact absurd e (Nat.ne_of_gt hz)
    · rcases List.mem_cons.mp m with e | m
      · exact absurd e (Nat.ne_of_gt hz2)
      · cases m
  have st : (fun (i : Nat) (h : Heap) => h.IsListIter s.heap.objs.size l i ∧ h.IsList l its) 0 h3 := by
    refine ⟨⟨_, k3 _ _ it2, rfl, rfl⟩, ?_⟩
    obtain ⟨o, e, r⟩ := hl
    exact ⟨o, k3 _ _ (k2 _ _ e), r⟩
  have old : ∀ {h' : Heap}, (∀ b o, b ∉ [s.heap.objs.size] → b ≠ h2.objs.size → h3.get? b = some o → h'.get? b = some o) → ∀ b o, s.heap.get? b = some o → h'.get? b = some o := fun kp b o e => by
    have hb := Heap.lt_size e
    have hb2 : b < h2.objs.size := Nat.lt_trans hb hz
    refine kp b o (fun m => ?_) (Nat.ne_of_lt hb2) (k3 _ _ (k2 _ _ e))
    rcases List.mem_cons.mp m with e2 | m
    · exact absurd e2 (Nat.ne_of_lt hb)
    · cases m
  refine codeAny_builtin F.entry_max_loop ?_; rw [Around.under_plainId F.plain_max_loop _]
  show wpAny _ A.in1 (seqItems? (.ref h2.objs.size) >>= _) _ _ _
  refine wpAny_bind (wpAny_seqItems hS rfl ?_)
  show wpAny _ A.in1 (tryCatch (pyNext (.ref s.heap.objs.size)) _ >>= _) _ _ _
  by_cases hn : 0 < its.size
  · refine wpAny_bind (wpAny_tryCatch (W.item 0 _ _ _ hn st fun v h' tk hv st' kp => ?_))
    have hS2 := kp _ _ nw hS
    show wpAny _ A.in1 (updateSeq h2.objs.size (fun _ => #[v, v]) >>= _) _ _ _
    refine wpAny_bind (wpAny_updateSeq hS2 rfl ?_)
    rw [nm]
    refine wpAny_pure ⟨plainId_quiet F.plain_max_loop _, loop_max W bt hcmp _ nS _ (its.size - 1) 0 _ v _ (by omega) (W.frame _ _ _ st' fun b hb o eo => ?_) hv (Heap.get?_update_self _ hS2 rfl) fun u h4 tk4 hu k4 => h u h4 tk4 (fun z => by omega) (fun _ => hu) (old fun b o h5 h6 eo => k4 b o h5 h6 ?_)⟩
    · rw [Heap.get?_update_other _ _ (fun z : h2.objs.size = b => nS (by rw [z]; exact hb))]; exact eo
    · rw [Heap.get?_update_other _ _ (Ne.symm h6)]; exact kp b o h5 eo
  · refine wpAny_bind (wpAny_tryCatch (W.done _ _ _ (by have : its.size = 0 := by omega
                                                        rw [this]; exact st) fun h' tk kp => ?_))
    refine wpAny_bind (wpAny_rule (wpAny_pure ?_))
    exact h d h' tk (fun _ => rfl) (fun z => absurd z hn) (old fun b o h5 _ eo => kp b o h5 eo)
end
end QQ

set_option Elab.async false
set_option linter.all false
set_option maxRecDepth 100000
set_option maxHeartbeats 1000000
/-! Q10b: min(xs, default=d), max(xs, default=d) by the evaluator. -/
namespace QQ
open PySem PySem.Spec PyProof.Rows L2

section
variable {C : QQ.Ctx} {G : Glob} {N : List Str} {kk : Nat} {X : Cx} {sc : Scope} {Wx : WX}
theorem vals_getV : ∀ {xs : List V} {us : List Value} {i : Nat} {u : Value}, Vals xs us → us[i]? = some u → ∃ x, xs[i]? = some x ∧ RelV x u
  | _, _, i, u, .nil, h => by simp at h
  | _, _, 0, u, .cons r _, h => by
    have e := Option.some.inj (show some _ = some u from h)
    subst e
    exact ⟨_, rfl, r⟩
  | _ :: xs, _ :: us, i + 1, u, .cons _ r, h => vals_getV (xs := xs) (us := us) (i := i) r (show us[i]? = some u from h)
theorem vals_int {ns : List Int} {its : List Value} (r : Vals (ns.map V.int) its) {i : Nat} {v : Value} (h : its.toArray[i]? = some v) : ∃ t, v = .int (ns.getD i 0) t := by
  have h : its[i]? = some v := by simpa using h
  obtain ⟨x, e, rx⟩ := vals_getV r h
  rw [List.getElem?_map] at e
  cases e2 : ns[i]? with
  | none => rw [e2] at e; cases e
  | some n =>
    rw [e2] at e
    cases e
    obtain ⟨t, rfl⟩ := rx
    exact ⟨t, by rw [List.getD_eq_getElem?_getD, e2]; rfl⟩
/-- the least | greatest of ints, d where there are none -/
def rBest (f : Int → List Int → Int) (ns : List Int) (d : V) (H : Hp) (Q : VK) : Prop := match ns with
  | [] => Q d H
  | i :: r => Q (.int (f i r)) H
theorem best_core {its : Array Value} {a : Addr} {ns : List Int} {d : V} {dv v : Value} {id : String} {op : CmpOp} {f : Int → List Int → Int} {pins : List (Addr × Obj)} {σ : L2.St} {H : Hp} {s : Shared} {Q : VK} {h' : Heap} {tk k : Nat} (I : L2.Inv X pins σ H s) (rv : Vals (ns.map V.int) its.toList) (rd : RelV d dv)
    (hz : its.size = 0 → v = dv) (hs : 0 < its.size → its[k]? = some v) (hf : ∀ i r, ns = i :: r → ns.getD k 0 = f i r) (kp : ∀ b o, s.heap.get? b = some o → h'.get? b = some o) (h : rBest f ns d H Q) : EP X pins σ Q v { s with heap := h', toks := tk } := by
  have hl : ns.length = its.size := by have := rv.length; simpa using this
  cases ns with
  | nil =>
    rw [hz hl.symm]
    exact ⟨d, H, I.kept kp, rd, h⟩
  | cons i r =>
    have hp : 0 < its.size := by rw [← hl]; simp
    obtain ⟨t, e⟩ := vals_int (its := its.toList) rv (by simpa using hs hp)
    rw [hf i r rfl] at e
    exact ⟨.int (f i r), H, I.kept kp, ⟨t, e⟩, h⟩
theorem min_d {a : Addr} {ns : List Int} {d : V} {dv : Value} {pins : List (Addr × Obj)} {σ : L2.St} {H : Hp} {s : Shared} {Q : VK} (hc : X.calm = true) (I : L2.Inv X pins σ H s) (hq : SqL X.K H a (ns.map V.int)) (rd : RelV d dv) (h : rBest minI ns d H Q) :
    wpAny (model X.prog X.w) X.A (PySem.call (.builtin "min") [.ref a] [("default", dv)]) (EP X pins σ Q) X.xe s := by
  obtain ⟨its, rv, hl, _⟩ := I.list hq
  have hv : ∀ i v, its.toArray[i]? = some v → ∃ t, v = Value.int (ns.getD i 0) t := fun i v e => vals_int rv e
  refine call_mind (I.ok.hd hc) (fun i j => decide (ns.getD i 0 < ns.getD j 0)) hl.isList (CmpOf.ints_lt (fun i => ns.getD i 0) hv) fun v h' tk hz hs kp => ?_
  refine best_core (a := a) (id := "") (op := .Lt) (its := its.toArray) I (by simpa using rv) rd hz hs (fun i r e => ?_) kp h
  obtain ⟨h1, h2⟩ := argBest_lt (fun i => ns.getD i 0) (its.toArray.size - 1)
  have hn : ns.length = its.toArray.size := by have := rv.length; simpa using this
  subst e
  have hk : argBest (fun i' j => decide ((i :: r).getD i' 0 < (i :: r).getD j 0)) (its.toArray.size - 1) < (i :: r).length := by
    have hp : 0 < (i :: r).length := by simp
    rw [hn] at hp ⊢
    exact Nat.lt_of_le_of_lt h1 (by omega)
  obtain ⟨m1, m2⟩ := minI_mem r i
  refine Int.le_antisymm ?_ (m2 _ (getD_mem hk))
  obtain ⟨j, hj, ej⟩ := mem_getD m1
  rw [← ej]
  exact h2 j (by omega)
theorem max_d {a : Addr} {ns : List Int} {d : V} {dv : Value} {pins : List (Addr × Obj)} {σ : L2.St} {H : Hp} {s : Shared} {Q : VK} (hc : X.calm = true) (I : L2.Inv X pins σ H s) (hq : SqL X.K H a (ns.map V.int)) (rd : RelV d dv) (h : rBest maxI ns d H Q) :
    wpAny (model X.prog X.w) X.A (PySem.call (.builtin "max") [.ref a] [("default", dv)]) (EP X pins σ Q) X.xe s := by
  obtain ⟨its, rv, hl, _⟩ := I.list hq
  have hv : ∀ i v, its.toArray[i]? = some v → ∃ t, v = Value.int (ns.getD i 0) t := fun i v e => vals_int rv e
  refine call_maxd (I.ok.hd hc) (fun i j => decide (ns.getD i 0 > ns.getD j 0)) hl.isList (CmpOf.ints_gt (fun i => ns.getD i 0) hv) fun v h' tk hz hs kp => ?_
  refine best_core (a := a) (id := "") (op := .Lt) (its := its.toArray) I (by simpa using rv) rd hz hs (fun i r e => ?_) kp h
  obtain ⟨h1, h2⟩ := argBest_gt (fun i => ns.getD i 0) (its.toArray.size - 1)
  have hn : ns.length = its.toArray.size := by have := rv.length; simpa using this
  subst e
  have hk : argBest (fun i' j => decide ((i :: r).getD i' 0 > (i :: r).getD j 0)) (its.toArray.size - 1) < (i :: r).length := by
    have hp : 0 < (i :: r).length := by simp
    rw [hn] at hp ⊢
    exact Nat.lt_of_le_of_lt h1 (by omega)
  obtain ⟨m1, m2⟩ := maxI_mem r i
  refine Int.le_antisymm (m2 _ (getD_mem hk)) ?_
  obtain ⟨j, hj, ej⟩ := mem_getD m1
  rw [← ej]
  exact h2 j (by omega)
theorem q_bltd (g : GoodE C G N kk X sc) {b : Blt} {es : Es} {dft : E} {a ed : Expr} {p kp pos : Pos} (hb : b = .min1 ∨ b = .max1) (f1 : bkN (bltK b) ∈ C.P.free) (h2 : glbB sc (bkN (bltK b)) = true) (hc : chkEs C.P N sc es [a] = true) (ha : PA X [a] (tA C G X.K es Wx)) (hd : PE X ed (tE C G X.K dft Wx)) :
    PE X (.Call (.Name (bkN (bltK b)) p) [a] [⟨some "default", ed, kp⟩] pos) (tE C G X.K (.bltd b es dft) Wx) := by
  refine ⟨fun pins s σ H Q I h => ?_⟩
  obtain ⟨ρ, η, w, S, sl, h⟩ := h
  obtain ⟨e0, l0, el, c1, c2⟩ : ∃ e l, es = .cons e l ∧ chkE C.P N sc e a = true ∧ chkEs C.P N sc l [] = true := by
    cases es with
    | nil => cases hc
    | cons e l =>
      obtain ⟨h1, h2⟩ := and2 (show (chkE C.P N sc e a && chkEs C.P N sc l []) = true from hc)
      exact ⟨e, l, rfl, h1, h2⟩
  have st0 := star_cons (P := C.P) c1 [] X.env
  have go : ∀ (id : String), bootBuiltins (bkN (bltK b)) = some (.builtin id) → bkN (bltK b) ≠ "__name__" → (bkN (bltK b) == ("__debug__" : Str)) = false → tA C G X.K es Wx σ H (fun vs H1 => tE C G X.K dft Wx σ H1 fun d H2 => ∃ x, vs = [x] ∧ ∀ (s2 : Shared) (u dv : Value), L2.Inv X pins σ H2 s2 → RelV x u → RelV d dv → wpAny (model X.prog X.w) X.A (PySem.call (.builtin id) [u] [("default", dv)]) (EP X pins σ Q) X.xe s2) →
      wpAny (model X.prog X.w) X.A (eval (.Call (.Name (bkN (bltK b)) p) [a] [⟨some "default", ed, kp⟩] pos) X.env) (EP X pins σ Q) X.xe s := by
    intro id hv hn hdb hh
    refine wpAny_Call_Name_kw (ld_blt I (g.gl h2) (g.pk.free _ f1) hv ?_ hn hdb)
    refine PyProof.Rows.callWith_kw (thn (ha.run pos pins s σ H _ I hh) fun us s1 ⟨vs, H1, I1, r1, q1⟩ => PyProof.Rows.kws_cons (thn (hd.run pins s1 σ H1 _ I1 q1) fun dv s2 ⟨d, H2, I2, rd, x, ev, q2⟩ => PyProof.Rows.kws_nil ?_)) (by rw [st0]; rfl) (by rw [st0]; rfl)
    subst ev
    cases r1 with
    | cons rx rn =>
      cases rn
      exact q2 s2 _ dv I2 rx rd
  have h : ((evEs C ρ es w).bind fun r => (evE C ρ dft r.2).bind fun q => match b, r.1 with
    | .min1, [.ref n] => match (q.2.lst n).bind intsD with
      | some [] => R.ok q
      | some (i :: ns) => R.ok (D.int (minI i ns), q.2)
      | none => R.bad
    | .max1, [.ref n] => match (q.2.lst n).bind intsD with
      | some [] => R.ok q
      | some (i :: ns) => R.ok (D.int (maxI i ns), q.2)
      | none => R.bad
    | _, _ => R.bad).sat (Want X.K G η w H Q) (Xp X.K G Wx σ η w H) := h
  have one : ∀ (n : Nat) (x : V) (r : D × W) (dV : V) (η1 η2 : List Addr) (H1 H2 : Hp) (w1 : W) (f : Int → List Int → Int), Stp X.K G η w H η1 w1 H1 → Rep X.K η1 H1 (.ref n) x → Stp X.K G η1 w1 H1 η2 r.2 H2 → Rep X.K η2 H2 r.1 dV → (match (r.2.lst n).bind intsD with
      | some [] => R.ok r
      | some (i :: ns) => R.ok (D.int (f i ns), r.2)
      | none => R.bad).sat (Want X.K G η w H Q) (Xp X.K G Wx σ η w H) → ∃ a ns, x = .ref a ∧ SqL X.K H2 a (ns.map V.int) ∧ rBest f ns dV H2 Q := by
    intro n x r dV η1 η2 H1 H2 w1 f st rx st2 rd h3
    split at h3
    · rename_i e
      obtain ⟨ds, e2, e3⟩ := lst_bind e
      obtain ⟨a, ws, rfl, _, hh, r1⟩ := Sim.lst st2.sim e2 (rx.step st.sim st2)
      have ew := ints_vs e3 r1
      exact ⟨a, [], rfl, .inl (.inl (by rw [← ew]; exact hh)), h3 dV H2 η2 (st.trans S st2) rd⟩
    · rename_i i ns e
      obtain ⟨ds, e2, e3⟩ := lst_bind e
      obtain ⟨a, ws, rfl, _, hh, r1⟩ := Sim.lst st2.sim e2 (rx.step st.sim st2)
      have ew := ints_vs e3 r1
      exact ⟨a, i :: ns, rfl, .inl (.inl (by rw [← ew]; exact hh)), h3 _ H2 η2 (st.trans S st2) (.int _)⟩
    · exact h3.elim
  rcases hb with hb | hb
  · subst hb
    refine go "min" (by decide +kernel) (by decide +kernel) (by decide +kernel) (un_A ha S sl h (fun _ _ _ _ z => z) fun r vs H1 η1 st rvs sl1 h1 => un_G hd st.sim sl1 h1 (fun _ _ _ _ z => z.step S st) fun q dV H2 η2 st2 rd sl2 h2 => ?_)
    obtain ⟨ds, w1⟩ := r
    match ds, rvs, h2 with
    | [.ref n], .cons rx .nil, h2 =>
      obtain ⟨a, ns, rfl, hq, rb⟩ := one n _ q dV η1 η2 H1 H2 w1 minI st rx st2 rd h2
      refine ⟨_, rfl, fun s2 u dv I2 ru rdv => ?_⟩
      cases ru
      exact min_d g.calm I2 hq rdv rb
  · subst hb
    refine go "max" (by decide +kernel) (by decide +kernel) (by decide +kernel) (un_A ha S sl h (fun _ _ _ _ z => z) fun r vs H1 η1 st rvs sl1 h1 => un_G hd st.sim sl1 h1 (fun _ _ _ _ z => z.step S st) fun q dV H2 η2 st2 rd sl2 h2 => ?_)
    obtain ⟨ds, w1⟩ := r
    match ds, rvs, h2 with
    | [.ref n], .cons rx .nil, h2 =>
      obtain ⟨a, ns, rfl, hq, rb⟩ := one n _ q dV η1 η2 H1 H2 w1 maxI st rx st2 rd h2
      refine ⟨_, rfl, fun s2 u dv I2 ru rdv => ?_⟩
      cases ru
      exact max_d g.calm I2 hq rdv rb
end
end QQ

set_option Elab.async false
set_option linter.all false
set_option maxRecDepth 100000
set_option maxHeartbeats 4000000
/-! Q11: targets, iterators, list comprehensions. -/
namespace QQ
open PySem PySem.Spec PyProof.Rows L2

/-- only these slots change -/
def KeepS (vs : List Nat) (σ σ' : L2.St) : Prop := σ'.length = σ.length ∧ ∀ i : Nat, i ∉ vs → σ'[i]? = σ[i]?
theorem KeepS.refl (vs : List Nat) (σ : L2.St) : KeepS vs σ σ := ⟨rfl, fun _ _ => rfl⟩
theorem KeepS.mono {vs us : List Nat} {σ σ' : L2.St} (h : KeepS vs σ σ') (s : ∀ i ∈ vs, i ∈ us) : KeepS us σ σ' := ⟨h.1, fun i hi => h.2 i fun z => hi (s i z)⟩
theorem KeepS.trans {vs : List Nat} {σ σ1 σ2 : L2.St} (a : KeepS vs σ σ1) (b : KeepS vs σ1 σ2) : KeepS vs σ σ2 := ⟨b.1.trans a.1, fun i hi => (b.2 i hi).trans (a.2 i hi)⟩
theorem wipe_get (σ : L2.St) (i : Nat) : ∀ vs : List Nat, (L2.wipe σ vs)[i]? = if i ∈ vs ∧ i < σ.length then some none else σ[i]?
  | [] => by simp [L2.wipe]
  | v :: vs => by
    unfold L2.wipe
    by_cases e : v = i
    · subst e
      by_cases hl : v < σ.length
      · rw [List.getElem?_set_self (by rw [L2.wipe_length]; exact hl)]
        simp [hl]
      · have h1 : ((L2.wipe σ vs).set v none)[v]? = none := List.getElem?_eq_none (by rw [List.length_set, L2.wipe_length]; omega)
        have h2 : σ[v]? = none := List.getElem?_eq_none (by omega)
        rw [h1, h2]
        simp [hl]
    · rw [List.getElem?_set_ne e, wipe_get σ i vs]
      have e2 : i ≠ v := fun z => e z.symm
      simp [e2]
theorem KeepS.wipe {vs us : List Nat} {σ σ' : L2.St} (h : KeepS vs σ σ') (s : ∀ i ∈ vs, i ∈ us) : L2.wipe σ' us = L2.wipe σ us := by
  apply List.ext_getElem?
  intro i
  rw [wipe_get, wipe_get, h.1]
  by_cases hi : i ∈ us
  · by_cases hl : i < σ.length
    · simp [hi, hl]
    · have h1 : σ[i]? = none := List.getElem?_eq_none (by omega)
      have h2 : σ'[i]? = none := List.getElem?_eq_none (by rw [h.1]; omega)
      rw [h1, h2]
  · simp [hi, h.2 i fun z => hi (s i z)]
theorem KeepS.of_wipe {us : List Nat} {σ σ' : L2.St} (h : L2.wipe σ' us = L2.wipe σ us) : KeepS us σ σ' := by
  refine ⟨?_, fun i hi => ?_⟩
  · have := congrArg List.length h
    rw [L2.wipe_length, L2.wipe_length] at this
    exact this
  · have := congrArg (fun l => l[i]?) h
    simp only [wipe_get] at this
    simpa [hi] using this

section
variable {C : QQ.Ctx} {G : Glob} {N : List Str} {kk : Nat} {X : Cx} {sc : Scope} {Wx : WX}
/-! ### targets -/
abbrev NoX : Nat → D → QQ.Env → W → Prop := fun _ _ _ _ => False
def tG (C : QQ.Ctx) (G : Glob) (K : PySem.W.Frag) (t : Tg) : TG := fun v σ H Q => ∃ d ρ η w, Sm K G η w H ∧ Slots K η H ρ σ ∧ Rep K η H d v ∧ (evTg C t d ρ w).sat (fun r => ∀ σ' H' η', Stp K G η w H η' r.2 H' → Slots K η' H' r.1 σ' → KeepS (tgVars t) σ σ' → Q σ' H') NoX
def tGs (C : QQ.Ctx) (G : Glob) (K : PySem.W.Frag) (t : Tgs) : TGs := fun vs σ H Q => ∃ ds ρ η w, Sm K G η w H ∧ Slots K η H ρ σ ∧ RepAll K η H ds vs ∧ (evTgs C t ds ρ w).sat (fun r => ∀ σ' H' η', Stp K G η w H η' r.2 H' → Slots K η' H' r.1 σ' → KeepS (tgsVars t) σ σ' → Q σ' H') NoX
theorem qg_nm (hN : X.N.Nodup) {i : Nat} {x : Str} {pos : Pos} (hi : X.N[i]? = some x) (hx : L2.Loc X.env.scope x) (hf : X.fn x = true ∨ X.env.scope.names.lookup x = some .local) : PG X (.Name x pos) (tG C G X.K (.nm i)) := by
  refine ⟨fun pins s σ H v u Q I r h => ?_⟩
  obtain ⟨d, ρ, η, w, S, sl, rv, h⟩ := h
  refine (pg_name hN hi hx hf).run pins s σ H v u Q I r (h _ H η (Step.refl S) (sl.set rv i) ⟨by simp, fun j hj => ?_⟩)
  rw [List.getElem?_set_ne (fun e => hj (by simp [tgVars, e]))]
theorem qg_nil : PGs X [] (tGs C G X.K .nil) := by
  refine ⟨fun pins s σ H vs us Q I r h => ?_⟩
  obtain ⟨ds, ρ, η, w, S, sl, rv, h⟩ := h
  cases rv with
  | nil => exact pgs_nil.run pins s σ H [] us Q I r ⟨rfl, h σ H η (Step.refl S) sl (KeepS.refl _ _)⟩
  | cons _ _ => exact h.elim
theorem qg_cons {e : Expr} {es : List Expr} {t : Tg} {ts : Tgs} (h1 : PG X e (tG C G X.K t)) (h2 : PGs X es (tGs C G X.K ts)) (hs : (assignEach (e :: es) X.env).map (·.2) = assign e X.env :: (assignEach es X.env).map (·.2)) : PGs X (e :: es) (tGs C G X.K (.cons t ts)) := by
  refine ⟨fun pins s σ H vs us Q I r h => ?_⟩
  obtain ⟨ds, ρ, η, w, S, sl, rv, h⟩ := h
  refine (pgs_cons h1 h2 hs).run pins s σ H vs us Q I r ?_
  cases rv with
  | nil => exact h.elim
  | cons r1 r2 =>
    rename_i d v ds vs
    have h : ((evTg C t d ρ w).bind fun r => evTgs C ts ds r.1 r.2).sat (fun r => ∀ σ' H' η', Stp X.K G η w H η' r.2 H' → Slots X.K η' H' r.1 σ' → KeepS (tgsVars (.cons t ts)) σ σ' → Q σ' H') NoX := h
    rw [sat_bind] at h
    refine ⟨v, vs, rfl, d, ρ, η, w, S, sl, r1, sat_mono h (fun q hq σ1 H1 η1 st sl1 k1 => ?_) fun _ _ _ _ z => z⟩
    refine ⟨ds, q.1, η1, q.2, st.sim, sl1, r2.step S st, sat_mono hq (fun q2 hq2 σ2 H2 η2 st2 sl2 k2 => ?_) fun _ _ _ _ z => z⟩
    exact hq2 σ2 H2 η2 (st.trans S st2) sl2 ((k1.mono fun i hi => by simp [tgsVars, hi]).trans (k2.mono fun i hi => by simp [tgsVars, hi]))
/-- items go to targets -/
theorem items_seq {K : PySem.W.Frag} {η : List Addr} {w : W} {H : Hp} {d : D} {v : V} {ds : List D} (S : Sm K G η w H) (h : items w d = some ds) (r : Rep K η H d v) : ∃ a vs, v = .ref a ∧ (SqT K H a vs ∨ SqL K H a vs) ∧ RepAll K η H ds vs := by
  cases r with
  | tup h1 h2 => cases h; exact ⟨_, _, rfl, .inl h1, h2⟩
  | frz h1 h2 => cases h; exact ⟨_, _, rfl, .inr h1.sq, h2⟩
  | ref e =>
    obtain ⟨a, ws, e2, hn, hh, r1⟩ := Sim.lst S h (.ref e)
    exact ⟨a, ws, e2, .inr (.inl (.inl hh)), r1⟩
  | _ => cases h
theorem chk_tgstar {P : Prog} {ts : Scope} (a : Tg) (x : Expr) (p : Pos) : chkTg P N ts sc a (.Starred x p) = false := by cases a <;> rfl
theorem ass_cons {P : Prog} {ts : Scope} {a : Tg} {e : Expr} (h : chkTg P N ts sc a e = true) (es : List Expr) (env : PySem.Env) : assignEach (e :: es) env = (false, assign e env) :: assignEach es env := by
  cases e <;> first | rfl | (rw [chk_tgstar] at h; cases h)
theorem ass_all {P : Prog} {ts : Scope} (env : PySem.Env) : ∀ {us : Tgs} {l : List Expr}, chkTgs P N ts sc us l = true → assignEach l env = l.map fun e => (false, assign e env)
  | .nil, [], _ => rfl
  | .nil, _ :: _, h => by cases h
  | .cons _ _, [], h => by cases h
  | .cons a us, e :: l, h => by
    have h1 : (chkTg P N ts sc a e && chkTgs P N ts sc us l) = true := h
    obtain ⟨h1, h2⟩ := and2 h1
    rw [ass_cons h1, ass_all env h2]
    rfl
theorem ass_none {P : Prog} {ts : Scope} (env : PySem.Env) {us : Tgs} {l : List Expr} (h : chkTgs P N ts sc us l = true) : (assignEach l env).length = l.length ∧ (assignEach l env).findIdx? (·.1) = none := by
  rw [ass_all env h]
  refine ⟨by simp, ?_⟩
  rw [List.findIdx?_eq_none_iff]
  intro x hx
  obtain ⟨e, _, rfl⟩ := List.mem_map.mp hx
  rfl
theorem tgs_len {P : Prog} {ts : Scope} : ∀ {us : Tgs} {l : List Expr}, chkTgs P N ts sc us l = true → l.length = tgsLen us
  | .nil, [], _ => rfl
  | .nil, _ :: _, h => by cases h
  | .cons _ _, [], h => by cases h
  | .cons a us, e :: l, h => by
    have h1 : (chkTg P N ts sc a e && chkTgs P N ts sc us l) = true := h
    show l.length + 1 = tgsLen us + 1
    rw [tgs_len (and2 h1).2]
theorem qg_tup {P : Prog} {tsc : Scope} (hc : X.calm = true) {ts : Tgs} {l : List Expr} {k : Nat} {pos : Pos} (hk : chkTgs P N tsc sc ts l = true) (h1 : PGs X l (tGs C G X.K ts)) : PG X (.Tuple l k pos) (tG C G X.K (.tup ts)) := by
  refine ⟨fun pins s σ H v u Q I r h => ?_⟩
  obtain ⟨d, ρ, η, w, S, sl, rv, h⟩ := h
  have h : (match items w d with | some ds => if ds.length = tgsLen ts then evTgs C ts ds ρ w else .bad | none => .bad).sat (fun r => ∀ σ' H' η', Stp X.K G η w H η' r.2 H' → Slots X.K η' H' r.1 σ' → KeepS (tgVars (.tup ts)) σ σ' → Q σ' H') NoX := h
  split at h
  · rename_i ds e
    split at h
    · rename_i hl
      obtain ⟨a, vs, rfl, hq, ra⟩ := items_seq S e rv
      obtain ⟨n1, n2⟩ := ass_none X.env hk
      have nl : vs.length = l.length := by rw [← ra.length, hl, tgs_len hk]
      have go : tGs C G X.K ts vs σ H Q := ⟨ds, ρ, η, w, S, sl, ra, h⟩
      rcases hq with hq | hq
      · exact (pg_tup (n := l.length) hc h1 n1 n2).run pins s σ H _ u Q I r ⟨a, vs, rfl, hq, nl, go⟩
      · exact (pg_lst (n := l.length) hc h1 n1 n2).run pins s σ H _ u Q I r ⟨a, vs, rfl, hq, nl, go⟩
    · exact h.elim
  · exact h.elim
theorem plain_sub {P : Prog} {b : E} {e : Expr} (h : chkE P N sc b e = true) (o : Expr) (pos : Pos) (env : PySem.Env) (v : Value) : assign (.Subscript o e pos) env v = (do
      let ov ← holding [v] (eval o env)
      let iv ← holding [v, ov] (eval e env)
      standAt pos
      holding [v, ov, iv] (setItem ov iv v)
      release [v, ov, iv] []) := by
  cases e <;> first | rfl | (rw [chk_slice] at h; cases h)
theorem qg_sub {a b : E} {o i : Expr} {pos : Pos} (hb : chkE C.P N sc b i = true) (ho : PE X o (tE C G X.K a Wx)) (hi : PE X i (tE C G X.K b Wx)) : PG X (.Subscript o i pos) (tG C G X.K (.sub a b)) := by
  refine ⟨fun pins s σ H v u Q I r h => ?_⟩
  obtain ⟨d, ρ, η, w, S, sl, rv, h⟩ := h
  have h : ((R.calm (evE C ρ a w)).bind fun r => (R.calm (evE C ρ b r.2)).bind fun q => match setSem r.1 q.1 d q.2 with | some w' => R.ok (ρ, w') | none => R.bad).sat (fun r => ∀ σ' H' η', Stp X.K G η w H η' r.2 H' → Slots X.K η' H' r.1 σ' → KeepS (tgVars (.sub a b)) σ σ' → Q σ' H') NoX := h
  rw [sat_bind] at h
  refine (pg_sub ho hi set_list (plain_sub hb o pos X.env)).run pins s σ H v u Q I r ?_
  refine ⟨ρ, η, w, S, sl, sat_mono (sat_calm h) (fun q hq x H1 η1 st rx => ?_) fun _ _ _ _ z => z⟩
  rw [sat_bind] at hq
  refine ⟨ρ, η1, q.2, st.sim, sl.step S st, sat_mono (sat_calm hq) (fun q2 hq2 y H2 η2 st2 ry => ?_) fun _ _ _ _ z => z⟩
  split at hq2
  · rename_i w' e
    refine set_ok st2.sim e (rx.step st.sim st2) ry ((rv.step S st).step st.sim st2) fun H' st' => ?_
    exact hq2 σ H' η2 ((st.trans S st2).trans S st') (((sl.step S st).step st.sim st2).step st2.sim st') (KeepS.refl _ _)
  · exact hq2.elim
/-! ### iterators -/
def Src.at_ (w : W) : Src → Option (List D)
  | .fix ds => some ds
  | .dyn f => f w
/-- the machine's iterator walks what the evaluator walks -/
def SrcOk (K : PySem.W.Frag) (G : Glob) (J : L2.It) (src : Src) (η1 : List Addr) (w1 : W) (H1 : Hp) : Prop := ∀ η w H, Stp K G η1 w1 H1 η w H → ∀ ds, src.at_ w = some ds → ∀ i : Nat,
  (∀ d, ds[i]? = some d → J.go i H ∧ ∀ v H', J.yld i H v H' → Stp K G η w H η w H' ∧ Rep K η H' d v) ∧ (ds[i]? = none → J.stop i H)
def tI (C : QQ.Ctx) (G : Glob) (K : PySem.W.Frag) (it : QQ.It) (Wx : WX) : TI := fun σ H R => ∃ ρ η w, Sm K G η w H ∧ Slots K η H ρ σ ∧ (evIt C ρ it w).sat (fun r => ∀ J H' η', Stp K G η w H η' r.2 H' → SrcOk K G J r.1 η' r.2 H' → R J H') (Xp K G Wx σ η w H)
variable {tg : Expr}
theorem rep_at {K : PySem.W.Frag} {η : List Addr} {H : Hp} {ds : List D} {vs : List V} (r : RepAll K η H ds vs) {i : Nat} : (∀ d, ds[i]? = some d → ∃ v, vs[i]? = some v ∧ Rep K η H d v) ∧ (ds[i]? = none → vs.length ≤ i) := by
  refine ⟨fun d e => r.get e, fun e => ?_⟩
  rw [List.getElem?_eq_none_iff] at e
  rw [← r.length]
  exact e
theorem src_tup {K : PySem.W.Frag} {η1 : List Addr} {w1 : W} {H1 : Hp} {a : Addr} {vs : List V} {ds : List D} (S1 : Sm K G η1 w1 H1) (hq : SqT K H1 a vs) (r : RepAll K η1 H1 ds vs) : SrcOk K G (Itt K a) (.fix ds) η1 w1 H1 := by
  intro η w H st ds' e i
  cases e
  have hq' := sqT_stay hq (st.stay S1)
  obtain ⟨g1, g2⟩ := rep_at (r.step S1 st) (i := i)
  refine ⟨fun d e => ?_, fun e => ⟨vs, hq', g2 e⟩⟩
  obtain ⟨v, e1, rv⟩ := g1 d e
  refine ⟨⟨vs, v, hq', e1⟩, fun u H' ⟨y1, y2⟩ => ?_⟩
  subst y1
  have := y2 vs hq'
  rw [e1] at this
  cases this
  exact ⟨Step.refl st.sim, rv⟩
theorem src_frz {K : PySem.W.Frag} {η1 : List Addr} {w1 : W} {H1 : Hp} {a : Addr} {vs : List V} {ds : List D} (S1 : Sm K G η1 w1 H1) (hq : FrzL K H1 a vs) (r : RepAll K η1 H1 ds vs) : SrcOk K G (Itl K a) (.fix ds) η1 w1 H1 := by
  intro η w H st ds' e i
  cases e
  have hq' := (frzL_stay hq (st.stay S1)).sq
  obtain ⟨g1, g2⟩ := rep_at (r.step S1 st) (i := i)
  refine ⟨fun d e => ?_, fun e => ⟨vs, hq', g2 e⟩⟩
  obtain ⟨v, e1, rv⟩ := g1 d e
  refine ⟨⟨vs, v, hq', e1⟩, fun u H' ⟨y1, y2⟩ => ?_⟩
  subst y1
  have := y2 vs hq'
  rw [e1] at this
  cases this
  exact ⟨Step.refl st.sim, rv⟩
theorem src_lst {K : PySem.W.Frag} {η1 : List Addr} {w1 : W} {H1 : Hp} {a : Addr} {n : Nat} (hn : η1[n]? = some a) : SrcOk K G (Itl K a) (.dyn fun w => w.lst n) η1 w1 H1 := by
  intro η w H st ds e i
  have e : w.lst n = some ds := e
  obtain ⟨a', vs, ea, hn', hh, r⟩ := Sim.lst st.sim e (.ref (st.prefix _ _ hn))
  cases ea
  have hq' : SqL K H a vs := .inl (.inl hh)
  obtain ⟨g1, g2⟩ := rep_at r (i := i)
  refine ⟨fun d e => ?_, fun e => ⟨vs, hq', g2 e⟩⟩
  obtain ⟨v, e1, rv⟩ := g1 d e
  refine ⟨⟨vs, v, hq', e1⟩, fun u H' ⟨y1, y2⟩ => ?_⟩
  subst y1
  have := y2 vs hq'
  rw [e1] at this
  cases this
  exact ⟨Step.refl st.sim, rv⟩
theorem qi_seq {a : E} {e : Expr} (ha : PE X e (tE C G X.K a Wx)) : PI X tg e (tI C G X.K (.seq a) Wx) := by
  refine ⟨fun pins s σ H Rx I h => ?_⟩
  obtain ⟨ρ, η, w, S, sl, h⟩ := h
  have h : ((evE C ρ a w).bind fun r => match r.1 with
    | .tup ds => R.ok (Src.fix ds, r.2)
    | .frz ds => R.ok (Src.fix ds, r.2)
    | .ref n => match r.2.lst n with
      | some _ => R.ok (Src.dyn fun w => w.lst n, r.2)
      | none => R.bad
    | _ => R.bad).sat (fun r => ∀ J H' η', Stp X.K G η w H η' r.2 H' → SrcOk X.K G J r.1 η' r.2 H' → Rx J H') (Xp X.K G Wx σ η w H) := h
  rw [sat_bind] at h
  cases er : evE C ρ a w with
  | bad => rw [er] at h; exact h.elim
  | ex c p ρ' w' =>
    rw [er] at h
    exact (pi_list (tg := tg) ha).run pins s σ H Rx I ⟨ρ, η, w, S, sl, by rw [er]; exact h⟩
  | ok r =>
    rw [er] at h
    obtain ⟨d, w1⟩ := r
    cases d with
    | tup ds =>
      refine (pi_tup (tg := tg) ha).run pins s σ H Rx I ⟨ρ, η, w, S, sl, ?_⟩
      rw [er]
      intro v H1 η1 st rv
      cases rv with
      | tup h2 h3 => exact ⟨_, rfl, ⟨_, h2⟩, h _ H1 η1 st (src_tup st.sim h2 h3)⟩
    | frz ds =>
      refine (pi_list (tg := tg) ha).run pins s σ H Rx I ⟨ρ, η, w, S, sl, ?_⟩
      rw [er]
      intro v H1 η1 st rv
      cases rv with
      | frz h2 h3 => exact ⟨_, rfl, ⟨_, h2.sq⟩, h _ H1 η1 st (src_frz st.sim h2 h3)⟩
    | ref n =>
      refine (pi_list (tg := tg) ha).run pins s σ H Rx I ⟨ρ, η, w, S, sl, ?_⟩
      rw [er]
      intro v H1 η1 st rv
      have h : (match w1.lst n with
        | some _ => R.ok (Src.dyn fun w => w.lst n, w1)
        | none => R.bad).sat (fun r => ∀ J H' η', Stp X.K G η w H η' r.2 H' → SrcOk X.K G J r.1 η' r.2 H' → Rx J H') (Xp X.K G Wx σ η w H) := h
      split at h
      · rename_i ds e
        obtain ⟨a', vs, ea, hn', hh, r⟩ := Sim.lst st.sim e rv
        subst ea
        exact ⟨_, rfl, ⟨vs, .inl (.inl hh)⟩, h _ H1 η1 st (src_lst hn')⟩
      · exact h.elim
    | _ => exact h.elim
theorem big_ok {i : Int} (h : big i = true) : -(2 ^ 62) ≤ i ∧ i < 2 ^ 62 := by
  unfold big at h
  obtain ⟨h1, h2⟩ := and2 h
  exact ⟨of_decide_eq_true h1, of_decide_eq_true h2⟩
theorem src_rng {K : PySem.W.Frag} {η1 : List Addr} {w1 : W} {H1 : Hp} (lo : Int) (n : Nat) : SrcOk K G (Itr lo n) (.fix (rangeD lo n)) η1 w1 H1 := by
  intro η w H st ds e i
  cases e
  unfold rangeD
  rw [List.getElem?_map]
  refine ⟨fun d e => ?_, fun e => ?_⟩
  · by_cases hl : i < n
    · rw [List.getElem?_range hl] at e
      cases e
      refine ⟨hl, fun v H' ⟨y1, y2⟩ => ?_⟩
      subst y1 y2
      exact ⟨Step.refl st.sim, .int _⟩
    · rw [List.getElem?_eq_none (by rw [List.length_range]; omega)] at e
      cases e
  · by_cases hl : i < n
    · rw [List.getElem?_range hl] at e
      cases e
    · exact Nat.le_of_not_lt hl
theorem src_rngd {K : PySem.W.Frag} {η1 : List Addr} {w1 : W} {H1 : Hp} (lo : Int) (n : Nat) : SrcOk K G (Itc lo (-1) n) (.fix (rangeM lo n)) η1 w1 H1 := by
  intro η w H st ds e i
  cases e
  unfold rangeM
  rw [List.getElem?_map]
  refine ⟨fun d e => ?_, fun e => ?_⟩
  · by_cases hl : i < n
    · rw [List.getElem?_range hl] at e
      cases e
      refine ⟨hl, fun v H' ⟨y1, y2⟩ => ?_⟩
      subst y1 y2
      have ev : lo + (i : Nat) * (-1) = lo - (i : Nat) := by omega
      rw [ev]
      exact ⟨Step.refl st.sim, .int _⟩
    · rw [List.getElem?_eq_none (by rw [List.length_range]; omega)] at e
      cases e
  · by_cases hl : i < n
    · rw [List.getElem?_range hl] at e
      cases e
    · exact Nat.le_of_not_lt hl
theorem qi_rng1 (g : GoodE C G N kk X sc) {a : E} {n : Expr} {p pos : Pos} (f1 : ("range" : Str) ∈ C.P.free) (h2 : glbB sc "range" = true) (hc : chkE C.P N sc a n = true) (ha : PE X n (tE C G X.K a Wx)) : PI X tg (.Call (.Name "range" p) [n] [] pos) (tI C G X.K (.rng1 a) Wx) := by
  refine ⟨fun pins s σ H Rx I h => ?_⟩
  obtain ⟨ρ, η, w, S, sl, h⟩ := h
  have st0 := star_cons (P := C.P) hc [] X.env
  refine (pi_range1 (g.gl h2) (g.pk.free _ f1) (pa_cons ha pa_nil st0) st0).run pins s σ H Rx I (un_G ha S sl (show ((evE C ρ a w).bind fun r => match r.1 with
    | .int j => if big j = true then R.ok (Src.fix (rangeD 0 j.toNat), r.2) else R.bad
    | _ => R.bad).sat _ _ from h) (fun _ _ _ _ z => z) fun r v H1 η1 st rv sl1 h1 => ?_)
  obtain ⟨d, w1⟩ := r
  cases d with
  | int j =>
    cases rv
    simp only at h1
    split at h1
    · rename_i hb
      obtain ⟨b1, b2⟩ := big_ok hb
      exact ⟨j, rfl, b1, b2, h1 _ H1 η1 st (src_rng 0 j.toNat)⟩
    · exact h1.elim
  | _ => exact h1.elim
theorem qi_rng2 (g : GoodE C G N kk X sc) {a b : E} {n m : Expr} {p pos : Pos} (f1 : ("range" : Str) ∈ C.P.free) (h2 : glbB sc "range" = true) (hc : chkE C.P N sc a n = true) (hc2 : chkE C.P N sc b m = true) (ha : PE X n (tE C G X.K a Wx)) (hb : PE X m (tE C G X.K b Wx)) : PI X tg (.Call (.Name "range" p) [n, m] [] pos) (tI C G X.K (.rng2 a b) Wx) := by
  refine ⟨fun pins s σ H Rx I h => ?_⟩
  obtain ⟨ρ, η, w, S, sl, h⟩ := h
  have st1 := star_cons (P := C.P) hc2 [] X.env
  have st0 := star_cons (P := C.P) hc [m] X.env
  refine (pi_range2 (g.gl h2) (g.pk.free _ f1) (pa_cons ha (pa_cons hb pa_nil st1) st0) (by rw [st0, st1]; rfl) st1).run pins s σ H Rx I (un_G ha S sl (show ((evE C ρ a w).bind fun r => (evE C ρ b r.2).bind fun q => match r.1, q.1 with
    | .int i, .int j => if big i = true ∧ big j = true then R.ok (Src.fix (rangeD i (j - i).toNat), q.2) else R.bad
    | _, _ => R.bad).sat _ _ from h) (fun _ _ _ _ z => z) fun r v H1 η1 st rv sl1 h1 => un_G hb st.sim sl1 h1 (fun _ _ _ _ z => z.step S st) fun r2 v2 H2 η2 st2 rv2 sl2 h2 => ?_)
  obtain ⟨d, w1⟩ := r
  obtain ⟨d2, w2⟩ := r2
  cases d with
  | int i =>
    cases d2 with
    | int j =>
      cases rv
      cases rv2
      simp only at h2
      split at h2
      · rename_i hb
        obtain ⟨b1, b2⟩ := big_ok hb.1
        obtain ⟨b3, b4⟩ := big_ok hb.2
        exact ⟨i, j, rfl, ⟨b1, b2, b3, b4⟩, h2 _ H2 η2 (st.trans S st2) (src_rng i (j - i).toNat)⟩
      · exact h2.elim
    | _ => exact h2.elim
  | _ => exact h2.elim
theorem qi_rngd (g : GoodE C G N kk X sc) {a b : E} {n m c : Expr} {p p2 pos : Pos} (f1 : ("range" : Str) ∈ C.P.free) (h2 : glbB sc "range" = true) (hc : chkE C.P N sc a n = true) (hc2 : chkE C.P N sc b m = true) (h1 : isOne c = true) (ha : PE X n (tE C G X.K a Wx)) (hb : PE X m (tE C G X.K b Wx)) :
    PI X tg (.Call (.Name "range" p) [n, m, .UnaryOp .USub c p2] [] pos) (tI C G X.K (.rngd a b) Wx) := by
  refine ⟨fun pins s σ H Rx I h => ?_⟩
  obtain ⟨ρ, η, w, S, sl, h⟩ := h
  obtain ⟨kc, pc, rfl⟩ : ∃ k p, c = .Constant (.int 1) k p := by
    unfold isOne at h1
    split at h1
    · exact ⟨_, _, rfl⟩
    · cases h1
  have st1 := star_cons (P := C.P) hc2 [.UnaryOp .USub (.Constant (.int 1) kc pc) p2] X.env
  have st0 := star_cons (P := C.P) hc [m, .UnaryOp .USub (.Constant (.int 1) kc pc) p2] X.env
  have hn : PE X (.UnaryOp .USub (.Constant (.int 1) kc pc) p2) (fun σ H Q => Q (.int (-1)) H) := ⟨fun pins s σ H Q I h => (pe_un un_neg pe_int).run pins s σ H Q I ⟨1, rfl, h⟩⟩
  refine (pi_range3 (g.gl h2) (g.pk.free _ f1) (pa_cons ha (pa_cons hb (pa_cons hn pa_nil (by rfl)) st1) st0) st0 (by rw [st1]; rfl)).run pins s σ H Rx I (un_G ha S sl (show ((evE C ρ a w).bind fun r => (evE C ρ b r.2).bind fun q => match r.1, q.1 with
    | .int i, .int j => if big i = true ∧ big j = true then R.ok (Src.fix (rangeM i (i - j).toNat), q.2) else R.bad
    | _, _ => R.bad).sat _ _ from h) (fun _ _ _ _ z => z) fun r v H1 η1 st rv sl1 h1 => un_G hb st.sim sl1 h1 (fun _ _ _ _ z => z.step S st) fun r2 v2 H2 η2 st2 rv2 sl2 h2 => ?_)
  obtain ⟨d, w1⟩ := r
  obtain ⟨d2, w2⟩ := r2
  cases d with
  | int i =>
    cases d2 with
    | int j =>
      cases rv
      cases rv2
      simp only at h2
      split at h2
      · rename_i hb
        obtain ⟨b1, b2⟩ := big_ok hb.1
        obtain ⟨b3, b4⟩ := big_ok hb.2
        exact ⟨i, j, -1, _, rfl, RgC.neg b1 b2 b3 b4, h2 _ H2 η2 (st.trans S st2) (src_rngd i (i - j).toNat)⟩
      · exact h2.elim
    | _ => exact h2.elim
  | _ => exact h2.elim
end
end QQ

set_option Elab.async false
set_option linter.all false
set_option maxRecDepth 100000
set_option maxHeartbeats 4000000
/-! Qe: enumerate over tuples. -/
namespace PySem
open AutoSeq1 (wpAny_loadPart')
theorem meets_enumerate_newT (l : Addr) (items : Array Value) (n : Nat) (dct : Option Addr) (sl : Array (Option Value)) :
    Meets (Builtin.«enumerate.__new__» ⟨[.type "enumerate", .ref l], []⟩) (fun _ R s => s.heap.get? l = some { cls := .type "tuple", dict := dct, data := .seq items n, slots := sl } ∧
      R (.ok (.ret (.ref (s.heap.push { cls := .type "tuple_iterator", data := .fields #[.ref l, .int 0 0] }).objs.size)))
        { s with heap := (s.heap.push { cls := .type "tuple_iterator", data := .fields #[.ref l, .int 0 0] }).push { cls := .type "enumerate", data := .fields #[.none, .bool false, .ref s.heap.objs.size, rawInt 0, .none, .none] } }) :=
  .of_wp fun prog w A R s h => by
    obtain ⟨hp, g, d, tk, os⟩ := s; obtain ⟨hl, h⟩ := h
    have hsub := sub_enumerate
    have hL : Heap.IsTuple (Shared.heap ⟨hp, g, d, tk, os⟩) l items := ⟨_, hl, rfl, n, rfl⟩
    wp_walk using wpAny_loadPart' hl
    refine wpAny_stack_any fun st => wpAny_pure ?_
    split
    · rename_i c _ _ _ _ _
      cases (c == Value.type "enumerate")
      · wp_walk using wpAny_loadPart' hl, wpAny_pyIter_tuple hL
        exact ⟨_, rfl, h⟩
      · wp_walk using wpAny_loadPart' hl, wpAny_pyIter_tuple hL
        exact ⟨_, rfl, h⟩
    · wp_walk using wpAny_loadPart' hl, wpAny_pyIter_tuple hL
      exact ⟨_, rfl, h⟩
section
variable {prog : Program} {w : World} {A : Around} {E : Value → Shared → Prop} {s : Shared}
theorem call_enumerate_tuple {l : Addr} {items : Array Value} {Q : Value → Shared → Prop} (hL : s.heap.IsTuple l items)
    (h : ∀ h', IsEnum h' (s.heap.objs.size + 1) s.heap.objs.size 0 .none → h'.IsTupleIter s.heap.objs.size l 0 → h'.objs.size = s.heap.objs.size + 2 →
      (∀ b o, s.heap.get? b = some o → h'.get? b = some o) → Q (.ref (s.heap.objs.size + 1)) { s with heap := h' }) :
    wpAny (model prog w) A (call (.type "enumerate") [.ref l]) Q E s := by
  obtain ⟨⟨c, dct, dt, sl⟩, hl, hc, n, hd⟩ := hL
  replace hc : c = .type "tuple" := hc
  replace hd : dt = .seq items n := hd
  subst hc hd
  refine callType_new F.called_enumerate (by decide) (F.typeCall_enumerate_1 _) (F.newCall_enumerate_1 _) (fun obj => F.args_object_init_2 obj _) F.entry_enumerate_new
    (meets_enumerate_newT l items n dct sl) ⟨hl, ?_⟩
  have hz : (s.heap.push { cls := .type "tuple_iterator", data := .fields #[.ref l, .int 0 0] }).objs.size = s.heap.objs.size + 1 := Heap.size_push ..
  show _ ∧ _
  rw [hz]
  have he : IsEnum ((s.heap.push { cls := .type "tuple_iterator", data := .fields #[.ref l, .int 0 0] }).push
      { cls := .type "enumerate", data := .fields #[.none, .bool false, .ref s.heap.objs.size, rawInt 0, .none, .none] }) (s.heap.objs.size + 1) s.heap.objs.size 0 .none := by
    have := Heap.get?_push_size (s.heap.push { cls := .type "tuple_iterator", data := .fields #[.ref l, .int 0 0] })
      (o := { cls := .type "enumerate", data := .fields #[.none, .bool false, .ref s.heap.objs.size, rawInt 0, .none, .none] }) rfl
    rw [hz] at this; exact this
  refine ⟨⟨_, he, rfl⟩, h _ he ⟨_, Heap.get?_push_of_some _ (Heap.get?_push_size _ rfl), rfl, rfl⟩ (by rw [Heap.size_push, hz]) fun b o x => Heap.get?_push_of_some _ (Heap.get?_push_of_some _ x)⟩
end
end PySem
namespace QQ
open PySem PySem.Spec PyProof.Rows L2
theorem wpAny_pyNext_enum_endD0 {prog : Program} {w : World} {A : Around} {E : Value → Shared → Prop} {s : Shared} {e it t : Addr} {i : Nat} {items : Array Value} {old : Value} {Q : Option Value → Shared → Prop} (hh : A.handled = none) (he : IsEnum s.heap e it ((i : Nat) : Int) old) (hit : s.heap.IsTupleIter it t i) (ht : s.heap.IsTuple t items) (hx : items[i]? = none)
    (hQ : ∀ h', Heap.ExtBut it s.heap h' → Q none { s with heap := h' }) : wpAny (model prog w) A (pyNext (.ref e)) Q E s := by
  have hT : s.TypeIs (.ref e) "enumerate" := ⟨_, he, rfl⟩
  unfold pyNext
  refine wpAny_bind (wpAny_attempt (wpAny_callSpecial?_slot (name := Str.ofString "__next__") hT F.slot_enumerate_next
    (wpAny_call_entry F.slot_enumerate_next hT F.entry_enumerate_next ?_ (F.args_enumerate_next_1 _))))
  show wpAny _ _ (field (.ref e) 2 >>= _) _ _ _
  refine wpAny_bind (wpAny_field he rfl (x := .ref it) rfl ?_)
  refine wpAny_bind (wpAny_nextOf_tuple_end hh hit ht hx fun h' x he' hx' => ?_)
  obtain ⟨o, ho, hc⟩ := hx'
  refine wpAny_bind (wpAny_isInstance (T := "StopIteration") (b := true) ⟨o, ho, hc⟩ isSubtype_stop ?_)
  exact wpAny_pure (hQ _ he')
/-- the tuple at a, each item in a new pair -/
def IteT (K : PySem.W.Frag) (a : Addr) : L2.It :=
  ⟨fun i H => ∃ (xs : List V) (x : V), SqT K H a xs ∧ xs[i]? = some x, fun i H v H' => ∃ T x, v = .ref T ∧ H T = none ∧ H' = upd H T (.tup [.int (i : Nat), x]) ∧ ∀ xs, SqT K H a xs → xs[i]? = some x, fun i H => ∃ xs : List V, SqT K H a xs ∧ xs.length ≤ i⟩
theorem turn_enumT {P : Program} {w : World} {K : PySem.W.Frag} {elts : List Expr} {kk : Nat} {tpos : Pos} (a e it : Addr) (hai : a ≠ it) (hae : a ≠ e) :
    Turn P w K (.Tuple elts kk tpos) (IteT K a) [e, it] e (fun i h => (∃ old, IsEnum h e it ((i : Nat) : Int) old) ∧ h.IsTupleIter it a i ∧ e ≠ it) where
  mem := by simp
  obj := fun i h st b hb => by
    obtain ⟨⟨old, he⟩, ⟨o, ho, hc, hd⟩, _⟩ := st
    have e' : b = e ∨ b = it := by simpa using hb
    rcases e' with z | z
    · rw [z]; exact ⟨_, he, fun v q => nomatch q⟩
    · rw [z]; exact ⟨o, ho, fun v q => by rw [hd] at q; cases q⟩
  keep := fun i h h' st k => let ⟨⟨old, he⟩, hi, hne⟩ := st; ⟨⟨old, k e (by simp) _ he⟩, hi.at fun o q => k it (by simp) o q, hne⟩
  item := by
    intro X hP hw hK hc i pins s σ H E I hf st hg
    subst hP hw hK
    obtain ⟨⟨old, he⟩, hit, hne⟩ := st
    obtain ⟨xs, x, hq, hx⟩ := hg
    obtain ⟨its, rv, p, hz⟩ := I.tuple hq
    obtain ⟨u, hu, ru⟩ := rv.get hx
    have hel : e < s.heap.objs.size := Heap.lt_size he
    have hil : it < s.heap.objs.size := by obtain ⟨_, q, _⟩ := hit; exact Heap.lt_size q
    have D := Draws.tuple (prog := X.prog) (w := X.w) (A := X.A.in1) (I.ok.hd hc) it a hai its.toArray
    have hi : i < its.length := by
      have := List.getElem?_eq_some_iff.mp hu
      exact this.1
    refine wpAny_pyNext_enum_itemD D he ⟨hit, p⟩ (by simpa using hi) hne (fun z => by
      have z' : e = it ∨ e = a := by simpa using z
      rcases z' with z | z
      · exact hne z
      · exact hae z.symm) fun x2 h' tk hx2 ho hst hT hsz hk => ?_
    have ex : x2 = u := by
      have : its.toArray[i]? = some x2 := hx2
      rw [List.getElem?_toArray] at this
      rw [hu] at this
      exact (Option.some.inj this).symm
    subst ex
    refine ⟨_, rfl, wpAny_letOwnedTupleGo_enum (s := { s with heap := h', toks := tk + 1 }) ho fun h'' he' sb => ?_⟩
    have hT2 : h''.get? s.heap.objs.size = some { cls := .type "tuple", data := .seq #[.int i tk, x2] } := (sb.2 _ (Nat.ne_of_gt hel)).trans hT
    have new : ObjOk X.prog X.w (upd H s.heap.objs.size (.tup [.int (i : Nat), x])) h'' s.heap.objs.size (.tup [.int (i : Nat), x]) :=
      ⟨by show 2 ≤ sizeLine; decide, [.int i tk, x2], .cons ⟨_, rfl⟩ (.cons ru .nil), ⟨_, hT2, rfl, _, rfl⟩⟩
    have I1 : Inv X pins σ (upd H s.heap.objs.size (.tup [.int (i : Nat), x])) { s with heap := h'', toks := tk + 1 } :=
      I.turnedNew (ch := [e, it]) (fun b ob hb q => (sb.2 b (fun z => hb (by simp [z]))).trans (hk b ob (fun z => hb (by simp [z])) (fun z => hb (by simp [z])) q)) hf (Nat.le_refl _) new
    refine ⟨.ref s.heap.objs.size, _, I1, rfl, ⟨_, x, rfl, I.hok.fresh (Nat.le_refl _), rfl, fun ys hy => by rw [I.tuple_inj hy hq]; exact hx⟩, ⟨⟨x2, ?_⟩, hst.1.at fun o q => (sb.2 it (Ne.symm hne)).trans q, hne⟩, fun b hb => ?_⟩
    · have e1 : ((i + 1 : Nat) : Int) = (i : Int) + 1 := by omega
      rw [e1]; exact he'
    · have hb' : b < s.heap.objs.size := by
        have e' : b = e ∨ b = it := by simpa using hb
        rcases e' with z | z
        · rw [z]; exact hel
        · rw [z]; exact hil
      rw [upd_ne (Nat.ne_of_lt hb')]
      exact (hf b hb).1
  done := by
    intro X hP hw hK hc i pins s σ H E I hf st hg
    subst hP hw hK
    obtain ⟨⟨old, he⟩, hit, hne⟩ := st
    obtain ⟨xs, hq, hx⟩ := hg
    obtain ⟨its, rv, p, hz⟩ := I.tuple hq
    obtain ⟨f0, f1, f2, f3, f4, f5⟩ := hf it (by simp)
    have hl := rv.length
    refine wpAny_pyNext_enum_endD0 (I.ok.hd hc) he hit p (by simp; omega) fun h' eb => ⟨rfl, I.turned (t' := s.toks) (fun b o hb q => eb b o hb q) f0 f1 f3 f4 f5⟩
  self := fun A i s Q E st h => let ⟨⟨_, he⟩, _⟩ := st; wpAny_pyIter_enum he h
def iEnum2 (K : PySem.W.Frag) (ta : TA) : TI := fun σ H R => ta σ H fun vs H1 => ∃ a xs, vs = [.ref a] ∧ ((SqL K H1 a xs ∧ R (Ite K a) H1) ∨ (SqT K H1 a xs ∧ R (IteT K a) H1))
theorem pi_enum2 {X : Cx} {e : Expr} {ta : TA} {p pos tpos : Pos} {elts : List Expr} {kk : Nat} (hg : Gl X "enumerate") (hm : X.mg "enumerate" = none) (ha : PA X [e] ta) (hs : starEach [e] X.env = [(false, eval e X.env)]) :
    PI X (.Tuple elts kk tpos) (.Call (.Name "enumerate" p) [e] [] pos) (iEnum2 X.K ta) := by
  refine ⟨fun pins s σ H R I h => ?_⟩
  refine Call_ (ld_blt I hg hm boot_enumerate (PyProof.Rows.callWith_type1 (thn (ha.run pos pins s σ H _ I h) fun us s1 ⟨vs, H1, I1, r1, q1⟩ => ?_) hs rfl))
  obtain ⟨a, xs, ex, hq⟩ := q1
  subst ex
  cases r1 with
  | cons r rr =>
    cases rr
    cases r
    rcases hq with ⟨hq, q⟩ | ⟨hq, q⟩
    · obtain ⟨its, rv, p', hz⟩ := I1.list hq
      refine call_enumerate_list p'.isList fun h' he hit hsz hk => wpAny_pyIter_enum he ?_
      have I2 : Inv X pins σ H1 { s1 with heap := h' } := I1.kept (t' := s1.toks) hk
      refine ⟨s1.heap.objs.size + 1, [s1.heap.objs.size + 1, s1.heap.objs.size], _, _, H1, rfl, I2, turn_enum a (s1.heap.objs.size + 1) s1.heap.objs.size, ⟨⟨.none, he⟩, hit, Nat.succ_ne_self _⟩, fun b hb => ?_, q⟩
      have e' : b = s1.heap.objs.size + 1 ∨ b = s1.heap.objs.size := by simpa using hb
      have hle : s1.heap.objs.size ≤ b := by
        rcases e' with z | z
        · rw [z]; exact Nat.le_add_right _ _
        · rw [z]; exact Nat.le_refl _
      exact I1.fpOk hle (I1.hok.fresh hle)
    · obtain ⟨its, rv, p', hz⟩ := I1.tuple hq
      have p2 : s1.heap.IsTuple a its.toArray := p'
      have hal : a < s1.heap.objs.size := by
        obtain ⟨_, q, _⟩ := p2
        exact Heap.lt_size q
      refine call_enumerate_tuple p2 fun h' he hit hsz hk => wpAny_pyIter_enum he ?_
      have I2 : Inv X pins σ H1 { s1 with heap := h' } := I1.kept (t' := s1.toks) hk
      refine ⟨s1.heap.objs.size + 1, [s1.heap.objs.size + 1, s1.heap.objs.size], _, _, H1, rfl, I2, turn_enumT a (s1.heap.objs.size + 1) s1.heap.objs.size (Nat.ne_of_lt hal) (Nat.ne_of_lt (Nat.lt_succ_of_lt hal)), ⟨⟨.none, he⟩, hit, Nat.succ_ne_self _⟩, fun b hb => ?_, q⟩
      have e' : b = s1.heap.objs.size + 1 ∨ b = s1.heap.objs.size := by simpa using hb
      have hle : s1.heap.objs.size ≤ b := by
        rcases e' with z | z
        · rw [z]; exact Nat.le_add_right _ _
        · rw [z]; exact Nat.le_refl _
      exact I1.fpOk hle (I1.hok.fresh hle)
end QQ

set_option Elab.async false
set_option linter.all false
set_option maxRecDepth 100000
set_option maxHeartbeats 4000000
/-! Q12: enumerate, zip, list comprehensions. -/
namespace QQ
open PySem PySem.Spec PyProof.Rows L2 RZ

theorem enumD_get : ∀ (ds : List D) (k i : Nat), (enumD ds k)[i]? = ds[i]?.map fun d => D.tup [.int (k + i : Nat), d]
  | [], k, i => by simp [enumD]
  | d :: ds, k, 0 => by simp [enumD]
  | d :: ds, k, i + 1 => by
    rw [enumD, List.getElem?_cons_succ, List.getElem?_cons_succ, enumD_get ds (k + 1) i]
    have : k + 1 + i = k + (i + 1) := by omega
    rw [this]
theorem zipD_get : ∀ (xs ys : List D) (i : Nat), (zipD xs ys)[i]? = match xs[i]?, ys[i]? with
    | some x, some y => some (D.tup [x, y])
    | _, _ => none
  | [], ys, i => by simp [zipD]
  | x :: xs, [], i => by
    rw [zipD]
    · cases (x :: xs)[i]? <;> simp
    · intro a b c d _ e
      cases e
  | x :: xs, y :: ys, 0 => by simp [zipD]
  | x :: xs, y :: ys, i + 1 => by
    rw [zipD, List.getElem?_cons_succ, List.getElem?_cons_succ, List.getElem?_cons_succ, zipD_get xs ys i]
section
variable {C : QQ.Ctx} {G : Glob} {N : List Str} {kk : Nat} {X : Cx} {sc : Scope} {Wx : WX}
theorem enum_core {K : PySem.W.Frag} {η : List Addr} {w : W} {H : Hp} {a : Addr} {vs : List V} {ds : List D} (S : Sm K G η w H) (hq : SqL K H a vs) (r : RepAll K η H ds vs) (i : Nat) :
    (∀ d, (enumD ds 0)[i]? = some d → (Ite K a).go i H ∧ ∀ v H', (Ite K a).yld i H v H' → Stp K G η w H η w H' ∧ Rep K η H' d v) ∧ ((enumD ds 0)[i]? = none → (Ite K a).stop i H) := by
  rw [enumD_get]
  obtain ⟨g1, g2⟩ := rep_at r (i := i)
  refine ⟨fun d e => ?_, fun e => ?_⟩
  · cases e1 : ds[i]? with
    | none => rw [e1] at e; cases e
    | some d1 =>
      rw [e1] at e
      cases e
      obtain ⟨v, e2, rv⟩ := g1 d1 e1
      refine ⟨⟨vs, v, hq, e2⟩, fun u H' ⟨T, x, y1, y2, y3, y4⟩ => ?_⟩
      subst y1 y3
      have := y4 vs hq
      rw [e2] at this
      cases this
      have e0 : (0 + i : Nat) = i := by omega
      rw [e0]
      exact made_tup (vs := [.int (i : Nat), v]) S y2 (.cons (.int _) (.cons rv .nil))
  · cases e1 : ds[i]? with
    | none => exact ⟨vs, hq, g2 e1⟩
    | some d1 => rw [e1] at e; cases e
theorem src_enumF {K : PySem.W.Frag} {η1 : List Addr} {w1 : W} {H1 : Hp} {a : Addr} {vs : List V} {ds : List D} (S1 : Sm K G η1 w1 H1) (hq : FrzL K H1 a vs) (r : RepAll K η1 H1 ds vs) : SrcOk K G (Ite K a) (.fix (enumD ds 0)) η1 w1 H1 := by
  intro η w H st ds' e i
  cases e
  exact enum_core st.sim (frzL_stay hq (st.stay S1)).sq (r.step S1 st) i
theorem src_enumL {K : PySem.W.Frag} {η1 : List Addr} {w1 : W} {H1 : Hp} {a : Addr} {n : Nat} (hn : η1[n]? = some a) : SrcOk K G (Ite K a) (.dyn fun w => (w.lst n).map fun ds => enumD ds 0) η1 w1 H1 := by
  intro η w H st ds e i
  have e : (w.lst n).map (fun ds => enumD ds 0) = some ds := e
  obtain ⟨es, e1, rfl⟩ := Option.map_eq_some_iff.mp e
  obtain ⟨a', vs, ea, hn', hh, r⟩ := Sim.lst st.sim e1 (.ref (st.prefix _ _ hn))
  cases ea
  exact enum_core st.sim (.inl (.inl hh)) r i
theorem enum_coreT {K : PySem.W.Frag} {η : List Addr} {w : W} {H : Hp} {a : Addr} {vs : List V} {ds : List D} (S : Sm K G η w H) (hq : SqT K H a vs) (r : RepAll K η H ds vs) (i : Nat) :
    (∀ d, (enumD ds 0)[i]? = some d → (IteT K a).go i H ∧ ∀ v H', (IteT K a).yld i H v H' → Stp K G η w H η w H' ∧ Rep K η H' d v) ∧ ((enumD ds 0)[i]? = none → (IteT K a).stop i H) := by
  rw [enumD_get]
  obtain ⟨g1, g2⟩ := rep_at r (i := i)
  refine ⟨fun d e => ?_, fun e => ?_⟩
  · cases e1 : ds[i]? with
    | none => rw [e1] at e; cases e
    | some d1 =>
      rw [e1] at e
      cases e
      obtain ⟨v, e2, rv⟩ := g1 d1 e1
      refine ⟨⟨vs, v, hq, e2⟩, fun u H' ⟨T, x, y1, y2, y3, y4⟩ => ?_⟩
      subst y1 y3
      have := y4 vs hq
      rw [e2] at this
      cases this
      have e0 : (0 + i : Nat) = i := by omega
      rw [e0]
      exact made_tup (vs := [.int (i : Nat), v]) S y2 (.cons (.int _) (.cons rv .nil))
  · cases e1 : ds[i]? with
    | none => exact ⟨vs, hq, g2 e1⟩
    | some d1 => rw [e1] at e; cases e
theorem src_enumT {K : PySem.W.Frag} {η1 : List Addr} {w1 : W} {H1 : Hp} {a : Addr} {vs : List V} {ds : List D} (S1 : Sm K G η1 w1 H1) (hq : SqT K H1 a vs) (r : RepAll K η1 H1 ds vs) : SrcOk K G (IteT K a) (.fix (enumD ds 0)) η1 w1 H1 := by
  intro η w H st ds' e i
  cases e
  exact enum_coreT st.sim (sqT_stay hq (st.stay S1)) (r.step S1 st) i
theorem qi_enum (g : GoodE C G N kk X sc) {a : E} {n : Expr} {p pos tpos : Pos} {elts : List Expr} {k : Nat} (f1 : ("enumerate" : Str) ∈ C.P.free) (h2 : glbB sc "enumerate" = true) (hc : chkE C.P N sc a n = true) (ha : PE X n (tE C G X.K a Wx)) :
    PI X (.Tuple elts k tpos) (.Call (.Name "enumerate" p) [n] [] pos) (tI C G X.K (.enum a) Wx) := by
  refine ⟨fun pins s σ H Rx I h => ?_⟩
  obtain ⟨ρ, η, w, S, sl, h⟩ := h
  have st0 := star_cons (P := C.P) hc [] X.env
  refine (pi_enum2 (g.gl h2) (g.pk.free _ f1) (pa_cons ha pa_nil st0) st0).run pins s σ H Rx I (un_G ha S sl (show ((evE C ρ a w).bind fun r => match r.1 with
    | .frz ds => R.ok (Src.fix (enumD ds 0), r.2)
    | .tup ds => R.ok (Src.fix (enumD ds 0), r.2)
    | .ref n => match r.2.lst n with
      | some _ => R.ok (Src.dyn fun w => (w.lst n).map fun ds => enumD ds 0, r.2)
      | none => R.bad
    | _ => R.bad).sat _ _ from h) (fun _ _ _ _ z => z) fun r v H1 η1 st rv sl1 h1 => ?_)
  obtain ⟨d, w1⟩ := r
  cases d with
  | frz ds =>
    cases rv with
    | frz h2 h3 => exact ⟨_, _, rfl, .inl ⟨h2.sq, h1 _ H1 η1 st (src_enumF st.sim h2 h3)⟩⟩
  | tup ds =>
    cases rv with
    | tup h2 h3 => exact ⟨_, _, rfl, .inr ⟨h2, h1 _ H1 η1 st (src_enumT st.sim h2 h3)⟩⟩
  | ref n =>
    cases rv with
    | ref e2 =>
      simp only at h1
      split at h1
      · rename_i ds e
        obtain ⟨a', vs, ea, hn', hh, r⟩ := Sim.lst st.sim e (.ref e2)
        cases ea
        exact ⟨_, vs, rfl, .inl ⟨.inl (.inl hh), h1 _ H1 η1 st (src_enumL e2)⟩⟩
      · exact h1.elim
  | _ => exact h1.elim
theorem src_zipT {K : PySem.W.Frag} {η1 : List Addr} {w1 : W} {H1 : Hp} {a b : Addr} {vs us : List V} {ds es : List D} (S1 : Sm K G η1 w1 H1) (hq : SqT K H1 a vs) (hq2 : SqT K H1 b us) (r : RepAll K η1 H1 ds vs) (r2 : RepAll K η1 H1 es us) : SrcOk K G (ItzT K a b) (.fix (zipD ds es)) η1 w1 H1 := by
  intro η w H st ds' e i
  cases e
  have hq := sqT_stay hq (st.stay S1)
  have hq2 := sqT_stay hq2 (st.stay S1)
  have r := r.step S1 st
  have r2 := r2.step S1 st
  rw [zipD_get]
  obtain ⟨g1, g2⟩ := rep_at r (i := i)
  obtain ⟨k1, k2⟩ := rep_at r2 (i := i)
  cases e1 : ds[i]? with
  | none => exact ⟨fun d e => (by cases e), fun _ => ⟨vs, us, hq, hq2, .inl (g2 e1)⟩⟩
  | some d1 =>
    cases e2 : es[i]? with
    | none => exact ⟨fun d e => (by cases e), fun _ => ⟨vs, us, hq, hq2, .inr (k2 e2)⟩⟩
    | some d2 =>
      refine ⟨fun d e => ?_, fun e => by cases e⟩
      cases e
      obtain ⟨v, e3, rv⟩ := g1 d1 e1
      obtain ⟨u, e4, ru⟩ := k1 d2 e2
      refine ⟨⟨vs, us, v, u, hq, hq2, e3, e4⟩, fun z H' ⟨T, x, y, y1, y2, y3, y4, y5⟩ => ?_⟩
      subst y1 y3
      have q1 := y4 vs hq
      have q2 := y5 us hq2
      rw [e3] at q1
      rw [e4] at q2
      cases q1
      cases q2
      exact made_tup (vs := [v, u]) st.sim y2 (.cons rv (.cons ru .nil))
theorem src_zipL {K : PySem.W.Frag} {η1 : List Addr} {w1 : W} {H1 : Hp} {a b : Addr} {n m : Nat} (hn : η1[n]? = some a) (hm : η1[m]? = some b) : SrcOk K G (Itz K a b) (.dyn fun w => match w.lst n, w.lst m with
        | some xs, some ys => some (zipD xs ys)
        | _, _ => none) η1 w1 H1 := by
  intro η w H st ds' e i
  have e : (match w.lst n, w.lst m with
        | some xs, some ys => some (zipD xs ys)
        | _, _ => none) = some ds' := e
  split at e
  · rename_i ds es f1 f2
    cases e
    obtain ⟨a', vs, ea, _, hh, r⟩ := Sim.lst st.sim f1 (.ref (st.prefix _ _ hn))
    obtain ⟨b', us, eb, _, hh2, r2⟩ := Sim.lst st.sim f2 (.ref (st.prefix _ _ hm))
    cases ea
    cases eb
    have hq : SqL K H a vs := .inl (.inl hh)
    have hq2 : SqL K H b us := .inl (.inl hh2)
    rw [zipD_get]
    obtain ⟨g1, g2⟩ := rep_at r (i := i)
    obtain ⟨k1, k2⟩ := rep_at r2 (i := i)
    cases e1 : ds[i]? with
    | none => exact ⟨fun d e => (by cases e), fun _ => ⟨vs, us, hq, hq2, .inl (g2 e1)⟩⟩
    | some d1 =>
      cases e2 : es[i]? with
      | none => exact ⟨fun d e => (by cases e), fun _ => ⟨vs, us, hq, hq2, .inr (k2 e2)⟩⟩
      | some d2 =>
        refine ⟨fun d e => ?_, fun e => by cases e⟩
        cases e
        obtain ⟨v, e3, rv⟩ := g1 d1 e1
        obtain ⟨u, e4, ru⟩ := k1 d2 e2
        refine ⟨⟨vs, us, v, u, hq, hq2, e3, e4⟩, fun z H' ⟨T, x, y, y1, y2, y3, y4, y5⟩ => ?_⟩
        subst y1 y3
        have q1 := y4 vs hq
        have q2 := y5 us hq2
        rw [e3] at q1
        rw [e4] at q2
        cases q1
        cases q2
        exact made_tup (vs := [v, u]) st.sim y2 (.cons rv (.cons ru .nil))
  · cases e
theorem qi_zip (g : GoodE C G N kk X sc) {a b : E} {n m : Expr} {p pos tpos : Pos} {elts : List Expr} {k : Nat} (f1 : ("zip" : Str) ∈ C.P.free) (h2 : glbB sc "zip" = true) (hc : chkE C.P N sc a n = true) (hc2 : chkE C.P N sc b m = true) (ha : PE X n (tE C G X.K a Wx)) (hb : PE X m (tE C G X.K b Wx)) :
    PI X (.Tuple elts k tpos) (.Call (.Name "zip" p) [n, m] [] pos) (tI C G X.K (.zip a b) Wx) := by
  refine ⟨fun pins s σ H Rx I h => ?_⟩
  obtain ⟨ρ, η, w, S, sl, h⟩ := h
  have st1 := star_cons (P := C.P) hc2 [] X.env
  have st0 := star_cons (P := C.P) hc [m] X.env
  refine (pi_zipA (g.gl h2) (g.pk.free _ f1) (pa_cons ha (pa_cons hb pa_nil st1) st0) st0 (by rw [st1]; rfl)).run pins s σ H Rx I (un_G ha S sl (show ((evE C ρ a w).bind fun r => (evE C ρ b r.2).bind fun q => match r.1, q.1 with
    | .tup xs, .tup ys => R.ok (Src.fix (zipD xs ys), q.2)
    | .ref n, .ref m => match q.2.lst n, q.2.lst m with
      | some _, some _ => R.ok (Src.dyn fun w => match w.lst n, w.lst m with
        | some xs, some ys => some (zipD xs ys)
        | _, _ => none, q.2)
      | _, _ => R.bad
    | _, _ => R.bad).sat _ _ from h) (fun _ _ _ _ z => z) fun r v H1 η1 st rv sl1 h1 => un_G hb st.sim sl1 h1 (fun _ _ _ _ z => z.step S st) fun r2 v2 H2 η2 st2 rv2 sl2 h2 => ?_)
  have rv := rv.step st.sim st2
  obtain ⟨d, w1⟩ := r
  obtain ⟨d2, w2⟩ := r2
  cases d with
  | tup xs =>
    cases d2 with
    | tup ys =>
      cases rv with
      | tup q1 q2 =>
        cases rv2 with
        | tup q3 q4 => exact ⟨_, _, _, _, rfl, .inr ⟨q1, q3, h2 _ H2 η2 (st.trans S st2) (src_zipT st2.sim q1 q3 q2 q4)⟩⟩
    | _ => exact h2.elim
  | ref n =>
    cases d2 with
    | ref m =>
      cases rv with
      | ref q1 =>
        cases rv2 with
        | ref q3 =>
          simp only at h2
          split at h2
          · rename_i ds es f1 f2
            obtain ⟨a', vs, ea, _, hh, r⟩ := Sim.lst st2.sim f1 (.ref q1)
            obtain ⟨b', us, eb, _, hh2, r2⟩ := Sim.lst st2.sim f2 (.ref q3)
            cases ea
            cases eb
            exact ⟨_, _, vs, us, rfl, .inl ⟨.inl (.inl hh), .inl (.inl hh2), h2 _ H2 η2 (st.trans S st2) (src_zipL q1 q3)⟩⟩
          · exact h2.elim
    | _ => exact h2.elim
  | _ => exact h2.elim
end
end QQ

set_option Elab.async false
set_option linter.all false
set_option maxRecDepth 100000
set_option maxHeartbeats 4000000
/-! Q13: list comprehensions. -/
namespace QQ
open PySem PySem.Spec PyProof.Rows L2

def stC (turn : D → W → R (Option D × W)) (src : Src) (m i : Nat) (acc : List D) (w : W) : R (List D × W) := match src with
  | .fix ds => evComp turn (ds.drop i) acc w
  | .dyn f => evCompL turn f m i acc w
theorem drop_at {α : Type} {ds : List α} {i : Nat} {d : α} (h : ds[i]? = some d) : ds.drop i = d :: ds.drop (i + 1) := by
  obtain ⟨hl, e⟩ := List.getElem?_eq_some_iff.mp h
  rw [List.drop_eq_getElem_cons hl, e]
theorem drop_none {α : Type} {ds : List α} {i : Nat} (h : ds[i]? = none) : ds.drop i = [] := by
  rw [List.getElem?_eq_none_iff] at h
  exact List.drop_eq_nil_of_le h
theorem compStep {turn : D → W → R (Option D × W)} {src : Src} {m i : Nat} {acc : List D} {w : W} {Φ : List D × W → Prop} (hm : ∀ ds, src = .fix ds → m = ds.length - i) (h : (stC turn src m i acc w).sat Φ NoX) :
    ∃ ds, src.at_ w = some ds ∧ ((ds[i]? = none ∧ Φ (acc, w)) ∨ ∃ d m', ds[i]? = some d ∧ m' < m ∧ (∀ ds, src = .fix ds → m' = ds.length - (i + 1)) ∧
      (turn d w).sat (fun r => match r.1 with
        | some x => acc.length < line ∧ (stC turn src m' (i + 1) (acc ++ [x]) r.2).sat Φ NoX
        | none => (stC turn src m' (i + 1) acc r.2).sat Φ NoX) NoX) := by
  cases src with
  | fix ds =>
    refine ⟨ds, rfl, ?_⟩
    have h : (evComp turn (ds.drop i) acc w).sat Φ NoX := h
    cases e : ds[i]? with
    | none =>
      rw [drop_none e] at h
      exact .inl ⟨rfl, h⟩
    | some d =>
      rw [drop_at e] at h
      have hl := (List.getElem?_eq_some_iff.mp e).1
      have hm := hm ds rfl
      refine .inr ⟨d, ds.length - (i + 1), rfl, by omega, fun ds' e' => (by cases e'; rfl), ?_⟩
      have h : ((turn d w).bind fun r => match r.1 with
        | some x => if acc.length < line then evComp turn (ds.drop (i + 1)) (acc ++ [x]) r.2 else R.bad
        | none => evComp turn (ds.drop (i + 1)) acc r.2).sat Φ NoX := h
      rw [sat_bind] at h
      refine sat_mono h (fun r hr => ?_) fun _ _ _ _ z => z
      obtain ⟨o, w1⟩ := r
      cases o with
      | none => exact hr
      | some x =>
        simp only at hr
        split at hr
        · exact ⟨by assumption, hr⟩
        · exact hr.elim
  | dyn f =>
    cases m with
    | zero => exact h.elim
    | succ m =>
      have h : (match f w with
        | none => R.bad
        | some ds => match ds[i]? with
          | none => R.ok (acc, w)
          | some d => (turn d w).bind fun r => match r.1 with
            | some x => if acc.length < line then evCompL turn f m (i + 1) (acc ++ [x]) r.2 else R.bad
            | none => evCompL turn f m (i + 1) acc r.2).sat Φ NoX := h
      cases e : f w with
      | none => rw [e] at h; exact h.elim
      | some ds =>
        rw [e] at h
        refine ⟨ds, e, ?_⟩
        simp only at h
        cases e2 : ds[i]? with
        | none => rw [e2] at h; exact .inl ⟨rfl, h⟩
        | some d =>
          rw [e2] at h
          refine .inr ⟨d, m, rfl, Nat.lt_succ_self m, fun ds' e' => (by cases e'), ?_⟩
          simp only at h
          rw [sat_bind] at h
          refine sat_mono h (fun r hr => ?_) fun _ _ _ _ z => z
          obtain ⟨o, w1⟩ := r
          cases o with
          | none => exact hr
          | some x =>
            simp only at hr
            split at hr
            · exact ⟨by assumption, hr⟩
            · exact hr.elim
section
variable {K : PySem.W.Frag} {ca : Nat → Addr} {nm : List Str} {η η' η1 : List Addr} {w w' w1 : W} {H H' H1 : Hp}
/-- an object beside stays beside -/
theorem Step.out (st : Step K ca nm η w H η' w' H') {D : Addr} {o : HO} (n : D ∉ η) (h : H D = some o) : D ∉ η' ∧ H' D = some o :=
  ⟨fun z => (by
    have := st.new D z n
    rw [h] at this
    cases this), st.fr D o h n⟩
theorem Sim.poke (S : Sim K ca nm η w.cs H) {D : Addr} {vs vs' : List V} (n : D ∉ η) (h : H D = some (.lst vs)) : Stay H (upd H D (.lst vs')) ∧ Sim K ca nm η w.cs (upd H D (.lst vs')) := by
  have st : Stay H (upd H D (.lst vs')) := fun a o e i => by
    by_cases ea : a = D
    · subst ea
      rw [h] at e
      cases e
      cases i
    · rw [upd_ne ea]
      exact e
  refine ⟨st, S.len, S.nd, fun k c a h1 h2 => ?_⟩
  have ne : a ≠ D := fun e => n (by rw [← e]; exact List.mem_of_getElem? h2)
  have r := S.cell k c a h1 h2
  cases c with
  | lst ds =>
    obtain ⟨vs, e, ra⟩ := r
    exact ⟨vs, by rw [upd_ne ne]; exact e, ra.mono st (Pre.refl _)⟩
  | ins c fs =>
    obtain ⟨dx, vs, e, ra⟩ := r
    exact ⟨dx, vs, by rw [upd_ne ne]; exact e, ra.mono st (Pre.refl _)⟩
theorem Step.poke (st : Step K ca nm η w H η' w' H') {D : Addr} {vs vs' : List V} (h0 : H D = none) (n : D ∉ η') (h : H' D = some (.lst vs)) : Step K ca nm η w H η' w' (upd H' D (.lst vs')) := by
  refine ⟨(Sim.poke st.sim n h).2, st.pre, fun a o e ne => ?_, st.new, st.lo, st.old⟩
  have : a ≠ D := fun z => by subst z; rw [h0] at e; cases e
  rw [upd_ne this]
  exact st.fr a o e ne
/-- a new list that stood beside comes in -/
theorem Step.adopt (st : Step K ca nm η w H η' w' H') (S : Sim K ca nm η w.cs H) {D : Addr} {ds : List QQ.D} {vs : List V} (h0 : H D = none) (n : D ∉ η') (h : H' D = some (.lst vs)) (r : RepAll K η' H' ds vs) :
    Step K ca nm η w H (η' ++ [D]) (w'.mkl ds).2 H' ∧ Rep K (η' ++ [D]) H' (w'.mkl ds).1 (.ref D) := by
  have pr : Pre η' (η' ++ [D]) := fun n a h => by rw [List.getElem?_append_left (List.getElem?_eq_some_iff.mp h).1]; exact h
  have len := st.sim.len
  refine ⟨⟨⟨by simp [W.mkl, W.new, len], ?_, fun k c a h1 h2 => ?_⟩, ?_, st.fr, fun a h1 h2 => ?_, st.lo, fun i h1 h2 => ?_⟩, .ref ?_⟩
  · rw [List.nodup_append]
    refine ⟨st.sim.nd, by simp, fun a ha b hb e => ?_⟩
    have : b = D := by simpa using hb
    subst this
    subst e
    exact n ha
  · by_cases hk : k < w'.cs.length
    · have h1 : (w'.cs ++ [Cell.lst ds])[k]? = some c := h1
      rw [List.getElem?_append_left hk] at h1
      rw [List.getElem?_append_left (by rw [len]; exact hk)] at h2
      have r := st.sim.cell k c a h1 h2
      cases c with
      | lst ds =>
        obtain ⟨vs, e, ra⟩ := r
        exact ⟨vs, e, ra.mono (Stay.refl _) pr⟩
      | ins c fs =>
        obtain ⟨dx, vs, e, ra⟩ := r
        exact ⟨dx, vs, e, ra.mono (Stay.refl _) pr⟩
    · have h1 : (w'.cs ++ [Cell.lst ds])[k]? = some c := h1
      have hlt : k < (w'.cs ++ [Cell.lst ds]).length := (List.getElem?_eq_some_iff.mp h1).1
      have e : k = w'.cs.length := by simp at hlt; omega
      subst e
      rw [List.getElem?_append_right (Nat.le_refl _)] at h1
      rw [← len, List.getElem?_append_right (Nat.le_refl _)] at h2
      simp at h1 h2
      subst h1 h2
      exact ⟨vs, h, r.mono (Stay.refl _) pr⟩
  · obtain ⟨t, e⟩ := st.pre
    exact ⟨t ++ [D], by rw [e, List.append_assoc]⟩
  · rcases List.mem_append.mp h1 with z | z
    · exact st.new a z h2
    · have : a = D := by simpa using z
      rw [this]
      exact h0
  · have hl := st.len S
    have h1 : i < w'.lo := h1
    show (w'.cs ++ [Cell.lst ds])[i]? = _
    rw [List.getElem?_append_left (by omega)]
    exact st.old i h1 h2
  · show (η' ++ [D])[w'.cs.length]? = some D
    rw [← len]
    simp
end
section
variable {C : QQ.Ctx} {G : Glob} {N : List Str} {kk : Nat} {X : Cx} {sc : Scope} {Wx : WX}
abbrev WF : WX := fun _ _ _ _ => False
/-- what the evaluator says of a comprehension is what the rule asks -/
theorem lc_of {elt : E} {tg : Tg} {it : QQ.It} {own : List Nat} {cs : Ts} (hv : ∀ i ∈ tgVars tg, i ∈ own) {σ : L2.St} {H : Hp} {Q : VK} (h : tE C G X.K (.comp elt tg it own cs) Wx σ H Q) :
    tLc (tI C G X.K it Wx) (tG C G X.K tg) (tAll C G X.K cs WF) (tE C G X.K elt WF) own σ H Q := by
  obtain ⟨ρ, η, w, S, sl, h⟩ := h
  let turn : D → W → R (Option D × W) := fun d w => (evTg C tg d (wipeR ρ own) w).bind fun r => (evAll C r.1 cs r.2).bind fun k =>
      if k.1 = true then (evE C r.1 elt k.2).bind fun q => .ok (some q.1, q.2) else .ok (none, k.2)
  have h : ((evIt C ρ it w).bind fun s => (R.calm (evCompS turn C.L s.2 s.1)).bind fun r => R.ok (r.2.mkl r.1)).sat (Want X.K G η w H Q) (Xp X.K G Wx σ η w H) := h
  rw [sat_bind] at h
  refine ⟨ρ, η, w, S, sl, sat_mono h (fun r hr J H1 η1 st0 jok => ?_) fun _ _ _ _ z => z⟩
  obtain ⟨src, w1⟩ := r
  rw [sat_bind] at hr
  intro D hD
  have S1 := st0.sim
  have hr2 : (evCompS turn C.L w1 src).sat (fun r => Want X.K G η w H Q (r.2.mkl r.1)) NoX := sat_calm hr
  refine ⟨fun i m H' => ∃ η' w' acc vs, Stp X.K G η1 w1 H1 η' w' H' ∧ D ∉ η' ∧ H' D = some (.lst vs) ∧ RepAll X.K η' H' acc vs ∧ (∀ ds, src = .fix ds → m = ds.length - i) ∧ (stC turn src m i acc w').sat (fun r => Want X.K G η w H Q (r.2.mkl r.1)) NoX, ?_, ?_⟩
  · have st1 : Stp X.K G η1 w1 H1 η1 w1 (upd H1 D (.lst [])) := Step.beside S1 hD
    cases src with
    | fix ds => exact ⟨ds.length, η1, w1, [], [], st1, S1.out hD, upd_same, .nil, fun ds' e => (by cases e; rfl), hr2⟩
    | dyn f => exact ⟨C.L, η1, w1, [], [], st1, S1.out hD, upd_same, .nil, fun ds' e => (by cases e), hr2⟩
  · rintro i m H2 ⟨η2, w2, acc, vs, st2, nD, hD2, ra, hm, run⟩
    obtain ⟨ds, e1, run⟩ := compStep hm run
    obtain ⟨j1, j2⟩ := jok η2 w2 H2 st2 ds e1 i
    rcases run with ⟨e2, fin⟩ | ⟨d, m', e2, lt, hm', run⟩
    · refine .inl ⟨j2 e2, ?_⟩
      obtain ⟨st3, rp⟩ := st2.adopt S1 hD nD hD2 ra
      exact fin (.ref D) H2 _ (st0.trans S st3) rp
    · obtain ⟨go, yl⟩ := j1 d e2
      refine .inr ⟨go, fun H' => ∃ η' w' acc vs, Stp X.K G η1 w1 H1 η' w' H' ∧ D ∉ η' ∧ H' D = some (.lst vs) ∧ RepAll X.K η' H' acc vs ∧ (stC turn src m' (i + 1) acc w').sat (fun r => Want X.K G η w H Q (r.2.mkl r.1)) NoX,
        fun H' ⟨η', w', acc', vs', z1, z2, z3, z4, z5⟩ => ⟨m', lt, η', w', acc', vs', z1, z2, z3, z4, hm', z5⟩, fun v H3 hy => ?_⟩
      obtain ⟨st3, rv⟩ := yl v H3 hy
      obtain ⟨nD3, hD3⟩ := st3.out nD hD2
      have ra3 := ra.step st2.sim st3
      have sl3 : Slots X.K η2 H3 (wipeR ρ own) (L2.wipe σ own) := (((sl.step S st0).step S1 st2).step st2.sim st3).wipe own
      have st23 := st2.trans S1 st3
      have run : ((evTg C tg d (wipeR ρ own) w2).bind fun r => (evAll C r.1 cs r.2).bind fun k =>
        if k.1 = true then (evE C r.1 elt k.2).bind fun q => R.ok (some q.1, q.2) else R.ok (none, k.2)).sat (fun r => match r.1 with
        | some x => acc.length < line ∧ (stC turn src m' (i + 1) (acc ++ [x]) r.2).sat (fun r => Want X.K G η w H Q (r.2.mkl r.1)) NoX
        | none => (stC turn src m' (i + 1) acc r.2).sat (fun r => Want X.K G η w H Q (r.2.mkl r.1)) NoX) NoX := run
      rw [sat_bind] at run
      refine ⟨d, wipeR ρ own, η2, w2, st3.sim, sl3, rv, sat_mono run (fun r4 hr4 σ4 H4 η4 st4 sl4 kp => ⟨?_, ?_⟩) fun _ _ _ _ z => z⟩
      · have k1 : KeepS own σ (L2.wipe σ own) := by
          refine ⟨L2.wipe_length σ own, fun j hj => ?_⟩
          rw [wipe_get]
          simp [hj]
        exact (k1.trans (kp.mono hv)).wipe fun _ z => z
      · rw [sat_bind] at hr4
        obtain ⟨nD4, hD4⟩ := st4.out nD3 hD3
        refine ⟨r4.1, η4, r4.2, st4.sim, sl4, sat_mono hr4 (fun r5 hr5 H5 η5 st5 => ?_) fun _ _ _ _ z => z.elim⟩
        obtain ⟨nD5, hD5⟩ := st5.out nD4 hD4
        obtain ⟨b, w5⟩ := r5
        cases b with
        | false =>
          exact ⟨η5, w5, acc, vs, (st23.trans S1 st4).trans S1 st5, nD5, hD5, (ra3.step st3.sim st4).step st4.sim st5, hr5⟩
        | true =>
          have hr5 : ((evE C r4.1 elt w5).bind fun q => R.ok (some q.1, q.2)).sat _ NoX := hr5
          rw [sat_bind] at hr5
          refine ⟨r4.1, η5, w5, st5.sim, sl4.step st4.sim st5, sat_mono hr5 (fun r6 hr6 y H6 η6 st6 ry => ?_) fun _ _ _ _ z => z.elim⟩
          obtain ⟨nD6, hD6⟩ := st6.out nD5 hD5
          have ra6 := ((ra3.step st3.sim st4).step st4.sim st5).step st5.sim st6
          have hr6 : acc.length < line ∧ (stC turn src m' (i + 1) (acc ++ [r6.1]) r6.2).sat (fun r => Want X.K G η w H Q (r.2.mkl r.1)) NoX := hr6
          refine ⟨vs, hD6, by rw [← ra6.length, ← line_eq]; exact hr6.1, η6, r6.2, acc ++ [r6.1], vs ++ [y], ?_, nD6, upd_same, ?_, hr6.2⟩
          · exact (((st23.trans S1 st4).trans S1 st5).trans S1 st6).poke hD nD6 hD6
          · exact (ra6.append (.cons ry .nil)).mono (Sim.poke (ca := G.ca) (nm := G.nm) (w := r6.2) st6.sim nD6 hD6).1 (Pre.refl _)
theorem own_snd (N : List Str) (own : List Nat) : (ownOf N own).map (·.2) = own := by unfold ownOf; rw [List.map_map]; exact List.map_id' own
theorem q_comp (g : GoodE C G N kk X sc) {elt : E} {tg : Tg} {it : QQ.It} {own : List Nat} {cs : Ts} {x t iter : Expr} {ifs : List Expr} {scope : Scope} {pos : Pos} (hb : blkC N sc scope (ownOf N own) = true) (hv : ∀ i ∈ tgVars tg, i ∈ own) (hi : PI X t iter (tI C G X.K it Wx))
    (hg : ∀ (s : Shared) (H : Hp) (Ca : Addr) (cl : List (Str × Addr)) (fp : List Addr), PG (X.blk s H scope (compEnvC scope cl Ca X.env) fp) t (tG C G X.K tg))
    (ht : ∀ (s : Shared) (H : Hp) (Ca : Addr) (cl : List (Str × Addr)) (fp : List Addr), PTs (X.blk s H scope (compEnvC scope cl Ca X.env) fp) ifs (tAll C G X.K cs WF))
    (he : ∀ (s : Shared) (H : Hp) (Ca : Addr) (cl : List (Str × Addr)) (fp : List Addr), PE (X.blk s H scope (compEnvC scope cl Ca X.env) fp) x (tE C G X.K elt WF))
    (hs : ∀ v, foldedSetIterable iter X.env v = pure v) : PE X (.ListComp x [⟨t, iter, ifs, 0⟩] scope pos) (tE C G X.K (.comp elt tg it own cs) Wx) := by
  refine ⟨fun pins s σ H Q I h => ?_⟩
  have ok : BlkOk X.N X.env.scope scope (ownOf N own) := by
    rw [g.names, g.scope]
    exact blkOk_by hb
  refine (pe_lc g.calm (by rw [g.names]; exact g.nd) hi ok hg ht he hs).run pins s σ H Q I ?_
  rw [own_snd]
  exact lc_of hv h
end
end QQ

set_option Elab.async false
set_option linter.all false
set_option maxRecDepth 100000
set_option maxHeartbeats 8000000
/-! Q14: whatever the check lets through is worth what the evaluator says. -/
namespace QQ
open PySem PySem.Spec PyProof.Rows L2

theorem lookup_rel (g : Str → NameKind → NameKind) (x : Str) : ∀ l : List (Str × NameKind), (l.map fun p => (p.1, g p.1 p.2)).lookup x = (l.lookup x).map (g x)
  | [] => rfl
  | (n, k) :: l => by
    rw [List.map_cons, List.lookup_cons, List.lookup_cons]
    by_cases e : (x == n) = true
    · rw [e]
      have : x = n := eq_of_beq e
      subst this
      rfl
    · have e' : (x == n) = false := by simpa using e
      rw [e']
      exact lookup_rel g x l
theorem rel_look (scope sc : Scope) (x : Str) : (relS scope sc).names.lookup x = (scope.names.lookup x).map fun k => if (k == .free && sc.kind == .function && sc.names.lookup x == some .cell) then .cell else k := by
  have h := lookup_rel (fun n k => if (k == .free && sc.kind == .function && sc.names.lookup n == some .cell) then .cell else k) x scope.names
  rw [← h]
  unfold relS
  congr 1
  apply List.map_congr_left
  intro p _
  obtain ⟨n, k⟩ := p
  show (if (k == .free && sc.kind == .function && sc.names.lookup n == some .cell) then (n, NameKind.cell) else (n, k)) = (n, if (k == .free && sc.kind == .function && sc.names.lookup n == some .cell) then NameKind.cell else k)
  split <;> rfl
theorem rel_loc {scope sc : Scope} {x : Str} (h : locB scope x = true) : (relS scope sc).names.lookup x = scope.names.lookup x := by
  rw [rel_look]
  unfold locB at h
  split at h
  · rename_i e; rw [e]; rfl
  · rename_i e; rw [e]; rfl
  · cases h
section
variable {C : QQ.Ctx} {G : Glob} {N : List Str} {kk : Nat}
theorem GoodE.blk {X : Cx} {sc : Scope} (g : GoodE C G N kk X sc) (s : Shared) (H : Hp) (scope : Scope) (Ca : Addr) (cl : List (Str × Addr)) (fp : List Addr) : GoodE C G N kk (X.blk s H scope (compEnvC scope cl Ca X.env) fp) (relS scope sc) where
  pk := g.pk
  scope := by
    show relS scope X.env.scope = _
    rw [g.scope]
  names := g.names
  nd := g.nd
  calm := g.calm
  room := g.room
  clen := g.clen
  fns := g.fns
theorem takes_blk {X : Cx} : Takes X WF := by
  rintro u s' ⟨a, B, sI, pins, σ, H, cls, d, _, _, _, _, _, _, _, _, w⟩
  exact w.elim
/-- names that a target may fill -/
def TgOk (X : Cx) (ts : Scope) : Prop := ∀ x, locB ts x = true → L2.Loc X.env.scope x ∧ (X.fn x = true ∨ X.env.scope.names.lookup x = some .local)
theorem tgOk_blk {X : Cx} {sc : Scope} (g : GoodE C G N kk X sc) (s : Shared) (H : Hp) (scope : Scope) (Ca : Addr) (cl : List (Str × Addr)) (fp : List Addr) : TgOk (X.blk s H scope (compEnvC scope cl Ca X.env) fp) scope := by
  intro x h
  have e : (compEnvC scope cl Ca X.env).scope.names.lookup x = scope.names.lookup x := rel_loc (sc := X.env.scope) h
  unfold L2.Loc
  show ((compEnvC scope cl Ca X.env).scope.names.lookup x = some .local ∨ (compEnvC scope cl Ca X.env).scope.names.lookup x = some .cell) ∧ ((scope.names.lookup x == some .cell) = true ∨ (compEnvC scope cl Ca X.env).scope.names.lookup x = some .local)
  rw [e]
  unfold locB at h
  split at h
  · rename_i e1
    rw [e1]
    exact ⟨.inl rfl, .inr rfl⟩
  · rename_i e1
    rw [e1]
    exact ⟨.inr rfl, .inl rfl⟩
  · cases h
theorem chkIt_fold {P : Prog} {sc : Scope} {t : Expr} {it : QQ.It} {e : Expr} (h : chkIt P N sc t it e = true) (env : PySem.Env) (v : Value) : foldedSetIterable e env v = pure v := by
  cases it with
  | seq a => exact no_fold (P := P) (N := N) (sc := sc) (a := a) h env v
  | _ => cases e <;> first | rfl | (cases h; done)
theorem dec {p : Prop} [Decidable p] (h : decide p = true) : p := of_decide_eq_true h
end
end QQ

set_option Elab.async false
set_option linter.all false
set_option maxRecDepth 100000
set_option maxHeartbeats 8000000
/-! Q15: expressions, all of them. -/
namespace QQ
open PySem PySem.Spec PyProof.Rows L2

section
variable {C : QQ.Ctx} {G : Glob} {N : List Str} {kk : Nat}
theorem cmp_form {P : Prog} {sc : Scope} {a : E} {l : Expr} {ops : List CmpOp} {cs : List Expr} {p : Pos} (h : chkE P N sc a (.Compare l ops cs p) = true) :
    (∃ c x y op r, a = .cmp c x y ∧ ops = [op] ∧ cs = [r]) ∨ (∃ c c' x y z op op' r r', a = .chain c c' x y z ∧ ops = [op, op'] ∧ cs = [r, r']) := by
  cases a with
  | cmp c x y =>
    match ops, cs, h with
    | [op], [r], h => exact .inl ⟨c, x, y, op, r, rfl, rfl, rfl⟩
  | chain c c' x y z =>
    match ops, cs, h with
    | [op, op'], [r, r'], h => exact .inr ⟨c, c', x, y, z, op, op', r, r', rfl, rfl, rfl⟩
  | cst d => exact absurd h (by show ¬ (false = true); simp)
  | _ => first | (cases h; done) | (exact absurd h (by simp [chkE]))
mutual
theorem snd_E : ∀ (a : E) {X : Cx} {sc : Scope} {Wx : WX} {e : Expr}, GoodE C G N kk X sc → Takes X Wx → chkE C.P N sc a e = true → PE X e (tE C G X.K a Wx)
  | .var i, X, sc, Wx, e, g, tk, h => by
    have h : (match (generalizing := false) e with | .Name x _ => decide (N[i]? = some x) && (visB sc x && okN x) | _ => false) = true := h
    split at h
    · obtain ⟨h1, h2⟩ := and2 h
      obtain ⟨h2, h3⟩ := and2 h2
      exact q_var g (dec h1) h2 h3
    · cases h
  | .cst d, X, sc, Wx, e, g, tk, h => by
    have h : (match (generalizing := false) e with | .Constant c _ _ => cstB d c | _ => false) = true := h
    split at h
    · exact q_cst h
    · cases h
  | .glob i, X, sc, Wx, e, g, tk, h => by
    have h : (match (generalizing := false) e with | .Name x _ => (match C.P.cst[i]? with | some (y, _) => decide (x = y) | none => false) && (glbB sc x && okN x) | _ => false) = true := h
    split at h
    · obtain ⟨h1, h2⟩ := and2 h
      obtain ⟨h2, h3⟩ := and2 h2
      split at h1
      · rename_i y d e1
        have ex := dec h1
        subst ex
        exact q_glob g e1 h2 h3
      · cases h1
    · cases h
  | .bin o a b, X, sc, Wx, e, g, tk, h => by
    have h : (match (generalizing := false) e with | .BinOp l op r _ => decide (op = astOp o) && (chkE C.P N sc a l && chkE C.P N sc b r) | _ => false) = true := h
    split at h
    · obtain ⟨h1, h2⟩ := and2 h
      obtain ⟨h2, h3⟩ := and2 h2
      have eo := dec h1
      subst eo
      exact q_bin (snd_E a g tk h2) (snd_E b g tk h3)
    · cases h
  | .neg a, X, sc, Wx, e, g, tk, h => by
    have h : (match (generalizing := false) e with | .UnaryOp .USub x _ => chkE C.P N sc a x | _ => false) = true := h
    split at h
    · exact q_neg (snd_E a g tk h)
    · cases h
  | .cmp c a b, X, sc, Wx, e, g, tk, h => by
    have h : (match (generalizing := false) e with | .Compare l [op] [r] _ => decide (op = astCp c) && (chkE C.P N sc a l && chkE C.P N sc b r) | _ => false) = true := h
    split at h
    · obtain ⟨h1, h2⟩ := and2 h
      obtain ⟨h2, h3⟩ := and2 h2
      have eo := dec h1
      subst eo
      exact q_cmp g (snd_E a g tk h2) (snd_E b g tk h3) (no_marks h3 _)
    · cases h
  | .chain c c' a b d, X, sc, Wx, e, g, tk, h => by
    have h : (match (generalizing := false) e with | .Compare l [op, op'] [r, r'] _ => decide (op = astCp c) && (decide (op' = astCp c') && (chkE C.P N sc a l && (chkE C.P N sc b r && chkE C.P N sc d r'))) | _ => false) = true := h
    split at h
    · obtain ⟨h1, h2⟩ := and2 h
      obtain ⟨h2, h3⟩ := and2 h2
      obtain ⟨h3, h4⟩ := and2 h3
      obtain ⟨h4, h5⟩ := and2 h4
      have eo := dec h1
      subst eo
      have eo := dec h2
      subst eo
      exact q_chain g (snd_E a g tk h3) (snd_E b g tk h4) (snd_E d g tk h5) (no_marks h5 _)
    · cases h
  | .andv es, X, sc, Wx, e, g, tk, h => by
    have h : (match (generalizing := false) e with | .BoolOp .And vs _ => chkEs C.P N sc es vs | _ => false) = true := h
    split at h
    · exact snd_And es g tk h
    · cases h
  | .orv es, X, sc, Wx, e, g, tk, h => by
    have h : (match (generalizing := false) e with | .BoolOp .Or vs _ => chkEs C.P N sc es vs | _ => false) = true := h
    split at h
    · exact snd_Or es g tk h
    · cases h
  | .notv a, X, sc, Wx, e, g, tk, h => by
    have h : (match (generalizing := false) e with | .UnaryOp .Not x _ => chkE C.P N sc a x | _ => false) = true := h
    split at h
    · exact q_notv (snd_E a g tk h)
    · cases h
  | .ifx t a b, X, sc, Wx, e, g, tk, h => by
    have h : (match (generalizing := false) e with | .IfExp c x y _ => chkT C.P N sc t c && (chkE C.P N sc a x && chkE C.P N sc b y) | _ => false) = true := h
    split at h
    · obtain ⟨h1, h2⟩ := and2 h
      obtain ⟨h2, h3⟩ := and2 h2
      exact q_ifx (snd_T t g tk h1) (snd_E a g tk h2) (snd_E b g tk h3)
    · cases h
  | .tup es, X, sc, Wx, e, g, tk, h => by
    have h : (match (generalizing := false) e with | .Tuple xs _ _ => chkEs C.P N sc es xs | _ => false) = true := h
    split at h
    · exact q_tup (snd_Es es g tk h)
    · cases h
  | .lst es, X, sc, Wx, e, g, tk, h => by
    have h : (match (generalizing := false) e with | .List xs _ => chkEs C.P N sc es xs | _ => false) = true := h
    split at h
    · exact q_lst (snd_Es es g tk h)
    · cases h
  | .idx a b, X, sc, Wx, e, g, tk, h => by
    have h : (match (generalizing := false) e with | .Subscript x y _ => chkE C.P N sc a x && chkE C.P N sc b y | _ => false) = true := h
    split at h
    · obtain ⟨h1, h2⟩ := and2 h
      exact q_idx (snd_E a g tk h1) (snd_E b g tk h2) (plain_ix h2)
    · cases h
  | .slc0 a, X, sc, Wx, e, g, tk, h => by
    have h : (match (generalizing := false) e with | .Subscript x (.Slice none none none _) _ => chkE C.P N sc a x | _ => false) = true := h
    split at h
    · exact q_slc0 (snd_E a g tk h)
    · cases h
  | .slc1 a b, X, sc, Wx, e, g, tk, h => by
    have h : (match (generalizing := false) e with | .Subscript x (.Slice (some l) none none _) _ => chkE C.P N sc a x && chkE C.P N sc b l | _ => false) = true := h
    split at h
    · obtain ⟨h1, h2⟩ := and2 h
      exact q_slc1 (snd_E a g tk h1) (snd_E b g tk h2)
    · cases h
  | .slc2 a b, X, sc, Wx, e, g, tk, h => by
    have h : (match (generalizing := false) e with | .Subscript x (.Slice none (some l) none _) _ => chkE C.P N sc a x && chkE C.P N sc b l | _ => false) = true := h
    split at h
    · obtain ⟨h1, h2⟩ := and2 h
      exact q_slc2 (snd_E a g tk h1) (snd_E b g tk h2)
    · cases h
  | .slc3 a b c, X, sc, Wx, e, g, tk, h => by
    have h : (match (generalizing := false) e with | .Subscript x (.Slice (some l) (some m) none _) _ => chkE C.P N sc a x && (chkE C.P N sc b l && chkE C.P N sc c m) | _ => false) = true := h
    split at h
    · obtain ⟨h1, h2⟩ := and2 h
      obtain ⟨h2, h3⟩ := and2 h2
      exact q_slc3 (snd_E a g tk h1) (snd_E b g tk h2) (snd_E c g tk h3)
    · cases h
  | .rev a, X, sc, Wx, e, g, tk, h => by
    have h : (match (generalizing := false) e with | .Subscript x (.Slice none none (some (.UnaryOp .USub c _)) _) _ => isOne c && chkE C.P N sc a x | _ => false) = true := h
    split at h
    · obtain ⟨h1, h2⟩ := and2 h
      exact q_rev (snd_E a g tk h2) h1
    · cases h
  | .call f es, X, sc, Wx, e, g, tk, h => by
    have h : (match (generalizing := false) e with
      | .Call (.Name x _) args [] _ => (match C.P.fns[f]? with
        | some F => nmB C.P f F x && decide (args.length = F.np)
        | none => false) && (glbB sc x && (okN x && chkEs C.P N sc es args))
      | _ => false) = true := h
    split at h
    · obtain ⟨h1, h2⟩ := and2 h
      obtain ⟨h2, h3⟩ := and2 h2
      obtain ⟨h3, h4⟩ := and2 h3
      split at h1
      · rename_i F hF
        obtain ⟨h5, h6⟩ := and2 h1
        exact q_call g tk hF h5 h2 h3 h4 (snd_Es es g tk h4)
      · cases h1
    · cases h
  | .callk f es ks perm, X, sc, Wx, e, g, tk, h => by
    have h : (match (generalizing := false) e with
      | .Call (.Name x _) args kws _ => (match C.P.fns[f]? with
        | some F => nmB C.P f F x
        | none => false) && (glbB sc x && (okN x && (C.P.kwt.contains (f, args.length, kws.map (·.arg), perm) && (chkEs C.P N sc es args && (!kws.isEmpty && chkKs C.P N sc ks kws)))))
      | _ => false) = true := h
    split at h
    · obtain ⟨h1, h2⟩ := and2 h
      obtain ⟨h2, h3⟩ := and2 h2
      obtain ⟨h3, h4⟩ := and2 h3
      obtain ⟨h4, h5⟩ := and2 h4
      obtain ⟨h5, h6⟩ := and2 h5
      obtain ⟨h6, h7⟩ := and2 h6
      split at h1
      · rename_i F hF
        exact q_callk g tk hF h1 h2 h3 (by simpa using h4) h5 h7 (snd_Es es g tk h5) (snd_Ks ks g tk h7)
      · cases h1
    · cases h
  | .make c es, X, sc, Wx, e, g, tk, h => by
    have h : (match (generalizing := false) e with
      | .Call (.Name x _) args [] _ => (match C.P.cls[c]? with
        | some k => decide (k.x = x) && (match k.init with
          | some f => (match C.P.fns[f]? with
            | some F => decide (args.length + 1 = F.np)
            | none => false)
          | none => args.isEmpty)
        | none => false) && (glbB sc x && (okN x && chkEs C.P N sc es args))
      | _ => false) = true := h
    split at h
    · rename_i x p args pos
      obtain ⟨h1, h2⟩ := and2 h
      obtain ⟨h2, h3⟩ := and2 h2
      obtain ⟨h3, h4⟩ := and2 h3
      split at h1
      · rename_i k hk
        obtain ⟨h5, h6⟩ := and2 h1
        have ex := dec h5
        subst ex
        refine q_make g tk hk (fun f hf => ?_) h2 h3 (fun hn => ?_) h4 (snd_Es es g tk h4)
        · rw [hf] at h6
          simp only at h6
          split at h6
          · exact ⟨_, by assumption⟩
          · cases h6
        · rw [hn] at h6
          simpa using h6
      · cases h1
    · cases h
  | .meth o m es, X, sc, Wx, e, g, tk, h => by
    have h : (match (generalizing := false) e with
      | .Call (.Attribute ob nm apos) args [] pos => decide (C.P.attr[m]? = some nm) && ((apos.endLine == pos.line) && (decide (args.length < 29) && (chkE C.P N sc o ob && (chkEs C.P N sc es args && !isSuper ob))))
      | _ => false) = true := h
    split at h
    · obtain ⟨h1, h2⟩ := and2 h
      obtain ⟨h2, h3⟩ := and2 h2
      obtain ⟨h3, h4⟩ := and2 h3
      obtain ⟨h4, h5⟩ := and2 h4
      obtain ⟨h5, h6⟩ := and2 h5
      exact q_meth g tk (dec h1) h2 (dec h3) (by simpa using h6) (snd_E o g tk h4) h5 (snd_Es es g tk h5)
    · cases h
  | .fld o f, X, sc, Wx, e, g, tk, h => by
    have h : (match (generalizing := false) e with
      | .Attribute ob nm _ => decide (C.P.attr[f]? = some nm) && (chkE C.P N sc o ob && !isSuper ob)
      | _ => false) = true := h
    split at h
    · obtain ⟨h1, h2⟩ := and2 h
      obtain ⟨h2, h3⟩ := and2 h2
      exact q_fld g (dec h1) (by simpa using h3) (snd_E o g tk h2)
    · cases h
  | .blt b es, X, sc, Wx, e, g, tk, h => by
    have h : (match (generalizing := false) e with
      | .Call (.Name x _) args [] _ => decide (x = bkN (bltK b)) && (bkB C.P (bltK b) && (glbB sc x && (okN x && (!args.isEmpty && chkEs C.P N sc es args))))
      | _ => false) = true := h
    split at h
    · obtain ⟨h1, k2⟩ := and2 h
      obtain ⟨h2, k3⟩ := and2 k2
      obtain ⟨h3, k4⟩ := and2 k3
      obtain ⟨h4, k5⟩ := and2 k4
      obtain ⟨h5, h6⟩ := and2 k5
      have ex := dec h1
      subst ex
      exact q_blt g h2 h3 h4 (by simpa using h5) h6 (snd_Es es g tk h6)
    · cases h
  | .bltd b es dft, X, sc, Wx, e, g, tk, h => by
    have h : (match (generalizing := false) e with
      | .Call (.Name x _) [a] [⟨some k, ed, _⟩] _ => (decide (b = .min1) || decide (b = .max1)) && (decide (x = bkN (bltK b)) && (decide (k = ("default" : Str)) && (C.P.free.contains x && (glbB sc x && (chkEs C.P N sc es [a] && chkE C.P N sc dft ed)))))
      | _ => false) = true := h
    split at h
    · obtain ⟨h1, k2⟩ := and2 h
      obtain ⟨h2, k3⟩ := and2 k2
      obtain ⟨h3, k4⟩ := and2 k3
      obtain ⟨h4, k5⟩ := and2 k4
      obtain ⟨h5, k6⟩ := and2 k5
      obtain ⟨h6, h7⟩ := and2 k6
      have ex := dec h2
      subst ex
      have ek := dec h3
      subst ek
      exact q_bltd g ((Bool.or_eq_true_iff.mp h1).imp dec dec) (by simpa using h4) h5 h6 (snd_Es es g tk h6) (snd_E dft g tk h7)
    · cases h
  | .isi t a, X, sc, Wx, e, g, tk, h => by
    have h : (match (generalizing := false) e with
      | .Call (.Name x _) [v, .Name y _] [] _ => (decide (x = ("isinstance" : Str)) && (C.P.free.contains x && C.P.free.contains y)) && (decide (y = Str.ofString (tyS t)) && (glbB sc x && (glbB sc y && chkE C.P N sc a v)))
      | _ => false) = true := h
    split at h
    · obtain ⟨h1, h2⟩ := and2 h
      obtain ⟨k1, k3⟩ := and2 h1
      obtain ⟨h3, h4⟩ := and2 k3
      obtain ⟨h5, k6⟩ := and2 h2
      obtain ⟨h6, k7⟩ := and2 k6
      obtain ⟨h7, h8⟩ := and2 k7
      have ex := dec k1
      subst ex
      have ey := dec h5
      subst ey
      exact q_isi g (by simpa using h3) (by simpa using h4) h6 h7 h8 (snd_E a g tk h8)
    · cases h
  | .bm b o es, X, sc, Wx, e, g, tk, h => by
    have h : (match (generalizing := false) e with
      | .Call (.Attribute ob nm apos) args [] pos => decide (nm = Str.ofString (bmK b).1) && ((apos.endLine == pos.line) && (decide (args.length < 29) && (chkE C.P N sc o ob && (chkEs C.P N sc es args && !isSuper ob))))
      | _ => false) = true := h
    split at h
    · obtain ⟨h1, h2⟩ := and2 h
      obtain ⟨h2, h3⟩ := and2 h2
      obtain ⟨h3, h4⟩ := and2 h3
      obtain ⟨h4, h5⟩ := and2 h4
      obtain ⟨h5, h6⟩ := and2 h5
      have ex := dec h1
      subst ex
      exact q_bm h2 (dec h3) (by simpa using h6) (snd_E o g tk h4) h5 (snd_Es es g tk h5)
    · cases h
  | .comp elt tg it own cs, X, sc, Wx, e, g, tk, h => by
    have h : (match (generalizing := false) e with
      | .ListComp x [⟨t, iter, ifs, 0⟩] scope _ => blkC N sc scope (ownOf N own) && ((tgVars tg).all (fun i => own.contains i) && (chkTg C.P N scope (relS scope sc) tg t && (chkIt C.P N sc t it iter && (chkT1 C.P N (relS scope sc) cs ifs && chkE C.P N (relS scope sc) elt x))))
      | _ => false) = true := h
    split at h
    · obtain ⟨h1, h2⟩ := and2 h
      obtain ⟨h2, h3⟩ := and2 h2
      obtain ⟨h3, h4⟩ := and2 h3
      obtain ⟨h4, h5⟩ := and2 h4
      obtain ⟨h5, h6⟩ := and2 h5
      refine q_comp g h1 (fun i hi => ?_) (snd_It it g tk h4) (fun s H Ca cl fp => ?_) (fun s H Ca cl fp => ?_) (fun s H Ca cl fp => ?_) (chkIt_fold h4 _)
      · have := (List.all_eq_true.mp h2) i hi
        simpa using this
      · exact snd_Tg tg (g.blk s H _ Ca cl fp) (tgOk_blk g s H _ Ca cl fp) h3
      · exact snd_T1 cs (g.blk s H _ Ca cl fp) takes_blk h5
      · exact snd_E elt (g.blk s H _ Ca cl fp) takes_blk h6
    · cases h
theorem snd_And : ∀ (es : Es) {X : Cx} {sc : Scope} {Wx : WX} {l : List Expr} {pos : Pos}, GoodE C G N kk X sc → Takes X Wx → chkEs C.P N sc es l = true → PE X (.BoolOp .And l pos) (QQ.tAndV C G X.K es Wx)
  | .nil, X, sc, Wx, l, pos, g, tk, h => ⟨fun pins s σ H Q I hh => by
    obtain ⟨ρ, η, w, S, sl, hh⟩ := hh
    exact hh.elim⟩
  | .cons a es, X, sc, Wx, l, pos, g, tk, h => by
    obtain ⟨e, l', rfl, h1, h2⟩ := cons_args h
    have ha := snd_E a g tk h1
    have hr := snd_And es (pos := pos) g tk h2
    cases es with
    | nil => cases nil_args h2; exact q_av1 ha
    | cons b es =>
      obtain ⟨e', l'', rfl, _, _⟩ := cons_args h2
      exact q_av ha hr
theorem snd_Or : ∀ (es : Es) {X : Cx} {sc : Scope} {Wx : WX} {l : List Expr} {pos : Pos}, GoodE C G N kk X sc → Takes X Wx → chkEs C.P N sc es l = true → PE X (.BoolOp .Or l pos) (QQ.tOrV C G X.K es Wx)
  | .nil, X, sc, Wx, l, pos, g, tk, h => ⟨fun pins s σ H Q I hh => by
    obtain ⟨ρ, η, w, S, sl, hh⟩ := hh
    exact hh.elim⟩
  | .cons a es, X, sc, Wx, l, pos, g, tk, h => by
    obtain ⟨e, l', rfl, h1, h2⟩ := cons_args h
    have ha := snd_E a g tk h1
    have hr := snd_Or es (pos := pos) g tk h2
    cases es with
    | nil => cases nil_args h2; exact q_ov1 ha
    | cons b es =>
      obtain ⟨e', l'', rfl, _, _⟩ := cons_args h2
      exact q_ov ha hr
theorem snd_Es : ∀ (es : Es) {X : Cx} {sc : Scope} {Wx : WX} {l : List Expr}, GoodE C G N kk X sc → Takes X Wx → chkEs C.P N sc es l = true → PA X l (tA C G X.K es Wx)
  | .nil, X, sc, Wx, l, g, tk, h => by
    cases nil_args h
    exact q_nil
  | .cons a es, X, sc, Wx, l, g, tk, h => by
    obtain ⟨e, l', rfl, h1, h2⟩ := cons_args h
    exact q_cons (snd_E a g tk h1) (snd_Es es g tk h2) (star_cons h1 l' X.env)
theorem snd_Ks : ∀ (es : Es) {X : Cx} {sc : Scope} {Wx : WX} {l : List Keyword}, GoodE C G N kk X sc → Takes X Wx → chkKs C.P N sc es l = true → PK X l (tA C G X.K es Wx)
  | .nil, X, sc, Wx, [], g, tk, h => q_knil
  | .nil, X, sc, Wx, _ :: _, g, tk, h => by cases h
  | .cons a es, X, sc, Wx, [], g, tk, h => by cases h
  | .cons a es, X, sc, Wx, ⟨nm, e, kp⟩ :: l, g, tk, h => by
    have h : (nm.isSome && (chkE C.P N sc a e && chkKs C.P N sc es l)) = true := h
    obtain ⟨h1, h2⟩ := and2 h
    obtain ⟨h2, h3⟩ := and2 h2
    exact q_kcons (snd_E a g tk h2) (snd_Ks es g tk h3)
theorem snd_T : ∀ (t : T) {X : Cx} {sc : Scope} {Wx : WX} {e : Expr}, GoodE C G N kk X sc → Takes X Wx → chkT C.P N sc t e = true → PT X e (tT C G X.K t Wx)
  | .val a, X, sc, Wx, e, g, tk, h => by
    obtain ⟨h1, h2⟩ := val_true (t := .val a) h
    rcases h2 with h2 | ⟨l, ops, cs, p, rfl⟩
    · exact q_t_val (snd_E a g tk h1) (h2 X.env)
    · rcases cmp_form h1 with ⟨c, x, y, op, r, rfl, rfl, rfl⟩ | ⟨c, c', x, y, z, op, op', r, r', rfl, rfl, rfl⟩
      · have h3 : (decide (op = astCp c) && (chkE C.P N sc x l && chkE C.P N sc y r)) = true := h1
        obtain ⟨h3, h4⟩ := and2 h3
        obtain ⟨h4, h5⟩ := and2 h4
        have eo := dec h3
        subst eo
        exact q_t_cmp g (snd_E x g tk h4) (snd_E y g tk h5) (no_marks h5 _)
      · have h3 : (decide (op = astCp c) && (decide (op' = astCp c') && (chkE C.P N sc x l && (chkE C.P N sc y r && chkE C.P N sc z r')))) = true := h1
        obtain ⟨h3, h4⟩ := and2 h3
        obtain ⟨h4, h5⟩ := and2 h4
        obtain ⟨h5, h6⟩ := and2 h5
        obtain ⟨h6, h7⟩ := and2 h6
        have eo := dec h3
        subst eo
        have eo := dec h4
        subst eo
        exact q_t_chain g (snd_E x g tk h5) (snd_E y g tk h6) (snd_E z g tk h7) (no_marks h7 _)
  | .nt t, X, sc, Wx, e, g, tk, h => by
    have h : (match (generalizing := false) e with | .UnaryOp .Not x _ => chkT C.P N sc t x | _ => false) = true := h
    split at h
    · exact q_t_not (snd_T t g tk h)
    · cases h
  | .an ts, X, sc, Wx, e, g, tk, h => by
    have h : (match (generalizing := false) e with | .BoolOp .And vs _ => !vs.isEmpty && chkTs C.P N sc ts vs | _ => false) = true := h
    split at h
    · obtain ⟨h1, h2⟩ := and2 h
      exact (snd_All ts g tk h2 (by simpa using h1)).pt
    · cases h
  | .or ts, X, sc, Wx, e, g, tk, h => by
    have h : (match (generalizing := false) e with | .BoolOp .Or vs _ => !vs.isEmpty && chkTs C.P N sc ts vs | _ => false) = true := h
    split at h
    · obtain ⟨h1, h2⟩ := and2 h
      exact (snd_Any ts g tk h2 (by simpa using h1)).pt
    · cases h
theorem snd_All : ∀ (ts : Ts) {X : Cx} {sc : Scope} {Wx : WX} {l : List Expr} {pos : Pos}, GoodE C G N kk X sc → Takes X Wx → chkTs C.P N sc ts l = true → l ≠ [] → PW X (.BoolOp .And l pos) (tAll C G X.K ts Wx)
  | .nil, X, sc, Wx, [], pos, g, tk, h, ne => absurd rfl ne
  | .nil, X, sc, Wx, _ :: _, pos, g, tk, h, ne => by cases h
  | .cons t ts, X, sc, Wx, [], pos, g, tk, h, ne => by cases h
  | .cons t ts, X, sc, Wx, e :: l, pos, g, tk, h, ne => by
    have h : (chkT C.P N sc t e && chkTs C.P N sc ts l) = true := h
    obtain ⟨h1, h2⟩ := and2 h
    have ht := snd_T t g tk h1
    have hr := snd_All ts (pos := pos) g tk h2
    cases ts with
    | nil =>
      cases l with
      | nil => exact q_an1 ht
      | cons _ _ => cases h2
    | cons t' ts =>
      cases l with
      | nil => cases h2
      | cons e' l => exact q_an ht (hr (by simp))
theorem snd_Any : ∀ (ts : Ts) {X : Cx} {sc : Scope} {Wx : WX} {l : List Expr} {pos : Pos}, GoodE C G N kk X sc → Takes X Wx → chkTs C.P N sc ts l = true → l ≠ [] → PW X (.BoolOp .Or l pos) (tAny C G X.K ts Wx)
  | .nil, X, sc, Wx, [], pos, g, tk, h, ne => absurd rfl ne
  | .nil, X, sc, Wx, _ :: _, pos, g, tk, h, ne => by cases h
  | .cons t ts, X, sc, Wx, [], pos, g, tk, h, ne => by cases h
  | .cons t ts, X, sc, Wx, e :: l, pos, g, tk, h, ne => by
    have h : (chkT C.P N sc t e && chkTs C.P N sc ts l) = true := h
    obtain ⟨h1, h2⟩ := and2 h
    have ht := snd_T t g tk h1
    have hr := snd_Any ts (pos := pos) g tk h2
    cases ts with
    | nil =>
      cases l with
      | nil => exact q_or1 ht
      | cons _ _ => cases h2
    | cons t' ts =>
      cases l with
      | nil => cases h2
      | cons e' l => exact q_or ht (hr (by simp))
theorem snd_T1 : ∀ (ts : Ts) {X : Cx} {sc : Scope} {Wx : WX} {l : List Expr}, GoodE C G N kk X sc → Takes X Wx → chkT1 C.P N sc ts l = true → PTs X l (tAll C G X.K ts Wx)
  | .nil, X, sc, Wx, [], g, tk, h => ⟨fun pins s σ H Q I hh => by
    obtain ⟨ρ, η, w, S, sl, hh⟩ := hh
    exact pts_nil.run pins s σ H Q I (hh H η (Step.refl S))⟩
  | .nil, X, sc, Wx, _ :: _, g, tk, h => by cases h
  | .cons t ts, X, sc, Wx, l, g, tk, h => by
    cases ts with
    | cons _ _ =>
      have h : false = true := h
      cases h
    | nil =>
      have h : (match (generalizing := false) l with | [x] => chkT C.P N sc t x | _ => false) = true := h
      split at h
      · have ht := snd_T t g tk h
        refine ⟨fun pins s σ H Q I hh => (pts_one ht).run pins s σ H Q I ?_⟩
        obtain ⟨ρ, η, w, S, sl, hh⟩ := hh
        have hh : ((evT C ρ t w).bind fun r => if r.1 = true then R.ok (true, r.2) else R.ok (false, r.2)).sat (WantB X.K G η w H Q) (Xp X.K G Wx σ η w H) := hh
        rw [sat_bind] at hh
        refine ⟨ρ, η, w, S, sl, sat_mono hh (fun r hr => ?_) fun _ _ _ _ z => z⟩
        obtain ⟨b, w1⟩ := r
        cases b <;> exact hr
      · cases h
theorem snd_Tg : ∀ (t : Tg) {X : Cx} {ts sc : Scope} {e : Expr}, GoodE C G N kk X sc → TgOk X ts → chkTg C.P N ts sc t e = true → PG X e (tG C G X.K t)
  | .nm i, X, ts, sc, e, g, ok, h => by
    have h : (match (generalizing := false) e with | .Name x _ => decide (N[i]? = some x) && locB ts x | _ => false) = true := h
    split at h
    · obtain ⟨h1, h2⟩ := and2 h
      obtain ⟨h3, h4⟩ := ok _ h2
      exact qg_nm (by rw [g.names]; exact g.nd) (by rw [g.names]; exact dec h1) h3 h4
    · cases h
  | .tup us, X, ts, sc, e, g, ok, h => by
    have h : (match (generalizing := false) e with | .Tuple xs _ _ => chkTgs C.P N ts sc us xs | _ => false) = true := h
    split at h
    · exact qg_tup g.calm h (snd_Tgs us g ok h)
    · cases h
  | .sub o i, X, ts, sc, e, g, ok, h => by
    have h : (match (generalizing := false) e with | .Subscript x y _ => chkE C.P N sc o x && chkE C.P N sc i y | _ => false) = true := h
    split at h
    · obtain ⟨h1, h2⟩ := and2 h
      exact qg_sub (Wx := WF) h2 (snd_E o g takes_blk h1) (snd_E i g takes_blk h2)
    · cases h
theorem snd_Tgs : ∀ (us : Tgs) {X : Cx} {ts sc : Scope} {l : List Expr}, GoodE C G N kk X sc → TgOk X ts → chkTgs C.P N ts sc us l = true → PGs X l (tGs C G X.K us)
  | .nil, X, ts, sc, [], g, ok, h => qg_nil
  | .nil, X, ts, sc, _ :: _, g, ok, h => by cases h
  | .cons t us, X, ts, sc, [], g, ok, h => by cases h
  | .cons t us, X, ts, sc, e :: l, g, ok, h => by
    have h : (chkTg C.P N ts sc t e && chkTgs C.P N ts sc us l) = true := h
    obtain ⟨h1, h2⟩ := and2 h
    refine qg_cons (snd_Tg t g ok h1) (snd_Tgs us g ok h2) ?_
    rw [ass_cons h1]
    rfl
theorem snd_It : ∀ (it : QQ.It) {X : Cx} {sc : Scope} {Wx : WX} {t e : Expr}, GoodE C G N kk X sc → Takes X Wx → chkIt C.P N sc t it e = true → PI X t e (tI C G X.K it Wx)
  | .seq a, X, sc, Wx, t, e, g, tk, h => qi_seq (snd_E a g tk h)
  | .rng1 a, X, sc, Wx, t, e, g, tk, h => by
    have h : (match (generalizing := false) e with | .Call (.Name x _) [n] [] _ => (decide (x = ("range" : Str)) && C.P.free.contains x) && (glbB sc x && chkE C.P N sc a n) | _ => false) = true := h
    split at h
    · obtain ⟨h1, h2⟩ := and2 h
      obtain ⟨h1, h3⟩ := and2 h1
      obtain ⟨h4, h5⟩ := and2 h2
      have ex := dec h1
      subst ex
      exact qi_rng1 g (by simpa using h3) h4 h5 (snd_E a g tk h5)
    · cases h
  | .rng2 a b, X, sc, Wx, t, e, g, tk, h => by
    have h : (match (generalizing := false) e with | .Call (.Name x _) [n, m] [] _ => (decide (x = ("range" : Str)) && C.P.free.contains x) && (glbB sc x && (chkE C.P N sc a n && chkE C.P N sc b m)) | _ => false) = true := h
    split at h
    · obtain ⟨h1, h2⟩ := and2 h
      obtain ⟨h1, h3⟩ := and2 h1
      obtain ⟨h4, h5⟩ := and2 h2
      obtain ⟨h5, h6⟩ := and2 h5
      have ex := dec h1
      subst ex
      exact qi_rng2 g (by simpa using h3) h4 h5 h6 (snd_E a g tk h5) (snd_E b g tk h6)
    · cases h
  | .rngd a b, X, sc, Wx, t, e, g, tk, h => by
    have h : (match (generalizing := false) e with | .Call (.Name x _) [n, m, .UnaryOp .USub c _] [] _ => (decide (x = ("range" : Str)) && C.P.free.contains x) && (glbB sc x && (chkE C.P N sc a n && (chkE C.P N sc b m && isOne c))) | _ => false) = true := h
    split at h
    · obtain ⟨h1, h2⟩ := and2 h
      obtain ⟨h1, h3⟩ := and2 h1
      obtain ⟨h4, h5⟩ := and2 h2
      obtain ⟨h5, h6⟩ := and2 h5
      obtain ⟨h6, h7⟩ := and2 h6
      have ex := dec h1
      subst ex
      exact qi_rngd g (by simpa using h3) h4 h5 h6 h7 (snd_E a g tk h5) (snd_E b g tk h6)
    · cases h
  | .enum a, X, sc, Wx, t, e, g, tk, h => by
    have h : (match (generalizing := false) e with | .Call (.Name x _) [n] [] _ => (decide (x = ("enumerate" : Str)) && C.P.free.contains x) && (glbB sc x && (chkE C.P N sc a n && isPairT t)) | _ => false) = true := h
    split at h
    · obtain ⟨h1, h2⟩ := and2 h
      obtain ⟨k1, h3⟩ := and2 h1
      obtain ⟨h4, k5⟩ := and2 h2
      obtain ⟨h5, h6⟩ := and2 k5
      have ex := dec k1
      subst ex
      unfold isPairT at h6
      split at h6
      · exact qi_enum g (by simpa using h3) h4 h5 (snd_E a g tk h5)
      · cases h6
    · cases h
  | .zip a b, X, sc, Wx, t, e, g, tk, h => by
    have h : (match (generalizing := false) e with | .Call (.Name x _) [n, m] [] _ => (decide (x = ("zip" : Str)) && C.P.free.contains x) && (glbB sc x && (chkE C.P N sc a n && (chkE C.P N sc b m && isPairT t))) | _ => false) = true := h
    split at h
    · obtain ⟨h1, h2⟩ := and2 h
      obtain ⟨k1, h3⟩ := and2 h1
      obtain ⟨h4, k5⟩ := and2 h2
      obtain ⟨h5, k6⟩ := and2 k5
      obtain ⟨h6, h7⟩ := and2 k6
      have ex := dec k1
      subst ex
      unfold isPairT at h7
      split at h7
      · exact qi_zip g (by simpa using h3) h4 h5 h6 (snd_E a g tk h5) (snd_E b g tk h6)
      · cases h7
    · cases h
end
end
end QQ

set_option Elab.async false
set_option linter.all false
set_option maxRecDepth 100000
set_option maxHeartbeats 4000000
/-! Q16: each statement by its rule. -/
namespace QQ
open PySem PySem.Spec PyProof.Rows L2

section
variable {C : QQ.Ctx} {G : Glob} {N : List Str} {kk : Nat} {X : Cx} {sc : Scope} {Wx : WX}
/-! ### readings -/
def EndS (K : PySem.W.Frag) (G : Glob) (η : List Addr) (w : W) (H : Hp) (D : Ends) (r : Fl × QQ.Env × W) : Prop := match r.1 with
  | .nx => ∀ σ' H' η', Stp K G η w H η' r.2.2 H' → Slots K η' H' r.2.1 σ' → D.nx σ' H'
  | .bk => ∀ σ' H' η', Stp K G η w H η' r.2.2 H' → Slots K η' H' r.2.1 σ' → D.bk σ' H'
  | .ct => ∀ σ' H' η', Stp K G η w H η' r.2.2 H' → Slots K η' H' r.2.1 σ' → D.ct σ' H'
  | .rt d => ∀ v H' η', Stp K G η w H η' r.2.2 H' → Rep K η' H' d v → D.rt v H'
def XpS (K : PySem.W.Frag) (G : Glob) (Wx : WX) (η : List Addr) (w : W) (H : Hp) : Nat → D → QQ.Env → W → Prop := fun c p ρ w' => ∀ σ' H' η' d, Stp K G η w H η' w' H' → Slots K η' H' ρ σ' → PayOk p d → Wx (.ref (G.ea c)) d σ' H'
def tS (C : QQ.Ctx) (G : Glob) (K : PySem.W.Frag) (a : S) (Wx : WX) : TS := fun D σ H => ∃ ρ η w, Sm K G η w H ∧ Slots K η H ρ σ ∧ (evS C a ρ w).sat (EndS K G η w H D) (XpS K G Wx η w H)
def tSs (C : QQ.Ctx) (G : Glob) (K : PySem.W.Frag) (a : Ss) (Wx : WX) : TS := fun D σ H => ∃ ρ η w, Sm K G η w H ∧ Slots K η H ρ σ ∧ (evSs C a ρ w).sat (EndS K G η w H D) (XpS K G Wx η w H)
theorem EndS.step {K : PySem.W.Frag} {η η1 : List Addr} {w w1 : W} {H H1 : Hp} {D : Ends} {r : Fl × QQ.Env × W} (S : Sm K G η w H) (st : Stp K G η w H η1 w1 H1) (h : EndS K G η w H D r) : EndS K G η1 w1 H1 D r := by
  obtain ⟨f, ρ, w'⟩ := r
  cases f with
  | nx => exact fun σ' H' η' st' sl => h σ' H' η' (st.trans S st') sl
  | bk => exact fun σ' H' η' st' sl => h σ' H' η' (st.trans S st') sl
  | ct => exact fun σ' H' η' st' sl => h σ' H' η' (st.trans S st') sl
  | rt d => exact fun v H' η' st' sl => h v H' η' (st.trans S st') sl
theorem XpS.step {K : PySem.W.Frag} {η η1 : List Addr} {w w1 : W} {H H1 : Hp} (S : Sm K G η w H) (st : Stp K G η w H η1 w1 H1) {c : Nat} {p : D} {ρ : QQ.Env} {w' : W} (h : XpS K G Wx η w H c p ρ w') : XpS K G Wx η1 w1 H1 c p ρ w' :=
  fun σ' H' η' d st' sl pay => h σ' H' η' d (st.trans S st') sl pay
theorem XpS.to {K : PySem.W.Frag} {η : List Addr} {w : W} {H : Hp} {σ : L2.St} {ρ : QQ.Env} (S : Sm K G η w H) (sl : Slots K η H ρ σ) {c : Nat} {p : D} {w' : W} {ρ' : QQ.Env} (h : XpS K G Wx η w H c p ρ w') : Xp K G Wx σ η w H c p ρ' w' :=
  fun H' η' d st pay => h σ H' η' d st (sl.step S st) pay
theorem un_S {α : Type} {a : E} {e : Expr} (ha : PE X e (tE C G X.K a Wx)) {ρ : QQ.Env} {η0 η : List Addr} {w0 w : W} {σ : L2.St} {H0 H : Hp} {f : D × W → R α} {Φ : α → Prop} {R1 : V → Hp → Prop} (S0 : Sm X.K G η0 w0 H0) (st0 : Stp X.K G η0 w0 H0 η w H) (sl : Slots X.K η H ρ σ)
    (h : (((evE C ρ a w).env ρ).bind f).sat Φ (XpS X.K G Wx η0 w0 H0))
    (k : ∀ r v H1 η1, Stp X.K G η w H η1 r.2 H1 → Rep X.K η1 H1 r.1 v → Slots X.K η1 H1 ρ σ → (f r).sat Φ (XpS X.K G Wx η0 w0 H0) → R1 v H1) : tE C G X.K a Wx σ H R1 := by
  rw [sat_bind, sat_env] at h
  exact ⟨ρ, η, w, st0.sim, sl, sat_mono h (fun r hr v H1 η1 st rv => k r v H1 η1 st rv (sl.step st0.sim st) hr) fun c p ρ' w' z => (XpS.step S0 st0 z).to st0.sim sl⟩
theorem un_ST {α : Type} {t : T} {e : Expr} (ht : PT X e (tT C G X.K t Wx)) {ρ : QQ.Env} {η0 η : List Addr} {w0 w : W} {σ : L2.St} {H0 H : Hp} {f : Bool × W → R α} {Φ : α → Prop} {R1 : Bool → Hp → Prop} (S0 : Sm X.K G η0 w0 H0) (st0 : Stp X.K G η0 w0 H0 η w H) (sl : Slots X.K η H ρ σ)
    (h : (((evT C ρ t w).env ρ).bind f).sat Φ (XpS X.K G Wx η0 w0 H0))
    (k : ∀ (r : Bool × W) H1 η1, Stp X.K G η w H η1 r.2 H1 → Slots X.K η1 H1 ρ σ → (f r).sat Φ (XpS X.K G Wx η0 w0 H0) → R1 r.1 H1) : tT C G X.K t Wx σ H R1 := by
  rw [sat_bind, sat_env] at h
  exact ⟨ρ, η, w, st0.sim, sl, sat_mono h (fun r hr H1 η1 st => k r H1 η1 st (sl.step st0.sim st) hr) fun c p ρ' w' z => (XpS.step S0 st0 z).to st0.sim sl⟩
/-! ### simple statements -/
theorem tset_ok {i : Nat} {e : E} {σ : L2.St} {H : Hp} {D : Ends} (h : tS C G X.K (.set i e) Wx D σ H) : tE C G X.K e Wx σ H (fun x H1 => D.nx (σ.set i (some x)) H1) := by
  obtain ⟨ρ, η, w, S, sl, h⟩ := h
  have h : (((evE C ρ e w).env ρ).bind fun r => R.ok (Fl.nx, ρ.set i (some r.1), r.2)).sat (EndS X.K G η w H D) (XpS X.K G Wx η w H) := h
  rw [sat_bind, sat_env] at h
  exact ⟨ρ, η, w, S, sl, sat_mono h (fun r hr v H1 η1 st rv => hr _ H1 η1 st ((sl.step S st).set rv i)) fun c p ρ' w' z => z.to S sl⟩
theorem qs_set (hN : X.N.Nodup) {i : Nat} {x : Str} {a : E} {e : Expr} {pos pos' : Pos} (hi : X.N[i]? = some x) (hx : L2.Loc X.env.scope x) (hf : X.fn x = true ∨ X.env.scope.names.lookup x = some .local) (he : PE X e (tE C G X.K a Wx)) (hs : swapsWith e (some (.Name x pos')) pos.line X.env = pure false) :
    PS X (.Assign [.Name x pos'] e pos) (tS C G X.K (.set i a) Wx) := ⟨fun pins s σ H D I h => (ps_set hN hi hx he hs hf).run pins s σ H D I (tset_ok h)⟩
theorem qs_asg {t : Tg} {a : E} {tg e : Expr} {pos : Pos} (he : PE X e (tE C G X.K a Wx)) (hg : PG X tg (tG C G X.K t)) (hs : swapsWithSole [tg] e pos.line X.env = pure false) (hw : swappedStores [tg] e X.env = pure none) (h1 : (assignEach [tg] X.env).map (·.2) = [assign tg X.env]) :
    PS X (.Assign [tg] e pos) (tS C G X.K (.asg t a) Wx) := by
  refine ⟨fun pins s σ H D I h => (ps_asg he hg hs hw h1).run pins s σ H D I ?_⟩
  obtain ⟨ρ, η, w, S, sl, h⟩ := h
  have h : (((evE C ρ a w).env ρ).bind fun r => (R.calm (evTg C t r.1 ρ r.2)).bind fun q => R.ok (Fl.nx, q.1, q.2)).sat (EndS X.K G η w H D) (XpS X.K G Wx η w H) := h
  refine un_S he S (Step.refl S) sl h fun r v H1 η1 st rv sl1 h1 => ?_
  rw [sat_bind] at h1
  refine ⟨r.1, ρ, η1, r.2, st.sim, sl1, rv, sat_mono (sat_calm h1) (fun q hq σ' H' η' st' sl' _ => hq σ' H' η' (st.trans S st') sl') fun _ _ _ _ z => z⟩
theorem qs_ex {a : E} {e : Expr} {pos : Pos} (he : PE X e (tE C G X.K a Wx)) (hs : swapsWith e none pos.line X.env = pure false) : PS X (.Expr e pos) (tS C G X.K (.ex a) Wx) := by
  refine ⟨fun pins s σ H D I h => (ps_expr he hs).run pins s σ H D I ?_⟩
  obtain ⟨ρ, η, w, S, sl, h⟩ := h
  exact un_S he S (Step.refl S) sl h fun r v H1 η1 st rv sl1 h1 => h1 σ H1 η1 st sl1
theorem qs_ret {a : E} {e : Expr} {pos : Pos} (he : PE X e (tE C G X.K a Wx)) : PS X (.Return (some e) pos) (tS C G X.K (.ret a) Wx) := by
  refine ⟨fun pins s σ H D I h => (ps_ret he).run pins s σ H D I ?_⟩
  obtain ⟨ρ, η, w, S, sl, h⟩ := h
  exact un_S he S (Step.refl S) sl h fun r v H1 η1 st rv sl1 h1 => h1 v H1 η1 st rv
theorem qs_retN {pos : Pos} : PS X (.Return none pos) (tS C G X.K .retN Wx) := by
  refine ⟨fun pins s σ H D I h => ps_retN.run pins s σ H D I ?_⟩
  obtain ⟨ρ, η, w, S, sl, h⟩ := h
  exact h .non H η (Step.refl S) .non
theorem t_pass {D : Ends} {σ : L2.St} {H : Hp} (h : tS C G X.K .pass Wx D σ H) : D.nx σ H := by
  obtain ⟨ρ, η, w, S, sl, h⟩ := h
  exact h σ H η (Step.refl S) sl
theorem qs_pass {pos : Pos} : PS X (.Pass pos) (tS C G X.K .pass Wx) := ⟨fun pins s σ H D I h => ps_pass.run pins s σ H D I (t_pass h)⟩
theorem qs_doc {x : Str} {j : Nat} {pos pos' : Pos} : PS X (.Expr (.Constant (.str x) j pos) pos') (tS C G X.K .pass Wx) := ⟨fun pins s σ H D I h => ps_doc.run pins s σ H D I (t_pass h)⟩
theorem qs_brk {pos : Pos} : PS X (.Break pos) (tS C G X.K .brk Wx) := by
  refine ⟨fun pins s σ H D I h => ps_break.run pins s σ H D I ?_⟩
  obtain ⟨ρ, η, w, S, sl, h⟩ := h
  exact h σ H η (Step.refl S) sl
theorem qs_cont {pos : Pos} : PS X (.Continue pos) (tS C G X.K .cont Wx) := by
  refine ⟨fun pins s σ H D I h => ps_continue.run pins s σ H D I ?_⟩
  obtain ⟨ρ, η, w, S, sl, h⟩ := h
  exact h σ H η (Step.refl S) sl
theorem qs_nil : PSs X [] (tSs C G X.K .nil Wx) := by
  refine ⟨fun pins s σ H D I h => pss_nil.run pins s σ H D I ?_⟩
  obtain ⟨ρ, η, w, S, sl, h⟩ := h
  exact h σ H η (Step.refl S) sl
theorem qs_cons {a : S} {as : Ss} {st : Stmt} {rest : List Stmt} (h1 : PS X st (tS C G X.K a Wx)) (h2 : PSs X rest (tSs C G X.K as Wx)) : PSs X (st :: rest) (tSs C G X.K (.cons a as) Wx) := by
  refine ⟨fun pins s σ H D I h => (pss_cons h1 h2).run pins s σ H D I ?_⟩
  obtain ⟨ρ, η, w, S, sl, h⟩ := h
  have h : ((evS C a ρ w).bind fun r => match r.1 with
    | .nx => evSs C as r.2.1 r.2.2
    | .rt d => R.ok (.rt d, r.2.1, r.2.2)
    | .bk => R.ok (.bk, r.2.1, r.2.2)
    | .ct => R.ok (.ct, r.2.1, r.2.2)).sat (EndS X.K G η w H D) (XpS X.K G Wx η w H) := h
  rw [sat_bind] at h
  refine ⟨ρ, η, w, S, sl, sat_mono h (fun r hr => ?_) fun _ _ _ _ z => z⟩
  obtain ⟨f, ρ1, w1⟩ := r
  cases f with
  | nx => exact fun σ' H' η' st' sl' => ⟨ρ1, η', w1, st'.sim, sl', sat_mono hr (fun _ z => EndS.step S st' z) fun _ _ _ _ z => z.step S st'⟩
  | rt d => exact hr
  | bk => exact hr
  | ct => exact hr
theorem qs_if {t : T} {a b : Ss} {c : Expr} {p q : List Stmt} {pos : Pos} (ht : PT X c (tT C G X.K t Wx)) (ha : PSs X p (tSs C G X.K a Wx)) (hb : PSs X q (tSs C G X.K b Wx)) : PS X (.If c p q pos) (tS C G X.K (.ifs t a b) Wx) := by
  refine ⟨fun pins s σ H D I h => (ps_if ht ha hb).run pins s σ H D I ?_⟩
  obtain ⟨ρ, η, w, S, sl, h⟩ := h
  refine un_ST ht S (Step.refl S) sl h fun r H1 η1 st sl1 h1 => ?_
  obtain ⟨k, w1⟩ := r
  cases k with
  | true => exact ⟨ρ, η1, w1, st.sim, sl1, sat_mono h1 (fun _ z => EndS.step S st z) fun _ _ _ _ z => z.step S st⟩
  | false => exact ⟨ρ, η1, w1, st.sim, sl1, sat_mono h1 (fun _ z => EndS.step S st z) fun _ _ _ _ z => z.step S st⟩
/-! ### loops -/
/-- behind a turn of a loop -/
theorem turn_end {K : PySem.W.Frag} {η ηt : List Addr} {w wt : W} {H Ht : Hp} {D : Ends} {m : L2.St → Hp → Prop} {r : Fl × QQ.Env × W} {go : QQ.Env → W → R (Fl × QQ.Env × W)} (S : Sm K G η w H) (st : Stp K G η w H ηt wt Ht)
    (hm : ∀ ρ w1, (go ρ w1).sat (EndS K G η w H D) (XpS K G Wx η w H) → ∀ σ' H' η', Stp K G ηt wt Ht η' w1 H' → Slots K η' H' ρ σ' → m σ' H')
    (h : (match r.1 with
      | .nx => go r.2.1 r.2.2
      | .ct => go r.2.1 r.2.2
      | .bk => R.ok (Fl.nx, r.2.1, r.2.2)
      | .rt d => R.ok (.rt d, r.2.1, r.2.2)).sat (EndS K G η w H D) (XpS K G Wx η w H)) : EndS K G ηt wt Ht { D with nx := m, ct := m, bk := D.nx } r := by
  obtain ⟨f, ρ, w'⟩ := r
  cases f with
  | nx => exact hm ρ w' h
  | ct => exact hm ρ w' h
  | bk =>
    have h : EndS K G η w H D (Fl.nx, ρ, w') := h
    exact fun σ' H' η' st' sl => h σ' H' η' (st.trans S st') sl
  | rt d =>
    have h : EndS K G η w H D (Fl.rt d, ρ, w') := h
    exact fun v H' η' st' rv => h v H' η' (st.trans S st') rv
theorem qs_while {t : T} {b : Ss} {c : Expr} {p : List Stmt} {pos : Pos} (hp : PassesOwn (model X.prog X.w) X.A X.env X.xe) (ht : PT X c (tT C G X.K t Wx)) (hb : PSs X p (tSs C G X.K b Wx)) : PS X (.While c p [] pos) (tS C G X.K (.whl t b) Wx) := by
  refine ⟨fun pins s σ H D I h => (ps_while hp ht hb).run pins s σ H D I ?_⟩
  obtain ⟨ρ, η, w, S, sl, h⟩ := h
  refine ⟨fun m σ1 H1 => ∃ ρ1 η1 w1, Stp X.K G η w H η1 w1 H1 ∧ Slots X.K η1 H1 ρ1 σ1 ∧ (evWhile (fun ρ w => (evT C ρ t w).env ρ) (fun ρ w => evSs C b ρ w) m ρ1 w1).sat (EndS X.K G η w H D) (XpS X.K G Wx η w H), ⟨C.L, ρ, η, w, Step.refl S, sl, h⟩, ?_⟩
  rintro m σ1 H1 ⟨ρ1, η1, w1, st1, sl1, h1⟩
  cases m with
  | zero => exact h1.elim
  | succ m =>
    refine un_ST ht S st1 sl1 h1 fun r H2 η2 st2 sl2 h2 => ?_
    obtain ⟨k, w2⟩ := r
    have st12 := st1.trans S st2
    cases k with
    | true =>
      refine ⟨fun σ3 H3 => ∃ ρ3 η3 w3, Stp X.K G η w H η3 w3 H3 ∧ Slots X.K η3 H3 ρ3 σ3 ∧ (evWhile (fun ρ w => (evT C ρ t w).env ρ) (fun ρ w => evSs C b ρ w) m ρ3 w3).sat (EndS X.K G η w H D) (XpS X.K G Wx η w H), fun σ' H' z => ⟨m, Nat.lt_succ_self m, z⟩, ?_⟩
      have h2 : ((evSs C b ρ1 w2).bind fun r => match r.1 with
        | .nx => evWhile (fun ρ w => (evT C ρ t w).env ρ) (fun ρ w => evSs C b ρ w) m r.2.1 r.2.2
        | .ct => evWhile (fun ρ w => (evT C ρ t w).env ρ) (fun ρ w => evSs C b ρ w) m r.2.1 r.2.2
        | .bk => R.ok (Fl.nx, r.2.1, r.2.2)
        | .rt d => R.ok (.rt d, r.2.1, r.2.2)).sat (EndS X.K G η w H D) (XpS X.K G Wx η w H) := h2
      rw [sat_bind] at h2
      refine ⟨ρ1, η2, w2, st2.sim, sl2, sat_mono h2 (fun r hr => turn_end (go := fun ρ w => evWhile (fun ρ w => (evT C ρ t w).env ρ) (fun ρ w => evSs C b ρ w) m ρ w) S st12 (fun ρ w1 hh σ' H' η' st' sl' => ⟨ρ, η', w1, st12.trans S st', sl', hh⟩) hr) fun _ _ _ _ z => z.step S st12⟩
    | false => exact h2 σ1 H2 η2 st12 sl2
def stF (turn : D → QQ.Env → W → R (Fl × QQ.Env × W)) (src : Src) (m i : Nat) (ρ : QQ.Env) (w : W) : R (Fl × QQ.Env × W) := match src with
  | .fix ds => evFor turn (ds.drop i) ρ w
  | .dyn f => evLive turn f m i ρ w
theorem forStep {turn : D → QQ.Env → W → R (Fl × QQ.Env × W)} {src : Src} {m i : Nat} {ρ : QQ.Env} {w : W} {Φ : Fl × QQ.Env × W → Prop} {Z : Nat → D → QQ.Env → W → Prop} (hm : ∀ ds, src = .fix ds → m = ds.length - i) (h : (stF turn src m i ρ w).sat Φ Z) :
    ∃ ds, src.at_ w = some ds ∧ ((ds[i]? = none ∧ Φ (.nx, ρ, w)) ∨ ∃ d m', ds[i]? = some d ∧ m' < m ∧ (∀ ds, src = .fix ds → m' = ds.length - (i + 1)) ∧
      (turn d ρ w).sat (fun r => (match r.1 with
        | .nx => stF turn src m' (i + 1) r.2.1 r.2.2
        | .ct => stF turn src m' (i + 1) r.2.1 r.2.2
        | .bk => R.ok (Fl.nx, r.2.1, r.2.2)
        | .rt d => R.ok (.rt d, r.2.1, r.2.2)).sat Φ Z) Z) := by
  cases src with
  | fix ds =>
    refine ⟨ds, rfl, ?_⟩
    have h : (evFor turn (ds.drop i) ρ w).sat Φ Z := h
    cases e : ds[i]? with
    | none =>
      rw [drop_none e] at h
      exact .inl ⟨rfl, h⟩
    | some d =>
      rw [drop_at e] at h
      have hl := (List.getElem?_eq_some_iff.mp e).1
      have hm := hm ds rfl
      refine .inr ⟨d, ds.length - (i + 1), rfl, by omega, fun ds' e' => (by cases e'; rfl), ?_⟩
      have h : ((turn d ρ w).bind fun r => match r.1 with
        | .nx => evFor turn (ds.drop (i + 1)) r.2.1 r.2.2
        | .ct => evFor turn (ds.drop (i + 1)) r.2.1 r.2.2
        | .bk => R.ok (Fl.nx, r.2.1, r.2.2)
        | .rt d => R.ok (.rt d, r.2.1, r.2.2)).sat Φ Z := h
      rw [sat_bind] at h
      exact h
  | dyn f =>
    cases m with
    | zero => exact h.elim
    | succ m =>
      have h : (match f w with
        | none => R.bad
        | some ds => match ds[i]? with
          | none => R.ok (Fl.nx, ρ, w)
          | some d => (turn d ρ w).bind fun r => match r.1 with
            | .nx => evLive turn f m (i + 1) r.2.1 r.2.2
            | .ct => evLive turn f m (i + 1) r.2.1 r.2.2
            | .bk => R.ok (Fl.nx, r.2.1, r.2.2)
            | .rt d => R.ok (.rt d, r.2.1, r.2.2)).sat Φ Z := h
      cases e : f w with
      | none => rw [e] at h; exact h.elim
      | some ds =>
        rw [e] at h
        refine ⟨ds, e, ?_⟩
        simp only at h
        cases e2 : ds[i]? with
        | none => rw [e2] at h; exact .inl ⟨rfl, h⟩
        | some d =>
          rw [e2] at h
          refine .inr ⟨d, m, rfl, Nat.lt_succ_self m, fun ds' e' => (by cases e'), ?_⟩
          simp only at h
          rw [sat_bind] at h
          exact h
theorem qs_for {t : Tg} {it : QQ.It} {b : Ss} {tg iter : Expr} {p : List Stmt} {pos : Pos} (hp : PassesOwn (model X.prog X.w) X.A X.env X.xe) (hi : PI X tg iter (tI C G X.K it Wx)) (hg : PG X tg (tG C G X.K t)) (hb : PSs X p (tSs C G X.K b Wx)) (hs : ∀ v, foldedSetIterable iter X.env v = pure v) (hc : X.calm = true) :
    PS X (.For tg iter p [] pos) (tS C G X.K (.for t it b) Wx) := by
  refine ⟨fun pins s σ H D I h => (ps_for hp hc hi hg hb hs).run pins s σ H D I ?_⟩
  obtain ⟨ρ, η, w, S, sl, h⟩ := h
  let turn : QQ.D → QQ.Env → W → R (Fl × QQ.Env × W) := fun d ρ w => (R.calm (evTg C t d ρ w)).bind fun r => evSs C b r.1 r.2
  have h : (((evIt C ρ it w).env ρ).bind fun s => evSrc turn C.L ρ s.2 s.1).sat (EndS X.K G η w H D) (XpS X.K G Wx η w H) := h
  rw [sat_bind, sat_env] at h
  refine ⟨ρ, η, w, S, sl, sat_mono h (fun r hr J H1 η1 st0 jok => ?_) fun _ _ _ _ z => z.to S sl⟩
  obtain ⟨src, w1⟩ := r
  have S1 := st0.sim
  refine ⟨fun i m σ' H' => ∃ ρ' η' w', Stp X.K G η1 w1 H1 η' w' H' ∧ Slots X.K η' H' ρ' σ' ∧ (∀ ds, src = .fix ds → m = ds.length - i) ∧ (stF turn src m i ρ' w').sat (EndS X.K G η w H D) (XpS X.K G Wx η w H), ?_, ?_⟩
  · cases src with
    | fix ds => exact ⟨ds.length, ρ, η1, w1, Step.refl S1, sl.step S st0, fun ds' e => (by cases e; rfl), hr⟩
    | dyn f => exact ⟨C.L, ρ, η1, w1, Step.refl S1, sl.step S st0, fun ds' e => (by cases e), hr⟩
  · rintro i m σ2 H2 ⟨ρ2, η2, w2, st2, sl2, hm, run⟩
    obtain ⟨ds, e1, run⟩ := forStep hm run
    obtain ⟨j1, j2⟩ := jok η2 w2 H2 st2 ds e1 i
    rcases run with ⟨e2, fin⟩ | ⟨d, m', e2, lt, hm', run⟩
    · exact .inl ⟨j2 e2, fin σ2 H2 η2 (st0.trans S st2) sl2⟩
    · obtain ⟨go, yl⟩ := j1 d e2
      refine .inr ⟨go, fun σ' H' => ∃ ρ' η' w', Stp X.K G η1 w1 H1 η' w' H' ∧ Slots X.K η' H' ρ' σ' ∧ (stF turn src m' (i + 1) ρ' w').sat (EndS X.K G η w H D) (XpS X.K G Wx η w H), fun σ' H' ⟨ρ', η', w', z1, z2, z3⟩ => ⟨m', lt, ρ', η', w', z1, z2, hm', z3⟩, fun v H3 hy => ?_⟩
      obtain ⟨st3, rv⟩ := yl v H3 hy
      have st23 := st2.trans S1 st3
      have run : ((R.calm (evTg C t d ρ2 w2)).bind fun r => evSs C b r.1 r.2).sat _ _ := run
      rw [sat_bind] at run
      refine ⟨d, ρ2, η2, w2, st3.sim, sl2.step st2.sim st3, rv, sat_mono (sat_calm run) (fun r4 hr4 σ4 H4 η4 st4 sl4 kp => ?_) fun _ _ _ _ z => z⟩
      have st14 := st23.trans S1 st4
      have st04 := st0.trans S st14
      exact ⟨r4.1, η4, r4.2, st4.sim, sl4, sat_mono hr4 (fun r hr => turn_end (go := fun ρ w => stF turn src m' (i + 1) ρ w) S st04 (fun ρ w1 hh σ' H' η' st' sl' => ⟨ρ, η', w1, st14.trans S1 st', sl', hh⟩) hr) fun _ _ _ _ z => z.step S st04⟩
end
end QQ

set_option Elab.async false
set_option linter.all false
set_option maxRecDepth 100000
set_option maxHeartbeats 4000000
/-! Q17: statements of several forms: parallel stores, augmented ones, fields, raise, try. -/
namespace QQ
open PySem PySem.Spec PyProof.Rows L2
/-- what a, b = x, y stores by itself -/
def parN (sc : Scope) (ts vs : List Expr) : Option (List Str) :=
  if (!(ts.length == 2 || ts.length == 3) || vs.length != ts.length) = true then none else
  if (vs.any fun | .Starred .. => true | _ => false) = true then none else
  let names := ts.filterMap fun
    | .Name id pos => if (sc.names.lookup id == some .local && pos.line == (ts.head?.map (·.pos.line)).getD 0) = true then some id else none
    | _ => none
  if (names.length != ts.length || names.eraseDups.length != names.length) = true then none else
  if vs.all (foldedForSure 8) = true then none else
  if vs.all (constantsAlone 8) = true then none else some names
theorem par_sw {env : PySem.Env} (hk : env.scope.kind = .function) {ts vs : List Expr} {k k2 : Nat} {p p2 : Pos} {names : List Str} (h : parN env.scope ts vs = some names) : swappedStores [.Tuple ts k p] (.Tuple vs k2 p2) env = pure (some names) := by
  have hb : env.blockKind = .function := by unfold Env.blockKind; rw [hk]; rfl
  unfold parN at h
  unfold swappedStores
  rw [hb]
  split at h
  · cases h
  rename_i h1
  split at h
  · cases h
  rename_i h2
  simp only at h
  split at h
  · cases h
  rename_i h3
  split at h
  · cases h
  rename_i h4
  split at h
  · cases h
  rename_i h5
  have e : (ScopeKind.function != ScopeKind.function) = false := rfl
  simp only [e, Bool.or_false]
  rw [if_neg h1]
  try simp only
  erw [if_neg h2]
  try simp only
  erw [if_neg h3]
  erw [if_neg h4]
  erw [if_neg h5]
  cases h
  rfl
/-- nothing is stored by itself -/
def swN (sc : Scope) (t v : Expr) : Bool := match t with
  | .Name _ _ => true
  | .Subscript _ _ _ => true
  | .Tuple ts _ _ => (match v with
    | .Tuple vs _ _ => ((!(ts.length == 2 || ts.length == 3) || vs.length != ts.length) || ((vs.any fun | .Starred .. => true | _ => false) ||
      (((ts.filterMap fun
        | .Name id pos => if (sc.names.lookup id == some .local && pos.line == (ts.head?.map (·.pos.line)).getD 0) = true then some id else none
        | _ => none).length != ts.length) || vs.all (foldedForSure 8))))
    | _ => true)
  | _ => false
theorem sw_none {env : PySem.Env} {t v : Expr} (h : swN env.scope t v = true) : swappedStores [t] v env = pure none := by
  cases t with
  | Name _ _ => rfl
  | Subscript _ _ _ => rfl
  | Tuple ts k p =>
    cases v with
    | Tuple vs k2 p2 =>
      unfold swappedStores
      try simp only
      by_cases c1 : (!(ts.length == 2 || ts.length == 3) || vs.length != ts.length || env.blockKind != ScopeKind.function) = true
      · rw [if_pos c1]
      rw [if_neg c1]
      try simp only
      by_cases c2 : (vs.any fun | .Starred .. => true | _ => false) = true
      · erw [if_pos c2]
      erw [if_neg c2]
      try simp only
      have h : ((!(ts.length == 2 || ts.length == 3) || vs.length != ts.length) || ((vs.any fun | .Starred .. => true | _ => false) ||
      (((ts.filterMap fun
        | .Name id pos => if (env.scope.names.lookup id == some .local && pos.line == (ts.head?.map (·.pos.line)).getD 0) = true then some id else none
        | _ => none).length != ts.length) || vs.all (foldedForSure 8)))) = true := h
      rcases Bool.or_eq_true_iff.mp h with h | h
      · exact absurd (by rw [h]; rfl) c1
      rcases Bool.or_eq_true_iff.mp h with h | h
      · exact absurd h c2
      rcases Bool.or_eq_true_iff.mp h with h | h
      · erw [if_pos (by erw [h]; rfl)]
      · by_cases c3 : (((ts.filterMap fun
        | .Name id pos => if (env.scope.names.lookup id == some .local && pos.line == (ts.head?.map (·.pos.line)).getD 0) = true then some id else none
        | _ => none).length != ts.length) || ((ts.filterMap fun
        | .Name id pos => if (env.scope.names.lookup id == some .local && pos.line == (ts.head?.map (·.pos.line)).getD 0) = true then some id else none
        | _ => none).eraseDups.length != (ts.filterMap fun
        | .Name id pos => if (env.scope.names.lookup id == some .local && pos.line == (ts.head?.map (·.pos.line)).getD 0) = true then some id else none
        | _ => none).length)) = true
        · erw [if_pos c3]
        · erw [if_neg c3]
          erw [if_pos h]
    | _ => rfl
  | _ => cases h

def isComp : Expr → Bool
  | .ListComp _ _ _ _ => true
  | .SetComp _ _ _ _ => true
  | .DictComp _ _ _ _ _ => true
  | _ => false
theorem sw_plain {v : Expr} (h : isComp v = false) (t : Option Expr) (l : Nat) (env : PySem.Env) : swapsWith v t l env = pure false := by
  cases v <;> first | rfl | cases h
theorem sw_tup (v : Expr) (ts : List Expr) (k : Nat) (p : Pos) (l : Nat) (env : PySem.Env) : swapsWith v (some (.Tuple ts k p)) l env = pure false := by cases v <;> rfl
theorem sw_sub (v : Expr) (a b : Expr) (p : Pos) (l : Nat) (env : PySem.Env) : swapsWith v (some (.Subscript a b p)) l env = pure false := by cases v <;> rfl
theorem sw_att (v : Expr) (a : Expr) (b : Str) (p : Pos) (l : Nat) (env : PySem.Env) : swapsWith v (some (.Attribute a b p)) l env = pure false := by cases v <;> rfl
theorem sw_cell {elt : Expr} {gs : List Comprehension} {scope : Scope} {pos py : Pos} {y : Str} {l : Nat} {env : PySem.Env} (hy : env.scope.names.lookup y = some .cell) : swapsWith (.ListComp elt gs scope pos) (some (.Name y py)) l env = pure false := by
  have ky : env.kindOf y = some .cell := hy
  unfold swapsWith
  simp only [ky]
  have e : (some NameKind.cell == some NameKind.local) = false := rfl
  simp only [e, Bool.and_false, Bool.false_and]
/-! ### augmented operators -/
def ipAug (o : Op2) : TIp := fun x y H Q => ∃ i j d : Int, x = .int i ∧ y = .int j ∧ opAug o i j = some (.int d) ∧ Q (.int d) H
theorem ip_aug {X : Cx} (o : Op2) : PIp X (astOp o) (ipAug o) := by
  rintro pins s σ H x y v u Q I r1 r2 ⟨i, j, d, rfl, rfl, e, q⟩
  obtain ⟨t, rfl⟩ := r1
  obtain ⟨t', rfl⟩ := r2
  cases o with
  | add =>
    have e : some (D.int (i + j)) = some (.int d) := e
    cases e
    exact iadd_int ⟨.int _, H, I.tok _, ⟨_, rfl⟩, q⟩
  | sub =>
    have e : some (D.int (i - j)) = some (.int d) := e
    cases e
    exact isub_int ⟨.int _, H, I.tok _, ⟨_, rfl⟩, q⟩
  | mul =>
    have e : (if mulOk i j = true then some (D.int (i * j)) else none) = some (.int d) := e
    split at e
    · rename_i c
      cases e
      exact PySem.AutoIntOps.imul_0 (show (Made.int (i * j)).post _ _ from ⟨.int _, H, I.tok _, ⟨_, rfl⟩, q⟩) (mulOk_ok c)
    · cases e
  | fdiv =>
    have e : (if divOk i j = true then some (D.int (i.fdiv j)) else none) = some (.int d) := e
    split at e
    · rename_i c
      cases e
      obtain ⟨c1, c2⟩ := and2 c
      have c1 := of_decide_eq_true c1
      exact PySem.AutoIntOps.ifloordiv_1 (by simpa using c1) (by simpa using c2) (show (Made.int (i.fdiv j)).post _ _ from ⟨.int _, H, I.tok _, ⟨_, rfl⟩, q⟩)
    · cases e
  | mod =>
    have e : (if j ≠ 0 then some (D.int (i.fmod j)) else none) = some (.int d) := e
    split at e
    · rename_i c
      cases e
      exact PySem.AutoIntOps.imod_1 (by simpa using c) (show (Made.int (i.fmod j)).post _ _ from ⟨.int _, H, I.tok _, ⟨_, rfl⟩, q⟩)
    · cases e
  | pow => cases e
theorem opAug_int {o : Op2} {i j : Int} {d : D} (h : opAug o i j = some d) : ∃ k, d = .int k := by
  cases o with
  | add => exact ⟨_, (Option.some.inj h).symm⟩
  | sub => exact ⟨_, (Option.some.inj h).symm⟩
  | mul =>
    have e : (if mulOk i j = true then some (D.int (i * j)) else none) = some d := h
    split at e <;> first | exact ⟨_, (Option.some.inj e).symm⟩ | cases e
  | fdiv =>
    have e : (if divOk i j = true then some (D.int (i.fdiv j)) else none) = some d := h
    split at e <;> first | exact ⟨_, (Option.some.inj e).symm⟩ | cases e
  | mod =>
    have e : (if j ≠ 0 then some (D.int (i.fmod j)) else none) = some d := h
    split at e <;> first | exact ⟨_, (Option.some.inj e).symm⟩ | cases e
  | pow => cases h
section
variable {C : QQ.Ctx} {G : Glob} {N : List Str} {kk : Nat} {X : Cx} {sc : Scope} {Wx : WX}
theorem qs_aug (hN : X.N.Nodup) {i : Nat} {x : Str} {o : Op2} {a : E} {e : Expr} {pos pos' : Pos} (hi : X.N[i]? = some x) (hx : L2.Loc X.env.scope x) (hf : X.fn x = true ∨ X.env.scope.names.lookup x = some .local) (he : PE X e (tE C G X.K a Wx)) :
    PS X (.AugAssign (.Name x pos') (astOp o) e pos) (tS C G X.K (.aug i o a) Wx) := by
  refine ⟨fun pins s σ H D I h => (ps_aug hN hi hx he (ip_aug o) hf).run pins s σ H D I ?_⟩
  obtain ⟨ρ, η, w, S, sl, h⟩ := h
  have h : (match ρ[i]? with
    | some (some x) => ((evE C ρ a w).env ρ).bind fun r => match x, r.1 with
      | .int a, .int b => match opAug o a b with
        | some d => R.ok (Fl.nx, ρ.set i (some d), r.2)
        | none => R.bad
      | _, _ => R.bad
    | _ => R.bad).sat (EndS X.K G η w H D) (XpS X.K G Wx η w H) := h
  split at h
  · rename_i d ed
    obtain ⟨v, ev, rv⟩ := sl.2 i d ed
    refine ⟨v, ev, un_S he S (Step.refl S) sl h fun r u H1 η1 st ru sl1 h1 => ?_⟩
    obtain ⟨d1, w1⟩ := r
    cases d with
    | int n =>
      cases d1 with
      | int m =>
        cases rv
        cases ru
        simp only at h1
        split at h1
        · rename_i d2 e2
          obtain ⟨k, rfl⟩ := opAug_int e2
          exact ⟨n, m, k, rfl, rfl, e2, h1 _ H1 η1 st (sl1.set (.int k) i)⟩
        · exact h1.elim
      | _ => exact h1.elim
    | _ => exact h1.elim
  · exact h.elim
/-- o.f = v -/
theorem setF_ok (g : GoodE C G N kk X sc) {η : List Addr} {w w' : W} {H : Hp} (S : Sm X.K G η w H) {o d : D} {x y : V} {f : Nat} {fn : Str} (hf : C.P.attr[f]? = some fn) (h : setF C.P w o f d = some w') (r : Rep X.K η H o x) (ry : Rep X.K η H d y) :
    ∃ a c dx fs, x = .ref a ∧ H a = some (.ins c dx fs) ∧ L2.Cls X.K c ∧ NoAttr X.K c fn ∧ fs.length < 1000 ∧ Stp X.K G η w H η w' (upd H a (.ins c dx (putF fn y fs))) := by
  unfold setF at h
  split at h
  · rename_i n
    split at h
    · rename_i c fs e1
      split at h
      · rename_i k e2
        split at h
        · rename_i e3
          cases h
          obtain ⟨n', a, dx, vs, en, rfl, e4, e5, e6, fr⟩ := K_items S (P := C.P) (d := .ref n) (c := c) (fs := fs) (by show (match w.cs[n]? with | some (.ins c fs) => some (c, fs) | _ => none) = _; rw [e1]) r
          cases en
          have hf' : G.nm[f]? = some fn := by rw [g.pk.nm]; exact hf
          have nd : G.nm.Nodup := by rw [g.pk.nm]; exact g.pk.nd
          obtain ⟨cl, _, _⟩ := g.pk.cls c k e2
          obtain ⟨x', ex, na⟩ := g.pk.fld c k f e2 (by simpa using e3.1)
          rw [hf] at ex
          cases ex
          refine ⟨a, G.ca c, dx, vs, rfl, e6, cl, na, by rw [← fr.length]; exact e3.2, ?_⟩
          have fr2 := FRep.put (K := X.K) nd hf' (ry.mono (stay_put S e4) (Pre.refl _)) (fr.mono (stay_put (o := .ins (G.ca c) dx (putF fn y vs)) S e4) (Pre.refl _))
          exact Step.wrote S e4 rfl ⟨dx, _, upd_same, fr2⟩
        · cases h
      · cases h
    · cases h
  · cases h
theorem qs_fset (g : GoodE C G N kk X sc) {f : Nat} {o a : E} {ob e : Expr} {nm : Str} {pos pos' : Pos} (hm : C.P.attr[f]? = some nm) (ho : PE X ob (tE C G X.K o Wx)) (he : PE X e (tE C G X.K a Wx)) : PS X (.Assign [.Attribute ob nm pos'] e pos) (tS C G X.K (.fset o f a) Wx) := by
  refine ⟨fun pins s σ H D I h => (ps_fld ho he (sw_att _ _ _ _ _ _)).run pins s σ H D I ?_⟩
  obtain ⟨ρ, η, w, S, sl, h⟩ := h
  refine un_S he S (Step.refl S) sl h fun r y H1 η1 st ry sl1 h1 => un_S ho S st sl1 h1 fun q x H2 η2 st2 rx sl2 h2 => ?_
  split at h2
  · rename_i w' e1
    obtain ⟨a, c, dx, fs, ex, ha, cl, na, hl, st3⟩ := setF_ok g st2.sim hm e1 rx (ry.step st.sim st2)
    exact ⟨a, c, dx, fs, ex, ha, cl, na, hl, h2 σ _ η2 ((st.trans S st2).trans S st3) (sl2.step st2.sim st3)⟩
  · exact h2.elim
theorem qs_raise (g : GoodE C G N kk X sc) (tk : Takes X Wx) {c : Nat} {x : Str} {anc : List Nat} {m : Str} {j : Nat} {p p2 p3 pos : Pos} (hc : C.P.exc[c]? = some (x, anc)) (h2 : glbB sc x = true) (h3 : okN x = true) : PS X (.Raise (some (.Call (.Name x p) [.Constant (.str m) j p2] [] p3)) none pos) (tS C G X.K (.raise c) Wx) := by
  obtain ⟨m1, m2, m3, m4, m5⟩ := g.pk.exn c x anc hc
  refine ⟨fun pins s σ H D I h => (L2.ps_raise g.calm tk (L2.pmk_own PySem.F.excBase_ValueError m2 m1 m3 (raises_own m4 m5) (g.gl h2) (okN1 h3))).run pins s σ H D I ?_⟩
  obtain ⟨ρ, η, w, S, sl, h⟩ := h
  exact h σ H η none (Step.refl S) sl ⟨rfl, rfl⟩
/-! ### try -/
/-- a statement that may stand in an except clause's suite -/
def chkW (N : List Str) (sc : Scope) : S → Stmt → Bool
  | .set i e, st => match e, st with
    | .cst d, .Assign [.Name x _] (.Constant c _ _) _ => (decide (N[i]? = some x) && locB sc x) && cstB d c
    | _, _ => false
  | .ex e, st => match e, st with
    | .bm b (.var i) (.cons (.cst d) .nil), .Expr (.Call (.Attribute (.Name x _) nm apos) [.Constant c _ _] [] pos) _ => (decide (N[i]? = some x) && (visB sc x && okN x)) && (decide (nm = Str.ofString (bmK b).1) && ((apos.endLine == pos.line) && (cstB d c && !(x == ("super" : Str)))))
    | _, _ => false
  | .pass, st => match st with
    | .Pass _ => true
    | _ => false
  | _, _ => false
def chkWs (N : List Str) (sc : Scope) : Ss → List Stmt → Bool
  | .nil, l => match l with
    | [] => true
    | _ :: _ => false
  | .cons s ss, l => match l with
    | st :: l => chkW N sc s st && chkWs N sc ss l
    | [] => false
theorem q_varW {Y : Cx} (hn : Y.N = N) (hs : Y.env.scope = sc) {i : Nat} {x : Str} {pos : Pos} (h1 : N[i]? = some x) (h2 : visB sc x = true) (h3 : okN x = true) : PE Y (.Name x pos) (tE C G Y.K (.var i) Wx) := by
  refine ⟨fun pins s σ H Q I h => ?_⟩
  obtain ⟨ρ, η, w, S, sl, h⟩ := h
  have hv : Vis Y.env.scope x := by
    rw [hs]
    unfold visB at h2
    unfold Vis
    split at h2
    · exact .inl (by assumption)
    · exact .inr (.inl (by assumption))
    · exact .inr (.inr (by assumption))
    · cases h2
  refine (pe_var (i := i) (by rw [hn]; exact h1) hv (okN1 h3) (okN2 h3)).run pins s σ H Q I ?_
  have h : (match ρ[i]? with | some (some d) => R.ok (d, w) | _ => .bad).sat (Want Y.K G η w H Q) (Xp Y.K G Wx σ η w H) := h
  split at h
  · rename_i d e
    obtain ⟨v, e1, r⟩ := sl.2 i d e
    exact ⟨v, e1, h v H η (Step.refl S) r⟩
  · exact h.elim
theorem wS_ok {Y : Cx} (hn : Y.N = N) (hs : Y.env.scope = sc) (nd : N.Nodup) (tg : TgOk Y sc) {P : Prog} {a : S} {st : Stmt} (h : chkW N sc a st = true) : PS Y st (tS C G Y.K a Wx) := by
  cases a with
  | set i e =>
    have h : (match (generalizing := false) e, st with
      | .cst d, .Assign [.Name x _] (.Constant c _ _) _ => (decide (N[i]? = some x) && locB sc x) && cstB d c
      | _, _ => false) = true := h
    split at h
    · obtain ⟨h1, h2⟩ := and2 h
      obtain ⟨h1, h3⟩ := and2 h1
      obtain ⟨t1, t2⟩ := tg _ h3
      exact qs_set (by rw [hn]; exact nd) (by rw [hn]; exact dec h1) t1 t2 (q_cst h2) (sw_plain rfl _ _ _)
    · cases h
  | ex e =>
    have h : (match (generalizing := false) e, st with
      | .bm b (.var i) (.cons (.cst d) .nil), .Expr (.Call (.Attribute (.Name x _) nm apos) [.Constant c _ _] [] pos) _ => (decide (N[i]? = some x) && (visB sc x && okN x)) && (decide (nm = Str.ofString (bmK b).1) && ((apos.endLine == pos.line) && (cstB d c && !(x == ("super" : Str)))))
      | _, _ => false) = true := h
    split at h
    · rename_i b i d x p nm apos c k p2 pos p3 _
      obtain ⟨h1, h2⟩ := and2 h
      obtain ⟨h1, h3⟩ := and2 h1
      obtain ⟨h3, h4⟩ := and2 h3
      obtain ⟨h2, h5⟩ := and2 h2
      obtain ⟨h5, h6⟩ := and2 h5
      obtain ⟨h6, h7⟩ := and2 h6
      have e := dec h2
      subst e
      refine qs_ex (q_bm (P := P) h5 (by show 1 < 29; decide) ?_ (q_varW hn hs (dec h1) h3 h4) (show chkEs P N sc (.cons (.cst d) .nil) [.Constant c k p2] = true from by
        show (cstB d c && true) = true
        rw [h6]
        rfl) (q_cons (q_cst h6) q_nil rfl)) (sw_plain rfl _ _ _)
      rfl
    · cases h
  | pass =>
    have h : (match (generalizing := false) st with
      | .Pass _ => true
      | _ => false) = true := h
    split at h
    · exact qs_pass
    · cases h
  | _ => cases h
theorem wSs_ok {Y : Cx} (hn : Y.N = N) (hs : Y.env.scope = sc) (nd : N.Nodup) (tg : TgOk Y sc) {P : Prog} : ∀ {a : Ss} {l : List Stmt}, chkWs N sc a l = true → PSs Y l (tSs C G Y.K a Wx)
  | .nil, [], _ => qs_nil
  | .nil, _ :: _, h => by cases h
  | .cons _ _, [], h => by cases h
  | .cons a as, st :: l, h => by
    obtain ⟨h1, h2⟩ := and2 (show (chkW N sc a st && chkWs N sc as l) = true from h)
    exact qs_cons (wS_ok (P := P) hn hs nd tg h1) (wSs_ok (P := P) hn hs nd tg h2)
/-- the clauses -/
def chkH (P : Prog) (N : List Str) (sc : Scope) : Hs → List ExceptHandler → Bool
  | .nil, l => match l with
    | [] => true
    | _ :: _ => false
  | .cons c asg hs, l => match l with
    | .ExceptHandler (some (.Name x _)) none (b :: suite) _ :: l => (match P.exc[c]? with
      | some (y, _) => decide (x = y)
      | none => false) && ((glbB sc x && okN x) && (chkWs N sc asg (b :: suite) && chkH P N sc hs l))
    | _ => false
def hsL (C : QQ.Ctx) (G : Glob) (K : PySem.W.Frag) (Wx : WX) : Hs → List (Value × (Addr → Value → Option Addr → TS))
  | .nil => []
  | .cons c b hs => (.ref (G.ea c), fun _ _ _ => tSs C G K b Wx) :: hsL C G K Wx hs
theorem hds_ok (g : GoodE C G N kk X sc) (tg : TgOk X sc) : ∀ {hs : Hs} {l : List ExceptHandler}, chkH C.P N sc hs l = true → HdsOk X l (hsL C G X.K Wx hs)
  | .nil, [], _ => .nil
  | .nil, _ :: _, h => by cases h
  | .cons c asg hs, l, h => by
    have h : (match (generalizing := false) l with
      | .ExceptHandler (some (.Name x _)) none (b :: suite) _ :: l => (match C.P.exc[c]? with
        | some (y, _) => decide (x = y)
        | none => false) && ((glbB sc x && okN x) && (chkWs N sc asg (b :: suite) && chkH C.P N sc hs l))
      | _ => false) = true := h
    split at h
    · rename_i x p b suite p2 l _
      obtain ⟨h1, k2⟩ := and2 h
      obtain ⟨k2, k3⟩ := and2 k2
      obtain ⟨h2, h3⟩ := and2 k2
      obtain ⟨h4, h5⟩ := and2 k3
      split at h1
      · rename_i y anc e
        have ex := dec h1
        subst ex
        obtain ⟨m1, _⟩ := g.pk.exn c x anc e
        refine .cons ⟨g.gl h2, okN1 h3, .inl m1⟩ (fun a oe cls d pn hz hd => ?_) (hds_ok g tg h5)
        exact wSs_ok (Y := X.suite a ((a, oe) :: pn)) (P := C.P) g.names g.scope g.nd tg h4
      · cases h1
    · cases h
theorem many_ok (g : GoodE C G N kk X sc) (tg : TgOk X sc) {η : List Addr} {w : W} {H : Hp} {D : Ends} {c : Nat} {p : QQ.D} {ρ' : QQ.Env} {w' : W} (S0 : Sm X.K G η w H) : ∀ {hs : Hs} {l : List ExceptHandler}, chkH C.P N sc hs l = true → (evHs C hs c p ρ' w').sat (EndS X.K G η w H D) (XpS X.K G Wx η w H) →
    XpS X.K G (wMany X.K Wx D (hsL C G X.K Wx hs)) η w H c p ρ' w'
  | .nil, l, _, h => h
  | .cons c' asg hs, l, hk, h => by
    have hk0 : (match (generalizing := false) l with
      | .ExceptHandler (some (.Name x _)) none (b :: suite) _ :: l => (match C.P.exc[c']? with
        | some (y, _) => decide (x = y)
        | none => false) && ((glbB sc x && okN x) && (chkWs N sc asg (b :: suite) && chkH C.P N sc hs l))
      | _ => false) = true := hk
    split at hk0
    · rename_i x p2 b suite p3 l
      obtain ⟨h1, k2⟩ := and2 hk0
      obtain ⟨k2, k3⟩ := and2 k2
      obtain ⟨h4, h5⟩ := and2 k3
      have h : (match catches C.P c c' with
        | some true => evSs C asg ρ' w'
        | some false => evHs C hs c p ρ' w'
        | none => R.bad).sat (EndS X.K G η w H D) (XpS X.K G Wx η w H) := h
      unfold catches at h
      split at h
      · rename_i e
        split at e
        · rename_i y anc e2
          split at e
          · rename_i e3
            have e := Option.some.inj e
            intro σ' H' η' d st sl pay
            refine ⟨true, by rw [g.pk.exm c y anc c' e2 e3, e], fun _ a ha => ⟨ρ', η', w', st.sim, sl, sat_mono h (fun _ z => EndS.step S0 st z) fun _ _ _ _ z => z.step S0 st⟩, fun z => (by cases z)⟩
          · cases e
        · cases e
      · rename_i e
        split at e
        · rename_i y anc e2
          split at e
          · rename_i e3
            have e := Option.some.inj e
            intro σ' H' η' d st sl pay
            exact ⟨false, by rw [g.pk.exm c y anc c' e2 e3, e], fun z => (by cases z), fun _ => many_ok g tg S0 h5 h σ' H' η' d st sl pay⟩
          · cases e
        · cases e
      · exact h.elim
    · cases hk0
theorem qs_try (g : GoodE C G N kk X sc) (tg : TgOk X sc) (tk : Takes X Wx) (hs : X.stack = X.env :: X.outer) (hf : X.env.frame = some X.env.locals) {b : Ss} {hd : Hs} {body : List Stmt} {h₀ : ExceptHandler} {hds : List ExceptHandler} {pos : Pos}
    (hb : ∀ (W : WX) (pn : List (Addr × Obj)) (xe : Value → Shared → Prop), Takes (X.tr pn xe) W → PassesOwn (model X.prog X.w) X.A X.env xe → PSs (X.tr pn xe) body (tSs C G X.K b W)) (hh : chkH C.P N sc hd (h₀ :: hds) = true) :
    PS X (.Try body (h₀ :: hds) [] [] pos) (tS C G X.K (.try_ b hd) Wx) := by
  refine ⟨fun pins s σ H D I h => (L2.ps_try_many hs hf tk hb (hds_ok (Wx := Wx) g tg hh)).run pins s σ H D I ?_⟩
  obtain ⟨ρ, η, w, S, sl, h⟩ := h
  refine ⟨ρ, η, w, S, sl, ?_⟩
  have h : (match evSs C b ρ w with
    | .ok r => R.ok r
    | .ex c p ρ' w' => evHs C hd c p ρ' w'
    | .bad => R.bad).sat (EndS X.K G η w H D) (XpS X.K G Wx η w H) := h
  cases e : evSs C b ρ w with
  | ok r => rw [e] at h; exact h
  | ex c p ρ' w' => rw [e] at h; exact many_ok g tg S hh h
  | bad => rw [e] at h; exact h.elim
end
end QQ

set_option Elab.async false
set_option linter.all false
set_option maxRecDepth 100000
set_option maxHeartbeats 8000000
/-! Q18: statements, all of them. -/
namespace QQ
open PySem PySem.Spec PyProof.Rows L2

section
variable (P : Prog) (N : List Str)
def setB (sc : Scope) (x : Str) (py : Pos) (v : Expr) : Bool := match v with
  | .ListComp _ _ s pos => (sc.names.lookup x == some .cell) || ((sc.names.lookup x == some .local) && ((py.line == pos.line) && !(s.names.any fun (n, k) => n == x && (k == .local || k == .cell))))
  | v => !isComp v
mutual
def chkS (sc : Scope) : S → Stmt → Bool
  | .set i e, st => match st with
    | .Assign [.Name x py] v _ => (decide (N[i]? = some x) && locB sc x) && (setB sc x py v && chkE P N sc e v)
    | _ => false
  | .par is es, st => match st with
    | .Assign [.Tuple [.Name x _, .Name y _] _ _] (.Tuple [a, b] _ _) _ => (match is with
      | [i, j] => ((decide (N[i]? = some x) && decide (N[j]? = some y)) && (decide (i ≠ j) && (lclB sc x && lclB sc y))) && chkEs P N sc es [a, b]
      | _ => false) && (match st with
      | .Assign [.Tuple ts _ _] (.Tuple vs _ _) _ => decide (parN sc ts vs = some [x, y])
      | _ => false)
    | .Assign [.Tuple [.Name x _, .Name y _, .Name z _] _ _] (.Tuple [a, b, c] _ _) _ => (match is with
      | [i, j, l] => ((decide (N[i]? = some x) && (decide (N[j]? = some y) && decide (N[l]? = some z))) && ((decide (i ≠ j) && (decide (i ≠ l) && decide (j ≠ l))) && (lclB sc x && (lclB sc y && lclB sc z)))) && chkEs P N sc es [a, b, c]
      | _ => false) && (match st with
      | .Assign [.Tuple ts _ _] (.Tuple vs _ _) _ => decide (parN sc ts vs = some [x, y, z])
      | _ => false)
    | _ => false
  | .asg t e, st => match st with
    | .Assign [tg] v _ => (chkTg P N sc sc t tg && chkE P N sc e v) && (swN sc tg v && (match tg with
      | .Name _ _ => !isComp v
      | .Tuple _ _ _ => true
      | .Subscript _ _ _ => true
      | _ => false))
    | _ => false
  | .aug i o e, st => match st with
    | .AugAssign (.Name x _) op v _ => decide (op = astOp o) && ((decide (N[i]? = some x) && locB sc x) && chkE P N sc e v)
    | _ => false
  | .augx _ _ _ _, _ => false
  | .fset o f e, st => match st with
    | .Assign [.Attribute ob nm _] v _ => decide (P.attr[f]? = some nm) && (chkE P N sc o ob && chkE P N sc e v)
    | _ => false
  | .faug _ _ _ _, _ => false
  | .ex e, st => match st with
    | .Expr v _ => !isComp v && chkE P N sc e v
    | _ => false
  | .ret e, st => match st with
    | .Return (some v) _ => chkE P N sc e v
    | _ => false
  | .retN, st => match st with
    | .Return none _ => true
    | _ => false
  | .ifs t a b, st => match st with
    | .If c p q _ => chkT P N sc t c && (chkSs sc a p && chkSs sc b q)
    | _ => false
  | .whl t b, st => match st with
    | .While c p [] _ => chkT P N sc t c && chkSs sc b p
    | _ => false
  | .for t it b, st => match st with
    | .For tg iter p [] _ => chkTg P N sc sc t tg && (chkIt P N sc tg it iter && chkSs sc b p)
    | _ => false
  | .brk, st => match st with
    | .Break _ => true
    | _ => false
  | .cont, st => match st with
    | .Continue _ => true
    | _ => false
  | .pass, st => match st with
    | .Pass _ => true
    | .Expr (.Constant (.str _) _ _) _ => true
    | _ => false
  | .raise c, st => match st with
    | .Raise (some (.Call (.Name x _) [.Constant (.str _) _ _] [] _)) none _ => (match P.exc[c]? with
      | some (y, _) => decide (x = y)
      | none => false) && (glbB sc x && okN x)
    | _ => false
  | .try_ b hs, st => match st with
    | .Try body (h :: hds) [] [] _ => chkSs sc b body && chkH P N sc hs (h :: hds)
    | _ => false
def chkSs (sc : Scope) : Ss → List Stmt → Bool
  | .nil, l => match l with
    | [] => true
    | _ :: _ => false
  | .cons s ss, l => match l with
    | x :: xs => chkS sc s x && chkSs sc ss xs
    | [] => false
end
end
structure GoodS (C : Ctx) (G : Glob) (N : List Str) (kk : Nat) (X : Cx) (sc : Scope) (Wx : WX) : Prop where
  g : GoodE C G N kk X sc
  tk : Takes X Wx
  tg : TgOk X sc
  fun_ : sc.kind = .function
  stk : X.stack = X.env :: X.outer
  fr : X.env.frame = some X.env.locals
  own : PassesOwn (model X.prog X.w) X.A X.env X.xe
section
variable {C : QQ.Ctx} {G : Glob} {N : List Str} {kk : Nat}
theorem GoodS.tr {X : Cx} {sc : Scope} {Wx : WX} (g : GoodS C G N kk X sc Wx) {W : WX} {pn : List (Addr × Obj)} {xe : Value → Shared → Prop} (tk : Takes (X.tr pn xe) W) (own : PassesOwn (model X.prog X.w) X.A X.env xe) : GoodS C G N kk (X.tr pn xe) sc W where
  g := ⟨g.g.pk, g.g.scope, g.g.names, g.g.nd, g.g.calm, g.g.room, g.g.clen, g.g.fns⟩
  tk := tk
  tg := g.tg
  fun_ := g.fun_
  stk := g.stk
  fr := g.fr
  own := own
theorem qs_setLc {X : Cx} {sc : Scope} {Wx : WX} (g : GoodS C G N kk X sc Wx) {i : Nat} {e : E} {x : Str} {py p0 : Pos} {elt : Expr} {gs : List Comprehension} {s : Scope} {pos : Pos} (hi : N[i]? = some x) (hl : sc.names.lookup x = some .local) (hp : (py.line == pos.line) = true) (hn : (s.names.any fun (n, k) => n == x && (k == .local || k == .cell)) = false)
    (h : chkE C.P N sc e (.ListComp elt gs s pos) = true) : PS X (.Assign [.Name x py] (.ListComp elt gs s pos) p0) (tS C G X.K (.set i e) Wx) := by
  have gg := g.g
  cases e with
  | comp el tg it own cs =>
    have h : (match (generalizing := false) (Expr.ListComp elt gs s pos) with
      | .ListComp x [⟨t, iter, ifs, 0⟩] scope _ => blkC N sc scope (ownOf N own) && ((tgVars tg).all (fun i => own.contains i) && (chkTg C.P N scope (relS scope sc) tg t && (chkIt C.P N sc t it iter && (chkT1 C.P N (relS scope sc) cs ifs && chkE C.P N (relS scope sc) el x))))
      | _ => false) = true := h
    split at h
    · rename_i x' t iter ifs s' p' eq
      cases eq
      obtain ⟨h1, h2⟩ := and2 h
      obtain ⟨h2, h3⟩ := and2 h2
      obtain ⟨h3, h4⟩ := and2 h3
      obtain ⟨h4, h5⟩ := and2 h4
      obtain ⟨h5, h6⟩ := and2 h5
      have hv : ∀ i ∈ tgVars tg, i ∈ own := fun i hi => by
        have := (List.all_eq_true.mp h2) i hi
        simpa using this
      have ok : BlkOk X.N X.env.scope s (ownOf N own) := by
        rw [gg.names, gg.scope]
        exact blkOk_by h1
      have hk : X.env.scope.kind = .function := by rw [gg.scope]; exact g.fun_
      have hl' : X.env.scope.names.lookup x = some .local := by rw [gg.scope]; exact hl
      refine ⟨fun pins s0 σ H D I hh => (ps_setLc (wi := tI C G X.K it Wx) (g := tG C G X.K tg) (tt := tAll C G X.K cs WF) (te := tE C G X.K el WF) gg.calm (by rw [gg.names]; exact gg.nd) (by rw [gg.names]; exact hi) hl' (sw_true hk hl' hp hn) (snd_It it gg g.tk h4) ok (fun s H Ca cl fp => snd_Tg tg (gg.blk s H _ Ca cl fp) (tgOk_blk gg s H _ Ca cl fp) h3) (fun s H Ca cl fp => snd_T1 cs (gg.blk s H _ Ca cl fp) takes_blk h5)
        (fun s H Ca cl fp => snd_E el (gg.blk s H _ Ca cl fp) takes_blk h6) (chkIt_fold h4 _)).run pins s0 σ H D I ?_⟩
      rw [own_snd]
      exact lc_of hv (tset_ok hh)
    · cases h
  | _ => first | (cases h; done) | (exact absurd h (by simp [chkE]))
theorem lclB_ok {sc : Scope} {x : Str} (h : lclB sc x = true) : sc.names.lookup x = some .local := by
  unfold lclB at h
  split at h
  · assumption
  · cases h
/-- as many values as there are arguments -/
theorem es_len {X : Cx} {sc : Scope} {Wx : WX} {es : Es} {l : List Expr} {σ : L2.St} {H : Hp} {Q : List V → Hp → Prop} (hc : chkEs C.P N sc es l = true) (h : tA C G X.K es Wx σ H Q) : tA C G X.K es Wx σ H (fun vs H' => vs.length = l.length ∧ Q vs H') := by
  obtain ⟨ρ, η, w, S, sl, h⟩ := h
  exact ⟨ρ, η, w, S, sl, sat_mono (evEs_len ρ hc h) (fun r hr vs H' η' st rv => ⟨rv.length.symm.trans hr.2, hr.1 vs H' η' st rv⟩) fun _ _ _ _ z => z⟩
theorem par_ok {X : Cx} {sc : Scope} {Wx : WX} {is : List Nat} {es : Es} {D : Ends} {σ : L2.St} {H : Hp} (h : tS C G X.K (.par is es) Wx D σ H) : tA C G X.K es Wx σ H (fun vs H1 => vs.length = is.length → ∀ σ', (∀ (K : PySem.W.Frag) (η : List Addr) (H : Hp) (ρ : QQ.Env) (ds : List QQ.D), Slots K η H ρ σ → RepAll K η H ds vs → Slots K η H (setAll ρ (is.zip ds)) σ') → D.nx σ' H1) := by
  obtain ⟨ρ, η, w, S, sl, h⟩ := h
  have h : (((evEs C ρ es w).env ρ).bind fun r => if r.1.length = is.length then R.ok (Fl.nx, setAll ρ (is.zip r.1), r.2) else R.bad).sat (EndS X.K G η w H D) (XpS X.K G Wx η w H) := h
  rw [sat_bind, sat_env] at h
  refine ⟨ρ, η, w, S, sl, sat_mono h (fun r hr vs H1 η1 st rvs hl σ' hs => ?_) fun c p ρ' w' z => z.to S sl⟩
  rw [if_pos (by rw [rvs.length]; exact hl)] at hr
  exact hr σ' H1 η1 st (hs X.K η1 H1 ρ r.1 (sl.step S st) rvs)
theorem qs_par2 {X : Cx} {sc : Scope} {Wx : WX} (g : GoodS C G N kk X sc Wx) {i j : Nat} {es : Es} {x y : Str} {a b : Expr} {px py pt pt2 pos : Pos} {kt k2 : Nat} (hi : N[i]? = some x) (hj : N[j]? = some y) (hij : i ≠ j) (hx : lclB sc x = true) (hy : lclB sc y = true) (hc : chkEs C.P N sc es [a, b] = true)
    (hp : parN sc [.Name x px, .Name y py] [a, b] = some [x, y]) : PS X (.Assign [.Tuple [.Name x px, .Name y py] kt pt] (.Tuple [a, b] k2 pt2) pos) (tS C G X.K (.par [i, j] es) Wx) := by
  have gg := g.g
  refine ⟨fun pins s σ H D I h => (ps_par (kt := kt) (k2 := k2) gg.calm (by rw [gg.names]; exact gg.nd) (by rw [gg.names]; exact hi) (by rw [gg.names]; exact hj) hij (by rw [gg.scope]; exact lclB_ok hx) (by rw [gg.scope]; exact lclB_ok hy) (snd_Es es gg g.tk hc) (par_sw (by rw [gg.scope]; exact g.fun_) (by rw [gg.scope]; exact hp))).run pins s σ H D I ?_⟩
  have h2 := es_len hc (par_ok (sc := sc) h)
  obtain ⟨ρ, η, w, S, sl, h2⟩ := h2
  refine ⟨ρ, η, w, S, sl, sat_mono h2 (fun r hr vs H1 η1 st rvs => ?_) fun _ _ _ _ z => z⟩
  obtain ⟨hl, q⟩ := hr vs H1 η1 st rvs
  match vs, hl with
  | [v, u], _ =>
    refine ⟨v, u, rfl, q rfl _ fun K η H ρ ds sl ra => ?_⟩
    cases ra with
    | cons r1 ra =>
      cases ra with
      | cons r2 ra =>
        cases ra
        exact (sl.set r1 i).set r2 j
theorem qs_par3 {X : Cx} {sc : Scope} {Wx : WX} (g : GoodS C G N kk X sc Wx) {i j l : Nat} {es : Es} {x y z : Str} {a b c : Expr} {px py pz pt pt2 pos : Pos} {kt k2 : Nat} (hi : N[i]? = some x) (hj : N[j]? = some y) (hl : N[l]? = some z) (hij : i ≠ j) (hil : i ≠ l) (hjl : j ≠ l) (hx : lclB sc x = true) (hy : lclB sc y = true) (hz : lclB sc z = true)
    (hc : chkEs C.P N sc es [a, b, c] = true) (hp : parN sc [.Name x px, .Name y py, .Name z pz] [a, b, c] = some [x, y, z]) : PS X (.Assign [.Tuple [.Name x px, .Name y py, .Name z pz] kt pt] (.Tuple [a, b, c] k2 pt2) pos) (tS C G X.K (.par [i, j, l] es) Wx) := by
  have gg := g.g
  refine ⟨fun pins s σ H D I h => (ps_par3 (kt := kt) (k2 := k2) gg.calm (by rw [gg.names]; exact gg.nd) (by rw [gg.names]; exact hi) (by rw [gg.names]; exact hj) (by rw [gg.names]; exact hl) hij hil hjl (by rw [gg.scope]; exact lclB_ok hx) (by rw [gg.scope]; exact lclB_ok hy) (by rw [gg.scope]; exact lclB_ok hz) (snd_Es es gg g.tk hc) (par_sw (by rw [gg.scope]; exact g.fun_) (by rw [gg.scope]; exact hp))).run pins s σ H D I ?_⟩
  have h2 := es_len hc (par_ok (sc := sc) h)
  obtain ⟨ρ, η, w, S, sl, h2⟩ := h2
  refine ⟨ρ, η, w, S, sl, sat_mono h2 (fun r hr vs H1 η1 st rvs => ?_) fun _ _ _ _ z => z⟩
  obtain ⟨hl, q⟩ := hr vs H1 η1 st rvs
  match vs, hl with
  | [v, u, t], _ =>
    refine ⟨v, u, t, rfl, q rfl _ fun K η H ρ ds sl ra => ?_⟩
    cases ra with
    | cons r1 ra =>
      cases ra with
      | cons r2 ra =>
        cases ra with
        | cons r3 ra =>
          cases ra
          exact ((sl.set r1 i).set r2 j).set r3 l
mutual
theorem snd_S : ∀ (a : S) {X : Cx} {sc : Scope} {Wx : WX} {st : Stmt}, GoodS C G N kk X sc Wx → chkS C.P N sc a st = true → PS X st (tS C G X.K a Wx)
  | .set i e, X, sc, Wx, st, g, h => by
    have h : (match (generalizing := false) st with
      | .Assign [.Name x py] v _ => (decide (N[i]? = some x) && locB sc x) && (setB sc x py v && chkE C.P N sc e v)
      | _ => false) = true := h
    split at h
    · rename_i x py v p0 _
      obtain ⟨k1, k2⟩ := and2 h
      obtain ⟨h1, h2⟩ := and2 k1
      obtain ⟨h3, h4⟩ := and2 k2
      have gg := g.g
      obtain ⟨t1, t2⟩ := g.tg x h2
      have plain : swapsWith v (some (.Name x py)) p0.line X.env = pure false → PS X (.Assign [.Name x py] v p0) (tS C G X.K (.set i e) Wx) := fun hs =>
        qs_set (by rw [gg.names]; exact gg.nd) (by rw [gg.names]; exact dec h1) t1 t2 (snd_E e gg g.tk h4) hs
      unfold setB at h3
      split at h3
      · rcases Bool.or_eq_true_iff.mp h3 with h3 | h3
        · exact plain (sw_cell (by rw [gg.scope]; simpa using h3))
        · obtain ⟨h5, h6⟩ := and2 h3
          obtain ⟨h6, h7⟩ := and2 h6
          exact qs_setLc g (dec h1) (by simpa using h5) h6 (by simpa using h7) h4
      · exact plain (sw_plain (by simpa using h3) _ _ _)
    · cases h
  | .par is es, X, sc, Wx, st, g, h => by
    have h : (match (generalizing := false) st with
    | .Assign [.Tuple [.Name x _, .Name y _] _ _] (.Tuple [a, b] _ _) _ => (match (generalizing := false) is with
      | [i, j] => ((decide (N[i]? = some x) && decide (N[j]? = some y)) && (decide (i ≠ j) && (lclB sc x && lclB sc y))) && chkEs C.P N sc es [a, b]
      | _ => false) && (match (generalizing := false) st with
      | .Assign [.Tuple ts _ _] (.Tuple vs _ _) _ => decide (parN sc ts vs = some [x, y])
      | _ => false)
    | .Assign [.Tuple [.Name x _, .Name y _, .Name z _] _ _] (.Tuple [a, b, c] _ _) _ => (match (generalizing := false) is with
      | [i, j, l] => ((decide (N[i]? = some x) && (decide (N[j]? = some y) && decide (N[l]? = some z))) && ((decide (i ≠ j) && (decide (i ≠ l) && decide (j ≠ l))) && (lclB sc x && (lclB sc y && lclB sc z)))) && chkEs C.P N sc es [a, b, c]
      | _ => false) && (match (generalizing := false) st with
      | .Assign [.Tuple ts _ _] (.Tuple vs _ _) _ => decide (parN sc ts vs = some [x, y, z])
      | _ => false)
    | _ => false) = true := h
    split at h
    · obtain ⟨k1, k2⟩ := and2 h
      split at k1
      · obtain ⟨k3, h9⟩ := and2 k1
        obtain ⟨k4, k5⟩ := and2 k3
        obtain ⟨h1, h2⟩ := and2 k4
        obtain ⟨h3, k6⟩ := and2 k5
        obtain ⟨h4, h5⟩ := and2 k6
        exact qs_par2 g (dec h1) (dec h2) (dec h3) h4 h5 h9 (dec k2)
      · cases k1
    · obtain ⟨k1, k2⟩ := and2 h
      split at k1
      · obtain ⟨k3, h9⟩ := and2 k1
        obtain ⟨k4, k5⟩ := and2 k3
        obtain ⟨h1, k6⟩ := and2 k4
        obtain ⟨h2, h3⟩ := and2 k6
        obtain ⟨k7, k8⟩ := and2 k5
        obtain ⟨h4, k9⟩ := and2 k7
        obtain ⟨h5, h6⟩ := and2 k9
        obtain ⟨h7, k10⟩ := and2 k8
        obtain ⟨h8, h10⟩ := and2 k10
        exact qs_par3 g (dec h1) (dec h2) (dec h3) (dec h4) (dec h5) (dec h6) h7 h8 h10 h9 (dec k2)
      · cases k1
    · cases h
  | .asg t e, X, sc, Wx, st, g, h => by
    have h : (match (generalizing := false) st with
      | .Assign [tg] v _ => (chkTg C.P N sc sc t tg && chkE C.P N sc e v) && (swN sc tg v && (match (generalizing := false) tg with
        | .Name _ _ => !isComp v
        | .Tuple _ _ _ => true
        | .Subscript _ _ _ => true
        | _ => false))
      | _ => false) = true := h
    split at h
    · rename_i tg v p0 _
      obtain ⟨k1, k2⟩ := and2 h
      obtain ⟨h1, h2⟩ := and2 k1
      obtain ⟨h3, h4⟩ := and2 k2
      have gg := g.g
      have e1 : (assignEach [tg] X.env).map (·.2) = [assign tg X.env] := by
        rw [ass_cons h1]
        rfl
      refine qs_asg (snd_E e gg g.tk h2) (snd_Tg t gg g.tg h1) ?_ (sw_none (by rw [gg.scope]; exact h3)) e1
      show swapsWith v (some tg) p0.line X.env = pure false
      split at h4
      · exact sw_plain (by simpa using h4) _ _ _
      · exact sw_tup _ _ _ _ _ _
      · exact sw_sub _ _ _ _ _ _
      · cases h4
    · cases h
  | .aug i o e, X, sc, Wx, st, g, h => by
    have h : (match (generalizing := false) st with
      | .AugAssign (.Name x _) op v _ => decide (op = astOp o) && ((decide (N[i]? = some x) && locB sc x) && chkE C.P N sc e v)
      | _ => false) = true := h
    split at h
    · rename_i x px op v p0 _
      obtain ⟨k1, k2⟩ := and2 h
      obtain ⟨k3, h4⟩ := and2 k2
      obtain ⟨h1, h2⟩ := and2 k3
      have eo := dec k1
      subst eo
      have gg := g.g
      obtain ⟨t1, t2⟩ := g.tg x h2
      exact qs_aug (by rw [gg.names]; exact gg.nd) (by rw [gg.names]; exact dec h1) t1 t2 (snd_E e gg g.tk h4)
    · cases h
  | .augx _ _ _ _, X, sc, Wx, st, g, h => by
    have h : false = true := h
    cases h
  | .fset o f e, X, sc, Wx, st, g, h => by
    have h : (match (generalizing := false) st with
      | .Assign [.Attribute ob nm _] v _ => decide (C.P.attr[f]? = some nm) && (chkE C.P N sc o ob && chkE C.P N sc e v)
      | _ => false) = true := h
    split at h
    · obtain ⟨h1, k2⟩ := and2 h
      obtain ⟨h2, h3⟩ := and2 k2
      exact qs_fset g.g (dec h1) (snd_E o g.g g.tk h2) (snd_E e g.g g.tk h3)
    · cases h
  | .faug _ _ _ _, X, sc, Wx, st, g, h => by
    have h : false = true := h
    cases h
  | .ex e, X, sc, Wx, st, g, h => by
    have h : (match (generalizing := false) st with
      | .Expr v _ => !isComp v && chkE C.P N sc e v
      | _ => false) = true := h
    split at h
    · obtain ⟨h1, h2⟩ := and2 h
      exact qs_ex (snd_E e g.g g.tk h2) (sw_plain (by simpa using h1) _ _ _)
    · cases h
  | .ret e, X, sc, Wx, st, g, h => by
    have h : (match (generalizing := false) st with
      | .Return (some v) _ => chkE C.P N sc e v
      | _ => false) = true := h
    split at h
    · exact qs_ret (snd_E e g.g g.tk h)
    · cases h
  | .retN, X, sc, Wx, st, g, h => by
    have h : (match (generalizing := false) st with
      | .Return none _ => true
      | _ => false) = true := h
    split at h
    · exact qs_retN
    · cases h
  | .ifs t a b, X, sc, Wx, st, g, h => by
    have h : (match (generalizing := false) st with
      | .If c p q _ => chkT C.P N sc t c && (chkSs C.P N sc a p && chkSs C.P N sc b q)
      | _ => false) = true := h
    split at h
    · obtain ⟨h1, k2⟩ := and2 h
      obtain ⟨h2, h3⟩ := and2 k2
      exact qs_if (snd_T t g.g g.tk h1) (snd_Ss a g h2) (snd_Ss b g h3)
    · cases h
  | .whl t b, X, sc, Wx, st, g, h => by
    have h : (match (generalizing := false) st with
      | .While c p [] _ => chkT C.P N sc t c && chkSs C.P N sc b p
      | _ => false) = true := h
    split at h
    · obtain ⟨h1, h2⟩ := and2 h
      exact qs_while g.own (snd_T t g.g g.tk h1) (snd_Ss b g h2)
    · cases h
  | .for t it b, X, sc, Wx, st, g, h => by
    have h : (match (generalizing := false) st with
      | .For tg iter p [] _ => chkTg C.P N sc sc t tg && (chkIt C.P N sc tg it iter && chkSs C.P N sc b p)
      | _ => false) = true := h
    split at h
    · obtain ⟨h1, k2⟩ := and2 h
      obtain ⟨h2, h3⟩ := and2 k2
      exact qs_for g.own (snd_It it g.g g.tk h2) (snd_Tg t g.g g.tg h1) (snd_Ss b g h3) (chkIt_fold h2 _) g.g.calm
    · cases h
  | .brk, X, sc, Wx, st, g, h => by
    have h : (match (generalizing := false) st with | .Break _ => true | _ => false) = true := h
    split at h
    · exact qs_brk
    · cases h
  | .cont, X, sc, Wx, st, g, h => by
    have h : (match (generalizing := false) st with | .Continue _ => true | _ => false) = true := h
    split at h
    · exact qs_cont
    · cases h
  | .pass, X, sc, Wx, st, g, h => by
    have h : (match (generalizing := false) st with | .Pass _ => true | .Expr (.Constant (.str _) _ _) _ => true | _ => false) = true := h
    split at h
    · exact qs_pass
    · exact qs_doc
    · cases h
  | .raise c, X, sc, Wx, st, g, h => by
    have h : (match (generalizing := false) st with
      | .Raise (some (.Call (.Name x _) [.Constant (.str _) _ _] [] _)) none _ => (match C.P.exc[c]? with
        | some (y, _) => decide (x = y)
        | none => false) && (glbB sc x && okN x)
      | _ => false) = true := h
    split at h
    · obtain ⟨h1, k2⟩ := and2 h
      obtain ⟨h2, h3⟩ := and2 k2
      split at h1
      · rename_i y anc e
        have ex := dec h1
        subst ex
        exact qs_raise g.g g.tk e h2 h3
      · cases h1
    · cases h
  | .try_ b hs, X, sc, Wx, st, g, h => by
    have h : (match (generalizing := false) st with
      | .Try body (h :: hds) [] [] _ => chkSs C.P N sc b body && chkH C.P N sc hs (h :: hds)
      | _ => false) = true := h
    split at h
    · obtain ⟨h1, h2⟩ := and2 h
      exact qs_try g.g g.tg g.tk g.stk g.fr (fun W pn xe tk own => snd_Ss b (g.tr tk own) h1) h2
    · cases h
theorem snd_Ss : ∀ (a : Ss) {X : Cx} {sc : Scope} {Wx : WX} {l : List Stmt}, GoodS C G N kk X sc Wx → chkSs C.P N sc a l = true → PSs X l (tSs C G X.K a Wx)
  | .nil, X, sc, Wx, [], g, h => qs_nil
  | .nil, X, sc, Wx, _ :: _, g, h => by cases h
  | .cons s ss, X, sc, Wx, [], g, h => by cases h
  | .cons s ss, X, sc, Wx, st :: l, g, h => by
    have h : (chkS C.P N sc s st && chkSs C.P N sc ss l) = true := h
    obtain ⟨h1, h2⟩ := and2 h
    exact qs_cons (snd_S s g h1) (snd_Ss ss g h2)
end
end
end QQ

set_option Elab.async false
set_option linter.all false
set_option maxRecDepth 100000
set_option maxHeartbeats 8000000
/-! Q19: functions. -/
namespace QQ
open PySem PySem.Spec PyProof.Rows L2

section
variable {K : PySem.W.Frag}
mutual
theorem Rep.flat {η η' : List Addr} {H : Hp} : ∀ {d : D} {v : V}, flat d = true → Rep K η H d v → Rep K η' H d v
  | _, _, _, .non => .non
  | _, _, _, .bl b => .bl b
  | _, _, _, .int i => .int i
  | _, _, _, .str x => .str x
  | _, _, h, .tup a b => .tup a (RepAll.flat h b)
  | _, _, h, .ref _ => by cases h
  | _, _, h, .frz _ _ => by cases h
theorem RepAll.flat {η η' : List Addr} {H : Hp} : ∀ {ds : List D} {vs : List V}, flats ds = true → RepAll K η H ds vs → RepAll K η' H ds vs
  | _, _, _, .nil => .nil
  | _, _, h, .cons a b => by
    obtain ⟨h1, h2⟩ := and2 h
    exact .cons (Rep.flat h1 a) (RepAll.flat h2 b)
end
mutual
/-- what was there before needs only the objects that were there -/
theorem Rep.cut {η η0 : List Addr} {H H0 : Hp} (p : Pre η0 η) : ∀ {d : D} {v v0 : V}, Rep K η0 H0 d v0 → Rep K η H d v → Rep K η0 H d v
  | _, _, _, _, .non => .non
  | _, _, _, _, .bl b => .bl b
  | _, _, _, _, .int i => .int i
  | _, _, _, _, .str x => .str x
  | _, _, _, .tup _ b0, .tup a b => .tup a (RepAll.cut2 p b0 b)
  | _, _, _, .ref e0, .ref e => by
    have := p _ _ e0
    rw [e] at this
    cases this
    exact .ref e0
  | _, _, _, .frz _ b0, .frz a b => .frz a (RepAll.cut2 p b0 b)
theorem RepAll.cut2 {η η0 : List Addr} {H H0 : Hp} (p : Pre η0 η) : ∀ {ds : List D} {vs vs0 : List V}, RepAll K η0 H0 ds vs0 → RepAll K η H ds vs → RepAll K η0 H ds vs
  | _, _, _, _, .nil => .nil
  | _, _, _, .cons a0 b0, .cons a b => .cons (Rep.cut p a0 a) (RepAll.cut2 p b0 b)
end
theorem FRep.cut {nm : List Str} {η η0 : List Addr} {H H0 : Hp} (p : Pre η0 η) : ∀ {fs : List (Nat × D)} {vs vs0 : List (Str × V)}, FRep K nm η0 H0 fs vs0 → FRep K nm η H fs vs → FRep K nm η0 H fs vs
  | _, _, _, .nil, .nil => .nil
  | _, _, _, .cons _ a0 b0, .cons e a b => .cons e (Rep.cut p a0 a) (FRep.cut p b0 b)
variable {ca : Nat → Addr} {nm : List Str} {η η' : List Addr} {w w' : W} {H H' : Hp}
/-- behind a call -/
theorem Step.back (S : Sim K ca nm η w.cs H) (st : Step K ca nm η ⟨w.cs, w.cs.length⟩ H η' w' H') (f : Bool) : ∃ η2, Step K ca nm η w H η2 (cutW w w' f) H' ∧ (f = true → ∀ d v, flat d = true → Rep K η' H' d v → Rep K η2 H' d v) ∧ (f = false → η2 = η') := by
  unfold cutW
  split
  · rename_i c
    obtain ⟨c1, c2⟩ := c
    have hl : w.cs.length ≤ w'.cs.length := st.len S
    have pr := st.prefix
    refine ⟨η, ⟨⟨by simp [S.len, hl], S.nd, fun n c a h1 h2 => ?_⟩, ⟨[], by simp⟩, st.fr, fun a h n => absurd h n, Nat.le_refl _, fun i h1 h2 => ?_⟩, fun _ d v h r => r.flat h, fun h => by rw [h] at c2; cases c2⟩
    · have h1 : (w'.cs.take w.cs.length)[n]? = some c := h1
      have hn : n < w.cs.length := by rw [← S.len]; exact (List.getElem?_eq_some_iff.mp h2).1
      rw [List.getElem?_take_of_lt hn] at h1
      have h0 : w.cs[n]? = some c := by rw [← st.old n (by omega) hn]; exact h1
      have r0 := S.cell n c a h0 h2
      have r1 := st.sim.cell n c a h1 (pr n a h2)
      cases c with
      | lst ds =>
        obtain ⟨vs0, e0, ra0⟩ := r0
        obtain ⟨vs, e, ra⟩ := r1
        exact ⟨vs, e, RepAll.cut2 pr ra0 ra⟩
      | ins c fs =>
        obtain ⟨dx0, vs0, e0, ra0⟩ := r0
        obtain ⟨dx, vs, e, ra⟩ := r1
        exact ⟨dx, vs, e, FRep.cut pr ra0 ra⟩
    · show (w'.cs.take w.cs.length)[i]? = w.cs[i]?
      rw [List.getElem?_take_of_lt h2]
      exact st.old i (by omega) h2
  · refine ⟨η', ⟨st.sim, st.pre, st.fr, st.new, Nat.min_le_left _ _, fun i h1 h2 => st.old i (Nat.lt_of_lt_of_le h1 (Nat.min_le_right _ _)) h2⟩, fun _ _ _ _ r => r, fun _ => rfl⟩
end
/-- whether the names of a def stand as they must -/
def fnB (F : Fn) (sc : Scope) : Bool := (match sc.kind with | .function => true | _ => false) && ((!sc.isCoroutine && !sc.isGenerator) && (decide F.N.Nodup && (decide (F.np ≤ F.N.length) && ((F.N.take F.np).all (fun x => locB sc x) && sc.names.all (fun y => match y.2 with | .free => false | _ => true)))))
theorem fnB_ok {F : Fn} {sc : Scope} (h : fnB F sc = true) : FnScope F.N (F.N.take F.np) sc ∧ F.np ≤ F.N.length := by
  obtain ⟨h1, h⟩ := and2 h
  obtain ⟨h2, h⟩ := and2 h
  obtain ⟨h3, h⟩ := and2 h
  obtain ⟨h4, h⟩ := and2 h
  obtain ⟨h5, h6⟩ := and2 h
  obtain ⟨h7, h8⟩ := and2 h2
  have hl := of_decide_eq_true h4
  refine ⟨⟨?_, by simpa using h7, by simpa using h8, of_decide_eq_true h3, ?_, fun x hx => ?_, fun y hy e => ?_⟩, hl⟩
  · split at h1
    · assumption
    · cases h1
  · rw [List.length_take, Nat.min_eq_left hl]
  · have := (List.all_eq_true.mp h5) x hx
    unfold locB at this
    split at this
    · exact .inl (by assumption)
    · exact .inr (by assumption)
    · cases this
  · have := (List.all_eq_true.mp h6) y hy
    rw [e] at this
    cases this
/-- a def of the text that the check lets through -/
structure FnAt (P : Prog) (G : Glob) (K : PySem.W.Frag) (f : Nat) (F : Fn) : Prop where
  ex : ∃ (qual : Str) (params : Arguments) (body : List Stmt) (scope : Scope), FunD K F.x qual params body scope [] [] (G.fa f) (G.fd f) ∧ fnB F scope = true ∧ chkSs P F.N scope F.body body = true
theorem fnS_len {P : Prog} {L k f : Nat} {F : Fn} {ds : List D} {w : W} (hF : P.fns[f]? = some F) (h : ds.length ≠ F.np) : fnS P L k f ds w = .bad := by
  cases k with
  | zero => rfl
  | succ k =>
    show (match P.fns[f]? with
    | some F => if ds.length = F.np then fin w (evSs ⟨P, fnS P L k, L⟩ F.body (ds.map some ++ List.replicate (F.N.length - ds.length) none) ⟨w.cs, w.cs.length⟩) else R.bad
    | none => R.bad) = _
    rw [hF]
    exact if_neg h
theorem slots0 {K : PySem.W.Frag} {η : List Addr} {H : Hp} {ds : List D} {vs : List V} (N : List Str) (r : RepAll K η H ds vs) : Slots K η H (ds.map some ++ List.replicate (N.length - ds.length) none) (L2.start N vs) := by
  have hl := r.length
  unfold L2.start
  refine ⟨by simp [hl], fun i d e => ?_⟩
  by_cases hi : i < ds.length
  · rw [List.getElem?_append_left (by simpa using hi), List.getElem?_map] at e
    rw [List.getElem?_append_left (by simpa [← hl] using hi), List.getElem?_map]
    cases e1 : ds[i]? with
    | none => rw [e1] at e; cases e
    | some d1 =>
      rw [e1] at e
      cases e
      obtain ⟨v, e2, rv⟩ := r.get e1
      rw [e2]
      exact ⟨v, rfl, rv⟩
  · rw [List.getElem?_append_right (by simpa using hi), List.getElem?_replicate] at e
    split at e <;> cases e
theorem fn_all {P : Prog} {G : Glob} {K : PySem.W.Frag} {mg : Str → Option Value} {base : Heap} {prog : Program} {wd : World} (pk : POk P G K mg) (fa : ∀ f F, P.fns[f]? = some F → FnAt P G K f F) (L : Nat) :
    ∀ (k : Nat) (f : Nat) (F : Fn), P.fns[f]? = some F → FnOk prog wd K mg base (L2.CX prog wd) (2 * k) (G.fa f) (G.fd f) (F.N.take F.np) (spC ⟨P, fnS P L k, L⟩ G K f)
  | 0, f, F, hF => by
    have no : ∀ vs H Q E, spC ⟨P, fnS P L 0, L⟩ G K f vs H Q E → False := fun vs H Q E ⟨F', η, w, ds, _, _, _, _, h⟩ => h.elim
    exact ⟨fun vs H Q E h => (no vs H Q E h).elim, fun A outer s H args us vs Q E _ _ _ _ h => (no vs H Q E h).elim⟩
  | k + 1, f, F, hF => by
    obtain ⟨qual, params, body, scope, FD, hb, hc⟩ := (fa f F hF).ex
    obtain ⟨S, hnp⟩ := fnB_ok hb
    have e2 : 2 * (k + 1) = (2 * k + 1) + 1 := by omega
    rw [e2]
    refine FD.ok S (fun vs H Q E h => ?_) fun cdv A outer s H vs Q E hr h => ?_
    · obtain ⟨F', η, w, ds, hF', hl, _, ra, _⟩ := h
      rw [hF] at hF'
      cases hF'
      rw [← ra.length, hl, List.length_take, Nat.min_eq_left hnp]
    · obtain ⟨F', η, w, ds, hF', hl, Sm0, ra, h⟩ := h
      rw [hF] at hF'
      cases hF'
      have ih := fn_all (prog := prog) (wd := wd) (base := base) pk fa L k
      have good : GoodS ⟨P, fnS P L k, L⟩ G F.N (2 * k) (cxOf (L2.CX prog wd) prog wd K mg base F.N qual scope (G.fa f) cdv A outer s H E) scope (fun cls d _ H' => E cls d H') := by
        refine ⟨⟨pk, rfl, rfl, S.nd, rfl, hr, fun f F ds w hF h => fnS_len hF h, fun f' F' hF' => ih f' F' hF'⟩, takes_of rfl rfl rfl rfl, fun x hx => ⟨?_, .inl rfl⟩, S.kind, rfl, rfl, passes_of rfl⟩
        unfold locB at hx
        unfold L2.Loc
        show scope.names.lookup x = some .local ∨ scope.names.lookup x = some .cell
        split at hx
        · exact .inl (by assumption)
        · exact .inr (by assumption)
        · cases hx
      refine ⟨_, snd_Ss F.body good hc, ds.map some ++ List.replicate (F.N.length - ds.length) none, η, ⟨w.cs, w.cs.length⟩, Sm0, slots0 F.N ra, ?_⟩
      have h : (match P.fns[f]? with
        | some F => if ds.length = F.np then fin w (evSs ⟨P, fnS P L k, L⟩ F.body (ds.map some ++ List.replicate (F.N.length - ds.length) none) ⟨w.cs, w.cs.length⟩) else R.bad
        | none => R.bad).sat (Want K G η w H Q) (fun c p _ w' => ∀ H' η' d, Stp K G η w H η' w' H' → PayOk p d → E (.ref (G.ea c)) d H') := h
      rw [hF] at h
      simp only at h
      rw [if_pos hl] at h
      generalize evSs ⟨P, fnS P L k, L⟩ F.body (ds.map some ++ List.replicate (F.N.length - ds.length) none) ⟨w.cs, w.cs.length⟩ = r at h ⊢
      cases r with
      | bad => exact h.elim
      | ex c p ρ' w' =>
        have h : ∀ H' η' d, Stp K G η w H η' (cutW w w' (flat p)) H' → PayOk p d → E (.ref (G.ea c)) d H' := h
        intro σ' H' η' d st sl pay
        obtain ⟨η2, st2, _, _⟩ := Step.back Sm0 st (flat p)
        exact h H' η2 d st2 pay
      | ok r =>
        obtain ⟨fl, ρ', w'⟩ := r
        cases fl with
        | nx =>
          have h : Want K G η w H Q (.non, cutW w w' true) := h
          intro σ' H' η' st sl
          obtain ⟨η2, st2, _, _⟩ := Step.back Sm0 st true
          exact h .non H' η2 st2 .non
        | rt d =>
          have h : Want K G η w H Q (d, cutW w w' (flat d)) := h
          intro v H' η' st rv
          obtain ⟨η2, st2, g1, g2⟩ := Step.back Sm0 st (flat d)
          cases e : flat d with
          | true => rw [e] at st2 g1 h; exact h v H' η2 st2 (g1 rfl d v e rv)
          | false => rw [e] at st2 g2 h; have := g2 rfl; subst this; exact h v H' η2 st2 rv
        | bk => exact h.elim
        | ct => exact h.elim
end QQ

set_option Elab.async false
set_option linter.all false
set_option maxRecDepth 100000
set_option maxHeartbeats 1000000
/-! Q20: what the head must tell of the written part, as one Bool. -/
namespace QQ
open PySem PySem.Spec PyProof.Rows L2

theorem look_in {β : Type} {n : Nat} {b : β} : ∀ {l : List (Nat × β)}, l.lookup n = some b → (n, b) ∈ l
  | [], h => by cases h
  | (m, c) :: l, h => by
    rw [List.lookup_cons] at h
    by_cases e : (n == m) = true
    · rw [e] at h
      have e1 : n = m := eq_of_beq e
      have e2 : c = b := Option.some.inj h
      rw [e1, e2]
      exact List.mem_cons_self
    · have e' : (n == m) = false := by simpa using e
      rw [e'] at h
      exact List.mem_cons_of_mem _ (look_in h)
theorem fm_congr {α β : Type} {f g : α → Option β} : ∀ {l : List α}, (∀ x ∈ l, f x = g x) → l.filterMap f = l.filterMap g
  | [], _ => rfl
  | x :: l, h => by
    rw [List.filterMap_cons, List.filterMap_cons, h x List.mem_cons_self, fm_congr fun y hy => h y (List.mem_cons_of_mem _ hy)]
theorem zip_look : ∀ {ps : List Str} {us : List Value}, us.length = ps.length → ∀ n ∈ ps, ((ps.zip us).lookup n).isSome = true
  | [], us, _, n, h => by cases h
  | p :: ps, [], hl, _, _ => by simp at hl
  | p :: ps, u :: us, hl, n, h => by
    rw [List.zip_cons_cons, List.lookup_cons]
    by_cases e : (n == p) = true
    · rw [e]; rfl
    · have e' : (n == p) = false := by simpa using e
      rw [e']
      refine zip_look (by simpa using hl) n ?_
      rcases List.mem_cons.mp h with z | z
      · rw [z] at e; simp at e
      · exact z
theorem zip_bind {α : Type} : ∀ {ps : List Str} {us : List α}, us.length = ps.length → ps.Nodup → (ps.filterMap fun n => ((ps.zip us).lookup n).map (n, ·)) = ps.zip us
  | [], us, _, _ => by simp
  | p :: ps, [], hl, _ => by simp at hl
  | p :: ps, u :: us, hl, nd => by
    have nd' := List.nodup_cons.mp nd
    rw [List.zip_cons_cons, List.filterMap_cons, List.lookup_cons]
    have e0 : (p == p) = true := by simp
    rw [e0]
    simp only [Option.map_some]
    congr 1
    refine Eq.trans (fm_congr fun n hn => ?_) (zip_bind (by simpa using hl) nd'.2)
    have ne : (n == p) = false := by
      rw [beq_eq_false_iff_ne]
      intro z
      rw [z] at hn
      exact nd'.1 hn
    rw [List.lookup_cons, ne]
theorem bind_all {fd : FuncData} {ps : List Str} (h1 : fd.params.posonlyargs = []) (h2 : fd.params.vararg = none) (h3 : fd.params.kwonlyargs = []) (h4 : fd.params.kwarg = none) (hd : fd.defaults = .none) (hp : fd.params.args.map (·.arg) = ps) (nd : ps.Nodup) (us : List Value) (hl : us.length = ps.length) : bindArgs fd ⟨us, []⟩ = pure (ps.zip us) := by
  have e1 : (us.length > ps.length) = False := by simp [hl]
  have e2 : (ps.filter fun n => ((ps.zip us).lookup n).isNone) = [] := by
    rw [List.filter_eq_nil_iff]
    intro n hn
    have := zip_look hl n hn
    cases e : (ps.zip us).lookup n with
    | none => rw [e] at this; cases this
    | some _ => simp
  have e3 : seqItems? Value.none = pure none := rfl
  unfold bindArgs
  simp only [h1, h2, h3, h4, hd, hp, List.map_nil, List.nil_append, List.append_nil, e3]
  simp [hl, e2, zip_bind hl nd]

/-! ### values -/
mutual
/-- the value u of the written part is the datum d -/
def repB (K : PySem.W.Frag) : D → Value → Bool
  | .non, u => match u with
    | .none => true
    | _ => false
  | .bl b, u => match u with
    | .bool c => b == c
    | _ => false
  | .int i, u => match u with
    | .int j _ => decide (i = j)
    | _ => false
  | .str x, u => match u with
    | .str y _ => decide (x = y)
    | _ => false
  | .tup ds, u => match u with
    | .ref a => (match K.lookup a with
      | some ⟨.type c, _, .seq its _, _⟩ => decide (c = "tuple") && (decide (its.size ≤ sizeLine) && repsB K ds its.toList)
      | _ => false)
    | _ => false
  | .frz ds, u => match u with
    | .ref a => (match K.lookup a with
      | some ⟨.type c, none, .seq its _, _⟩ => decide (c = "list") && (decide (its.size ≤ sizeLine) && repsB K ds its.toList)
      | _ => false)
    | _ => false
  | .ref _, _ => false
def repsB (K : PySem.W.Frag) : List D → List Value → Bool
  | [], us => us.isEmpty
  | d :: ds, us => match us with
    | u :: us => repB K d u && repsB K ds us
    | [] => false
end
mutual
theorem repB_ok {K : PySem.W.Frag} : ∀ {d : D} {u : Value}, repB K d u = true → ∃ v, RelV v u ∧ ∀ η H, Rep K η H d v
  | .non, u, h => by
    have h : (match (generalizing := false) u with | .none => true | _ => false) = true := h
    split at h
    · exact ⟨.non, rfl, fun _ _ => .non⟩
    · cases h
  | .bl b, u, h => by
    have h : (match (generalizing := false) u with | .bool c => b == c | _ => false) = true := h
    split at h
    · rename_i c _
      have e : b = c := eq_of_beq h
      subst e
      exact ⟨.bl b, rfl, fun _ _ => .bl b⟩
    · cases h
  | .int i, u, h => by
    have h : (match (generalizing := false) u with | .int j _ => decide (i = j) | _ => false) = true := h
    split at h
    · have e := of_decide_eq_true h
      subst e
      exact ⟨.int i, ⟨_, rfl⟩, fun _ _ => .int i⟩
    · cases h
  | .str x, u, h => by
    have h : (match (generalizing := false) u with | .str y _ => decide (x = y) | _ => false) = true := h
    split at h
    · have e := of_decide_eq_true h
      subst e
      exact ⟨.str x, ⟨_, rfl⟩, fun _ _ => .str x⟩
    · cases h
  | .tup ds, u, h => by
    have h : (match (generalizing := false) u with
      | .ref a => (match K.lookup a with
        | some ⟨.type c, _, .seq its _, _⟩ => decide (c = "tuple") && (decide (its.size ≤ sizeLine) && repsB K ds its.toList)
        | _ => false)
      | _ => false) = true := h
    split at h
    · rename_i a _
      split at h
      · rename_i c od its n sl e
        obtain ⟨h1, h2⟩ := and2 h
        obtain ⟨h2, h3⟩ := and2 h2
        have ec := of_decide_eq_true h1
        subst ec
        obtain ⟨vs, r1, r2⟩ := repsB_ok h3
        exact ⟨.ref a, rfl, fun η H => .tup (.inr ⟨_, its, n, e, rfl, rfl, of_decide_eq_true h2, r1⟩) (r2 η H)⟩
      · cases h
    · cases h
  | .frz ds, u, h => by
    have h : (match (generalizing := false) u with
      | .ref a => (match K.lookup a with
        | some ⟨.type c, none, .seq its _, _⟩ => decide (c = "list") && (decide (its.size ≤ sizeLine) && repsB K ds its.toList)
        | _ => false)
      | _ => false) = true := h
    split at h
    · rename_i a _
      split at h
      · rename_i c its n sl e
        obtain ⟨h1, h2⟩ := and2 h
        obtain ⟨h2, h3⟩ := and2 h2
        have ec := of_decide_eq_true h1
        subst ec
        obtain ⟨vs, r1, r2⟩ := repsB_ok h3
        exact ⟨.ref a, rfl, fun η H => .frz (.inr ⟨_, its, n, e, rfl, rfl, rfl, of_decide_eq_true h2, r1⟩) (r2 η H)⟩
      · cases h
    · cases h
  | .ref _, u, h => by cases h
theorem repsB_ok {K : PySem.W.Frag} : ∀ {ds : List D} {us : List Value}, repsB K ds us = true → ∃ vs, Vals vs us ∧ ∀ η H, RepAll K η H ds vs
  | [], us, h => by
    have h : us.isEmpty = true := h
    have : us = [] := by simpa using h
    subst this
    exact ⟨[], .nil, fun _ _ => .nil⟩
  | d :: ds, [], h => by cases h
  | d :: ds, u :: us, h => by
    obtain ⟨h1, h2⟩ := and2 (show (repB K d u && repsB K ds us) = true from h)
    obtain ⟨v, a1, a2⟩ := repB_ok h1
    obtain ⟨vs, b1, b2⟩ := repsB_ok h2
    exact ⟨v :: vs, .cons a1 b1, fun η H => .cons (a2 η H) (b2 η H)⟩
end
/-! ### the facts -/
abbrev Place := Str × Option Str
def clsN (P : Prog) (c : Nat) : Str := match P.cls[c]? with
  | some k => k.x
  | none => Str.empty
def excN (P : Prog) (c : Nat) : Str := match P.exc[c]? with
  | some (x, _) => x
  | none => Str.empty
def plN (pl : List Place) (f : Nat) : Place := (pl[f]?).getD (Str.empty, none)
def fdOf (K : PySem.W.Frag) (a : Addr) : FuncData := match K.lookup a with
  | some ⟨_, _, .func fd, _⟩ => fd
  | _ => default
def globOf (P : Prog) (pl : List Place) (K : PySem.W.Frag) : Glob := ⟨fun c => He.ga K (clsN P c), fun c => He.ga K (excN P c), fun f => He.fAd K (plN pl f), fun f => fdOf K (He.fAd K (plN pl f)), P.attr⟩
def fnsB (K : PySem.W.Frag) : List Fn → List Place → Bool
  | [], _ => true
  | F :: Fs, pl => match pl with
    | p :: pl => (!F.glob || (decide (p = (F.x, none)) && He.eqO (PySem.W.nsIn K mainGlobals F.x) (some (some (.ref (He.fAd K p)))))) && fnsB K Fs pl
    | [] => false
def mthB (P : Prog) (pl : List Place) (K : PySem.W.Frag) (C : Addr) (m f : Nat) : Bool := match P.attr[m]?, P.fns[f]? with
  | some x, some _ => He.eqO (PySem.W.findIn K (.ref C) x) (some (some (.ref (He.fAd K (plN pl f))))) && (PySem.W.isFn K (.ref (He.fAd K (plN pl f))) && PySem.W.keepIn K (.ref (He.fAd K (plN pl f))))
  | _, _ => false
def conB (P : Prog) (K : PySem.W.Frag) (C : Addr) (f : Nat) (d : D) : Bool := match P.attr[f]? with
  | some x => (match PySem.W.findIn K (.ref C) x with
    | some (some u) => repB K d u && (decide (PySem.W.specialIn K u "__get__" = some none) && !PySem.W.copiedNames.contains x)
    | _ => false)
  | none => false
def clsB (P : Prog) (pl : List Place) (K : PySem.W.Frag) (k : QQ.Cls) : Bool :=
  ((He.Fa.glo k.x).ok K && ((He.Fa.cls k.x).ok K && (He.Fa.keep k.x).ok K)) && ((match k.init with
    | some f => PySem.W.makesIn K (He.ga K k.x) && (He.eqO (PySem.W.findIn K (.ref (He.ga K k.x)) "__init__") (some (some (.ref (He.fAd K (plN pl f))))) && (PySem.W.isFn K (.ref (He.fAd K (plN pl f))) && (P.fns[f]?).isSome))
    | none => PySem.W.makesIn K (He.ga K k.x) && (He.eqO (PySem.W.findIn K (.ref (He.ga K k.x)) "__init__") (some (some (.builtin "object.__init__"))) && decide (PySem.W.mroIn K (He.ga K k.x) (.type "object") = some true))) &&
  (k.meth.all (fun p => mthB P pl K (He.ga K k.x) p.1 p.2) && (k.con.all (fun p => conB P K (He.ga K k.x) p.1 p.2) && k.flds.all fun f => match P.attr[f]? with
    | some x => (He.Fa.noat k.x x).ok K
    | none => false)))
def excB (P : Prog) (K : PySem.W.Frag) (c : Nat) : Bool := match P.exc[c]? with
  | some (x, anc) => ((He.Fa.glo x).ok K && (He.Fa.exc x).ok K) && (List.range P.exc.length).all fun c' => match P.exc[c']? with
    | some (y, _) => (He.Fa.exm x y (anc.contains c')).ok K
    | none => false
  | none => false
def pokB (P : Prog) (pl : List Place) (K : PySem.W.Frag) : Bool :=
  (P.cst.all fun p => match PySem.W.nsIn K mainGlobals p.1 with
    | some (some u) => repB K p.2 u
    | _ => false) && (fnsB K P.fns pl && (P.cls.all (fun k => clsB P pl K k) && (P.free.all (fun x => (He.Fa.free x).ok K) && (P.imp.all (fun p => He.eqO (PySem.W.nsIn K mainGlobals p.1) (some (some (.builtin p.2)))) && ((List.range P.exc.length).all (fun c => excB P K c) && P.als.all fun p => He.eqO (PySem.W.nsIn K mainGlobals p.1) (some (some (.ref (He.fAd K (plN pl p.2))))))))))
/-- a def of the row's top or of a class -/
def dOf (F : Fn) (p : Place) (st : Stmt) : He.DefD := ⟨p, F.x, F.qual, defArgs st, defBody st, defScope st, [], []⟩
/-- parameters that are given by place or by name alone -/
def argB (F : Fn) (a : Arguments) : Bool := (a.posonlyargs.isEmpty && (a.vararg.isNone && (a.kwonlyargs.isEmpty && a.kwarg.isNone))) && decide (a.args.map (·.arg) = F.N.take F.np)
/-- the text's def is what the table says -/
def defB (P : Prog) (F : Fn) (st : Stmt) : Bool := argB F (defArgs st) && (fnB F (defScope st) && chkSs P F.N (defScope st) F.body (defBody st))
section
variable {P : Prog} {pl : List Place} {K : PySem.W.Frag} {h : Heap} {mg : Str → Option Value} {fn : List He.DefD} {sts : Nat → Stmt}
theorem fnsB_ok : ∀ {Fs : List Fn} {pl : List Place} {f : Nat} {F : Fn}, fnsB K Fs pl = true → Fs[f]? = some F → F.glob = true → plN pl f = (F.x, none) ∧ PySem.W.nsIn K mainGlobals F.x = some (some (.ref (He.fAd K (plN pl f))))
  | [], pl, f, F, h, e, g => by simp at e
  | F0 :: Fs, [], f, F, h, e, g => by cases h
  | F0 :: Fs, p :: pl, 0, F, h, e, g => by
    obtain ⟨h1, h2⟩ := and2 (show ((!F0.glob || (decide (p = (F0.x, none)) && He.eqO (PySem.W.nsIn K mainGlobals F0.x) (some (some (.ref (He.fAd K p)))))) && fnsB K Fs pl) = true from h)
    cases (show some F0 = some F from e)
    rw [g] at h1
    obtain ⟨h3, h4⟩ := and2 (show (decide (p = (F0.x, none)) && He.eqO (PySem.W.nsIn K mainGlobals F0.x) (some (some (.ref (He.fAd K p))))) = true from h1)
    exact ⟨of_decide_eq_true h3, He.eqO_ok h4⟩
  | F0 :: Fs, p :: pl, f + 1, F, h, e, g => by
    obtain ⟨h1, h2⟩ := and2 (show ((!F0.glob || (decide (p = (F0.x, none)) && He.eqO (PySem.W.nsIn K mainGlobals F0.x) (some (some (.ref (He.fAd K p)))))) && fnsB K Fs pl) = true from h)
    exact fnsB_ok (pl := pl) (f := f) h2 e g
theorem funD_fd {x qual : Str} {params : Arguments} {body : List Stmt} {scope : Scope} {f : Addr} {fd : FuncData} (F : FunD K x qual params body scope [] [] f fd) : fdOf K f = fd := by
  obtain ⟨oc, od, dV, kV, doc, pm, an, cdv, ct, osl, efd, lk, _⟩ := F.ex
  unfold fdOf
  rw [lk]
theorem pok_of (X : K.In h) (Gm : h.Ns mainGlobals mg) (nd : P.attr.Nodup) (hB : pokB P pl K = true) (hd : ∀ f F, P.fns[f]? = some F → (∃ fd, FunD K F.x F.qual (defArgs (sts f)) (defBody (sts f)) (defScope (sts f)) [] [] (He.fAd K (plN pl f)) fd) ∧ defB P F (sts f) = true)
    (kw : ∀ (f n : Nat) (ks : List (Option Str)) (perm : List Nat), (f, n, ks, perm) ∈ P.kwt → ∃ F, P.fns[f]? = some F ∧ ∀ (fd : FuncData), fd.params = defArgs (sts f) → fd.defaults = .none → ∀ (us ws : List Value), us.length = n → ws.length = ks.length → bindArgs fd ⟨us, (ks.filterMap id).zip ws⟩ = pure ((F.N.take F.np).zip (permL (us ++ ws) perm))) :
    POk P (globOf P pl K) K mg ∧ ∀ f F, P.fns[f]? = some F → FnAt P (globOf P pl K) K f F := by
  obtain ⟨b1, hB⟩ := and2 hB
  obtain ⟨b2, hB⟩ := and2 hB
  obtain ⟨b3, hB⟩ := and2 hB
  obtain ⟨b4, hB⟩ := and2 hB
  obtain ⟨b5, hB⟩ := and2 hB
  obtain ⟨b6, b7⟩ := and2 hB
  have gf : ∀ f F, P.fns[f]? = some F → FunD K F.x F.qual (defArgs (sts f)) (defBody (sts f)) (defScope (sts f)) [] [] ((globOf P pl K).fa f) ((globOf P pl K).fd f) := fun f F hF => by
    obtain ⟨⟨fd, D⟩, _⟩ := hd f F hF
    have e : (globOf P pl K).fd f = fd := funD_fd D
    rw [e]
    exact D
  have par : ∀ f F, P.fns[f]? = some F → ((globOf P pl K).fd f).params = defArgs (sts f) ∧ ((globOf P pl K).fd f).defaults = .none := fun f F hF => by
    obtain ⟨oc, od, dV, kV, doc, pm, an, cdv, ct, osl, efd, _, _, dv, _⟩ := (gf f F hF).ex
    rw [efd]
    rcases dv with ⟨_, e⟩ | ⟨e, _⟩
    · exact ⟨rfl, e⟩
    · exact absurd rfl e
  have clk : ∀ c k, P.cls[c]? = some k → clsB P pl K k = true ∧ (globOf P pl K).ca c = He.ga K k.x := fun c k hk => by
    refine ⟨List.all_eq_true.mp b3 k (List.mem_of_getElem? hk), ?_⟩
    show He.ga K (clsN P c) = _
    unfold clsN
    rw [hk]
  have exk : ∀ c x anc, P.exc[c]? = some (x, anc) → excB P K c = true ∧ (globOf P pl K).ea c = He.ga K x := fun c x anc hk => by
    refine ⟨List.all_eq_true.mp b6 c (List.mem_range.mpr (List.getElem?_eq_some_iff.mp hk).1), ?_⟩
    show He.ga K (excN P c) = _
    unfold excN
    rw [hk]
  refine ⟨{ nm := rfl, nd := nd, cst := ?_, fn := ?_, keep := ?_, binds := ?_, npl := ?_, kw := ?_, cls := ?_, init := ?_, bare := ?_, meth := ?_, con := ?_, fld := ?_, free := ?_, imp := ?_, exn := ?_, exm := ?_ }, fun f F hF => ?_⟩
  · intro g x d e
    have := List.all_eq_true.mp b1 (x, d) (List.mem_of_getElem? e)
    simp only at this
    split at this
    · rename_i u e2
      obtain ⟨v, r1, r2⟩ := repB_ok this
      exact ⟨u, v, PySem.W.mg_of X Gm e2, r1, r2⟩
    · cases this
  · intro f F hF x hx
    unfold nmB at hx
    rcases Bool.or_eq_true_iff.mp hx with hx | hx
    · obtain ⟨hg, ex⟩ := and2 hx
      have ex := of_decide_eq_true ex
      subst ex
      obtain ⟨_, e⟩ := fnsB_ok b2 hF hg
      exact PySem.W.mg_of X Gm e
    · exact PySem.W.mg_of X Gm (He.eqO_ok (List.all_eq_true.mp b7 (x, f) (by simpa using hx)))
  · intro f F hF
    exact (gf f F hF).kp
  · intro f F hF
    obtain ⟨p1, p2⟩ := par f F hF
    obtain ⟨_, db⟩ := hd f F hF
    obtain ⟨d1, d2⟩ := and2 db
    obtain ⟨d2, d3⟩ := and2 d2
    obtain ⟨a1, a2⟩ := and2 d1
    obtain ⟨a3, a4⟩ := and2 a1
    obtain ⟨a4, a5⟩ := and2 a4
    obtain ⟨a5, a6⟩ := and2 a5
    obtain ⟨S, _⟩ := fnB_ok d2
    have ndp : (F.N.take F.np).Nodup := S.nd.sublist (List.take_sublist _ _)
    exact .all fun us hl => bind_all (by rw [p1]; simpa using a3) (by rw [p1]; simpa using a4) (by rw [p1]; simpa using a5) (by rw [p1]; simpa using a6) p2 (by rw [p1]; exact of_decide_eq_true a2) ndp us hl
  · intro f F hF
    obtain ⟨_, db⟩ := hd f F hF
    obtain ⟨_, hl⟩ := fnB_ok (and2 (and2 db).2).1
    rw [List.length_take, Nat.min_eq_left hl]
  · intro f n ks perm hk
    obtain ⟨F, hF, q⟩ := kw f n ks perm hk
    obtain ⟨p1, p2⟩ := par f F hF
    exact ⟨F, hF, fun s us ws _ l1 l2 => .of_eq (q _ p1 p2 us ws l1 l2)⟩
  · intro c k hk
    obtain ⟨cb, ec⟩ := clk c k hk
    obtain ⟨c1, _⟩ := and2 cb
    obtain ⟨c1, c2⟩ := and2 c1
    obtain ⟨c2, c3⟩ := and2 c2
    rw [ec]
    exact ⟨He.cls_ok c2, He.glo_ok X Gm c1, c3⟩
  · intro c k f hk hi
    obtain ⟨cb, ec⟩ := clk c k hk
    obtain ⟨c1, c2⟩ := and2 cb
    obtain ⟨c2, _⟩ := and2 c2
    obtain ⟨c1, c4⟩ := and2 c1
    obtain ⟨_, c5⟩ := and2 c4
    rw [hi] at c2
    obtain ⟨i1, i2⟩ := and2 c2
    obtain ⟨i2, i3⟩ := and2 i2
    obtain ⟨i3, i4⟩ := and2 i3
    rw [ec]
    exact ⟨⟨i1, He.eqO_ok i2, i3, c5⟩, Option.isSome_iff_exists.mp i4⟩
  · intro c k hk hi
    obtain ⟨cb, ec⟩ := clk c k hk
    obtain ⟨c1, c2⟩ := and2 cb
    obtain ⟨c2, _⟩ := and2 c2
    rw [hi] at c2
    obtain ⟨i1, i2⟩ := and2 c2
    obtain ⟨i2, i3⟩ := and2 i2
    rw [ec]
    exact ⟨i1, He.eqO_ok i2, of_decide_eq_true i3⟩
  · intro c k m f hk hm
    obtain ⟨cb, ec⟩ := clk c k hk
    obtain ⟨_, c2⟩ := and2 cb
    obtain ⟨_, c3⟩ := and2 c2
    obtain ⟨c3, _⟩ := and2 c3
    have mem : (m, f) ∈ k.meth := look_in hm
    have := List.all_eq_true.mp c3 (m, f) mem
    unfold mthB at this
    simp only at this
    split at this
    · rename_i x F e1 e2
      obtain ⟨i1, i2⟩ := and2 this
      obtain ⟨i2, i3⟩ := and2 i2
      rw [ec]
      exact ⟨x, F, e1, e2, He.eqO_ok i1, i2, i3⟩
    · cases this
  · intro c k f d hk hm
    obtain ⟨cb, ec⟩ := clk c k hk
    obtain ⟨_, c2⟩ := and2 cb
    obtain ⟨_, c3⟩ := and2 c2
    obtain ⟨_, c3⟩ := and2 c3
    obtain ⟨c3, _⟩ := and2 c3
    have mem : (f, d) ∈ k.con := look_in hm
    have := List.all_eq_true.mp c3 (f, d) mem
    unfold conB at this
    simp only at this
    split at this
    · rename_i x e1
      split at this
      · rename_i u e2
        obtain ⟨i1, i2⟩ := and2 this
        obtain ⟨i2, i3⟩ := and2 i2
        obtain ⟨v, r1, r2⟩ := repB_ok i1
        rw [ec]
        exact ⟨x, v, u, e1, ⟨e2, r1, of_decide_eq_true i2, by simpa using i3⟩, r2⟩
      · cases this
    · cases this
  · intro c k f hk hf
    obtain ⟨cb, ec⟩ := clk c k hk
    obtain ⟨_, c2⟩ := and2 cb
    obtain ⟨_, c3⟩ := and2 c2
    obtain ⟨_, c3⟩ := and2 c3
    obtain ⟨_, c3⟩ := and2 c3
    have := List.all_eq_true.mp c3 f hf
    split at this
    · rename_i x e1
      rw [ec]
      exact ⟨x, e1, He.noat_ok this⟩
    · cases this
  · intro x hx
    exact He.free_ok X Gm (List.all_eq_true.mp b4 x hx)
  · intro x id hx
    exact PySem.W.mg_of X Gm (He.eqO_ok (List.all_eq_true.mp b5 (x, id) hx))
  · intro c x anc hk
    obtain ⟨eb, ec⟩ := exk c x anc hk
    unfold excB at eb
    rw [hk] at eb
    obtain ⟨e1, _⟩ := and2 eb
    obtain ⟨e1, e2⟩ := and2 e1
    obtain ⟨q1, q2, q3, q4⟩ := He.exc_ok e2
    rw [ec]
    exact ⟨He.glo_ok X Gm e1, q1, q2, q3, q4⟩
  · intro c x anc c' hk hl
    obtain ⟨eb, ec⟩ := exk c x anc hk
    unfold excB at eb
    rw [hk] at eb
    obtain ⟨_, e2⟩ := and2 eb
    have := List.all_eq_true.mp e2 c' (List.mem_range.mpr hl)
    split at this
    · rename_i y anc2 e3
      obtain ⟨_, ec2⟩ := exk c' y anc2 e3
      rw [ec, ec2]
      exact He.exm_ok this
    · cases this
  · obtain ⟨_, db⟩ := hd f F hF
    obtain ⟨_, d2⟩ := and2 db
    obtain ⟨d2, d3⟩ := and2 d2
    exact ⟨F.qual, _, _, _, gf f F hF, d2, d3⟩
end
end QQ

set_option Elab.async false
set_option linter.all false
set_option maxRecDepth 100000
set_option maxHeartbeats 1000000
/-! Q21: the end, exceptions told of each world. -/
namespace QQ
open PySem PySem.Spec PyProof.Rows L2
theorem walk_w {l : PySem.W.OpenLaw} {n k : Nat} {q : Program} {loose : List Str} {XP : (Str → Option Value) → Heap → Prop} {YP : World → Heap → Prop} {d : DefRec} {CX : World → CXT} {x : Str} (h1 : l.most = some n) (h2 : n ≤ sizeLine) (h3 : d.params.defaults = []) (h4 : Room k callerA)
    (F : ∀ (w : World) (mg : Str → Option Value) (fa : Addr) (h : Heap), YP w h → h.Ns mainGlobals mg → mg d.name = some (.ref fa) → ∃ (K : PySem.W.Frag) (fd : FuncData) (sp : Sp), K.In h ∧ (∀ (s : Shared) (u : Value), BindsTo s fd ⟨[u], []⟩ [(x, u)]) ∧
      (∀ (H : Hp) (a : Addr) (ns : List Int), ns.length ≤ n → Only H → SqL K H a (ns.map V.int) → sp [.ref a] H (fun v _ => v = .bl true) fun _ _ _ => False) ∧ ∀ base : Heap, K.In base → base.Ns mainGlobals mg → FnOk l.prog w K mg base (CX w) k fa fd [x] sp)
    (no : ∀ (w : World) (H : Hp) (s : Shared) (e : Value) (s' : Shared), CX w [] H s (fun _ _ _ => False) e s' → False) : PySem.W.WalkO q loose XP YP l.row.toRowW d [] (fun f vs => PySem.call f vs) := by
  refine Att.attach_call h1 h3 fun w s₀ s₁ mg mb fa o pm cd doc a vs ns G Y ho hd hcd hmg hobj hints hlen hg => ?_
  obtain ⟨K, fd, sp, KX, hb, hsp, hF⟩ := F w mg fa _ Y G.T.g hmg
  exact law_call (CX := CX w) KX G.T.g G.T.b G.T.builtins G.T.nolimit hg hobj hints (Nat.le_trans hlen h2) h4 hF hb (fun H e1 e2 => hsp H a ns hlen e1 e2) fun H e s' => no w H s₁ e s'
end QQ

set_option Elab.async false
set_option linter.all false
set_option maxRecDepth 100000
set_option maxHeartbeats 0
namespace LW
open QQ PySem PySem.Spec PyProof.Rows L2
/-- law -/
def b0 : Ss := .cons (.set 1 (.call 1 (.cons (.var 0) .nil))) (.cons (.for (.nm 2) (.rng1 (.cst (.int 5))) (.cons (.set 3 (.ifx (.val (.cmp .eq (.call 2 (.cons (.var 1) (.cons (.cst (.int 2)) .nil))) (.cst (.int 0)))) (.call 4 (.cons (.var 1) .nil)) (.call 5 (.cons (.var 1) .nil)))) (.cons (.set 4 (.tup (.cons (.bin .sub (.call 2 (.cons (.var 1) (.cons (.cst (.int 5)) .nil))) (.cst (.int 2))) (.cons (.call 2 (.cons (.var 1) (.cons (.cst (.int 3)) .nil))) (.cons (.bin .sub (.call 2 (.cons (.var 1) (.cons (.cst (.int 6)) .nil))) (.cst (.int 2))) .nil))))) (.cons (.set 5 (.call 2 (.cons (.var 1) (.cons (.cst (.int 9)) .nil)))) (.cons (.ifs (.nt (.val (.call 6 (.cons (.call 8 (.cons (.var 4) .nil)) (.cons (.call 3 (.cons (.var 4) .nil)) .nil))))) (.cons (.ret (.cst (.bl false))) (.nil)) (.nil)) (.cons (.ifs (.val (.call 3 (.cons (.var 4) .nil))) (.cons (.set 6 (.call 7 (.cons (.var 3) (.cons (.var 4) .nil)))) (.cons (.ifs (.or (.cons (.nt (.val (.call 6 (.cons (.call 11 (.cons (.var 3) (.cons (.var 4) .nil))) (.cons (.var 6) .nil))))) (.cons (.nt (.val (.call 6 (.cons (.callk 11 (.nil) (.cons (.var 4) (.cons (.var 3) (.nil))) [1, 0]) (.cons (.var 6) .nil))))) (.nil)))) (.cons (.ret (.cst (.bl false))) (.nil)) (.nil)) (.cons (.ifs (.an (.cons (.nt (.val (.var 6))) (.cons (.val (.cmp .ne (.call 10 (.cons (.var 3) (.cons (.var 4) (.cons (.cst (.non)) .nil)))) (.cst (.str ("suited" : PySem.Str))))) (.nil)))) (.cons (.ret (.cst (.bl false))) (.nil)) (.nil)) (.cons (.ifs (.val (.var 6)) (.cons (.set 7 (.call 9 (.cons (.var 3) (.cons (.var 5) (.cons (.idx (.var 4) (.cst (.int 0))) (.cons (.bin .add (.bin .mul (.idx (.var 4) (.cst (.int 1))) (.var 5)) (.idx (.var 4) (.cst (.int 2)))) .nil)))))) (.cons (.ifs (.or (.cons (.val (.cmp .ne (.call 10 (.cons (.var 3) (.cons (.var 4) (.cons (.var 5) .nil)))) (.lst (.cons (.var 7) .nil)))) (.cons (.val (.cmp .ne (.callk 12 (.nil) (.cons (.var 5) (.cons (.var 4) (.cons (.var 3) (.nil)))) [2, 1, 0]) (.var 7))) (.nil)))) (.cons (.ret (.cst (.bl false))) (.nil)) (.nil)) (.cons (.ifs (.val (.cmp .ne (.call 10 (.cons (.var 3) (.cons (.var 4) (.cons (.idx (.lst (.cons (.neg (.cst (.int 1))) (.cons (.cst (.int 401)) (.cons (.cst (.bl true)) (.cons (.cst (.non)) .nil))))) (.call 2 (.cons (.var 1) (.cons (.cst (.int 4)) .nil)))) .nil)))) (.cst (.str ("index" : PySem.Str))))) (.cons (.ret (.cst (.bl false))) (.nil)) (.nil)) (.cons (.ifs (.val (.blt .any1 (.cons (.comp (.cmp .is (.call 13 (.cons (.var 3) (.cons (.var 5) (.cons (.var 10) .nil)))) (.cst (.non))) (.nm 10) (.rng2 (.idx (.var 4) (.cst (.int 0))) (.bin .add (.bin .add (.bin .mul (.idx (.var 4) (.cst (.int 1))) (.var 5)) (.idx (.var 4) (.cst (.int 2)))) (.cst (.int 2)))) [10] (.nil)) .nil))) (.cons (.ret (.cst (.bl false))) (.nil)) (.nil)) (.nil))))) (.nil)) (.nil))))) (.nil)) (.cons (.set 8 (.lst (.cons (.tup (.cons (.cst (.int 0)) (.cons (.cst (.int 4)) (.cons (.cst (.int 0)) .nil)))) (.cons (.tup (.cons (.cst (.int 0)) (.cons (.neg (.cst (.int 1))) (.cons (.cst (.int 0)) .nil)))) (.cons (.tup (.cons (.cst (.int 21)) (.cons (.cst (.int 1)) (.cons (.cst (.int 20)) .nil)))) (.cons (.tup (.cons (.cst (.int 0)) (.cons (.cst (.int 1)) (.cons (.neg (.cst (.int 2))) .nil)))) (.cons (.tup (.cons (.neg (.cst (.int 21))) (.cons (.cst (.int 1)) (.cons (.cst (.int 0)) .nil)))) (.cons (.tup (.cons (.cst (.int 0)) (.cons (.cst (.int 1)) .nil))) (.cons (.lst (.cons (.cst (.int 0)) (.cons (.cst (.int 1)) (.cons (.cst (.int 0)) .nil)))) (.cons (.tup (.cons (.cst (.int 0)) (.cons (.cst (.bl true)) (.cons (.cst (.int 0)) .nil)))) (.cons (.cst (.non)) (.cons (.tup (.cons (.cst (.int 0)) (.cons (.cst (.int 1)) (.cons (.cst (.non)) .nil)))) (.cons (.tup (.cons (.cst (.int 20)) (.cons (.cst (.int 0)) (.cons (.cst (.int 20)) .nil)))) (.cons (.tup (.cons (.cst (.int 1)) (.cons (.cst (.int 0)) (.cons (.cst (.int 0)) .nil)))) .nil)))))))))))))) (.cons (.set 9 (.idx (.var 8) (.call 2 (.cons (.var 1) (.cons (.blt .len (.cons (.var 8) .nil)) .nil))))) (.cons (.ifs (.nt (.val (.call 6 (.cons (.callk 8 (.nil) (.cons (.var 9) (.nil)) [0]) (.cons (.call 3 (.cons (.var 9) .nil)) .nil))))) (.cons (.ret (.cst (.bl false))) (.nil)) (.nil)) (.cons (.ifs (.an (.cons (.nt (.val (.call 3 (.cons (.var 9) .nil)))) (.cons (.or (.cons (.val (.cmp .ne (.call 10 (.cons (.var 3) (.cons (.var 9) (.cons (.var 5) .nil)))) (.cst (.str ("range" : PySem.Str))))) (.cons (.val (.cmp .ne (.call 10 (.cons (.blt .list1 (.cons (.var 3) .nil)) (.cons (.var 9) (.cons (.var 5) .nil)))) (.cst (.str ("term" : PySem.Str))))) (.nil)))) (.nil)))) (.cons (.ret (.cst (.bl false))) (.nil)) (.nil)) (.nil))))))))))) (.cons (.ret (.cst (.bl true))) (.nil)))
def f0 : Fn := ⟨("law" : PySem.Str), ("law" : PySem.Str), true, 1, [("script" : PySem.Str), ("well" : PySem.Str), ("turn" : PySem.Str), ("term" : PySem.Str), ("span" : PySem.Str), ("n" : PySem.Str), ("due" : PySem.Str), ("value" : PySem.Str), ("odd" : PySem.Str), ("thing" : PySem.Str), ("k" : PySem.Str)], b0⟩
/-- _law_well -/
def b1 : Ss := .cons (.ret (.lst (.cons (.comp (.blt .int1 (.cons (.var 1) .nil)) (.nm 1) (.seq (.slc2 (.var 0) (.cst (.int 63)))) [1] (.nil)) (.cons (.cst (.int 0)) (.cons (.cst (.int 40507)) .nil))))) (.nil)
def f1 : Fn := ⟨("_law_well" : PySem.Str), ("_law_well" : PySem.Str), true, 1, [("script" : PySem.Str), ("cell" : PySem.Str)], b1⟩
/-- _law_draw -/
def b2 : Ss := .cons (.ifs (.an (.cons (.val (.cmp .lt (.idx (.var 0) (.cst (.int 1))) (.bin .pow (.cst (.int 10)) (.cst (.int 9))))) (.cons (.val (.cmp .ne (.idx (.var 0) (.cst (.int 0))) (.lst (.nil)))) (.nil)))) (.cons (.set 2 (.idx (.idx (.var 0) (.cst (.int 0))) (.cst (.int 0)))) (.cons (.asg (.sub (.var 0) (.cst (.int 0))) (.slc1 (.idx (.var 0) (.cst (.int 0))) (.cst (.int 1)))) (.cons (.set 3 (.bin .add (.bin .mul (.cst (.int 2)) (.blt .abs (.cons (.var 2) .nil))) (.blt .int1 (.cons (.cmp .lt (.var 2) (.cst (.int 0))) .nil)))) (.cons (.ifs (.val (.cmp .ge (.var 3) (.bin .pow (.cst (.int 10)) (.cst (.int 18))))) (.cons (.asg (.sub (.var 0) (.cst (.int 1))) (.var 3)) (.nil)) (.cons (.asg (.sub (.var 0) (.cst (.int 2))) (.bin .mod (.blt .int1 (.cons (.bin .add (.bin .add (.bin .mul (.idx (.var 0) (.cst (.int 2))) (.cst (.int 48271))) (.bin .mul (.var 3) (.cst (.int 69621)))) (.cst (.int 17))) .nil)) (.cst (.int 2147483647)))) (.nil))) (.nil))))) (.nil)) (.cons (.ifs (.val (.cmp .ge (.idx (.var 0) (.cst (.int 1))) (.bin .pow (.cst (.int 10)) (.cst (.int 9))))) (.cons (.set 4 (.bin .mod (.blt .int1 (.cons (.idx (.var 0) (.cst (.int 1))) .nil)) (.var 1))) (.cons (.asg (.sub (.var 0) (.cst (.int 1))) (.bin .fdiv (.idx (.var 0) (.cst (.int 1))) (.var 1))) (.cons (.ret (.var 4)) (.nil)))) (.nil)) (.cons (.asg (.sub (.var 0) (.cst (.int 2))) (.bin .mod (.blt .int1 (.cons (.bin .add (.bin .mul (.idx (.var 0) (.cst (.int 2))) (.cst (.int 39373))) (.cst (.int 101))) .nil)) (.cst (.int 2147483647)))) (.cons (.ret (.bin .mod (.blt .int1 (.cons (.bin .fdiv (.idx (.var 0) (.cst (.int 2))) (.cst (.int 89))) .nil)) (.var 1))) (.nil))))
def f2 : Fn := ⟨("_law_draw" : PySem.Str), ("_law_draw" : PySem.Str), true, 2, [("well" : PySem.Str), ("many" : PySem.Str), ("cell" : PySem.Str), ("weight" : PySem.Str), ("found" : PySem.Str)], b2⟩
/-- _law_is_range -/
def b3 : Ss := .cons (.ifs (.or (.cons (.nt (.val (.isi .tuple (.var 0)))) (.cons (.val (.cmp .ne (.blt .len (.cons (.var 0) .nil)) (.cst (.int 3)))) (.cons (.nt (.val (.blt .all1 (.cons (.comp (.andv (.cons (.isi .int (.var 4)) (.cons (.notv (.isi .bool (.var 4))) .nil))) (.nm 4) (.seq (.var 0)) [4] (.nil)) .nil)))) (.nil))))) (.cons (.ret (.cst (.bl false))) (.nil)) (.nil)) (.cons (.asg (.tup (.cons (.nm 1) (.cons (.nm 2) (.cons (.nm 3) (.nil))))) (.var 0)) (.cons (.ret (.andv (.cons (.chain .le .le (.neg (.cst (.int 20))) (.var 1) (.cst (.int 20))) (.cons (.chain .le .le (.cst (.int 0)) (.var 2) (.cst (.int 3))) (.cons (.chain .le .le (.neg (.cst (.int 20))) (.var 3) (.cst (.int 20))) (.cons (.cmp .le (.var 1) (.bin .add (.var 3) (.cst (.int 1)))) .nil)))))) (.nil)))
def f3 : Fn := ⟨("_law_is_range" : PySem.Str), ("_law_is_range" : PySem.Str), true, 1, [("thing" : PySem.Str), ("low" : PySem.Str), ("slope" : PySem.Str), ("start" : PySem.Str), ("k" : PySem.Str)], b3⟩
/-- _law_known -/
def b4 : Ss := .cons (.par [1, 2, 3] (.cons (.tup (.cons (.tup (.cons (.tup (.cons (.cst (.int 1)) (.cons (.cst (.int 1)) .nil))) .nil)) .nil)) (.cons (.idx (.lst (.cons (.tup (.cons (.cst (.int 1)) (.cons (.cst (.int 1)) .nil))) (.cons (.tup (.cons (.cst (.int 2)) (.cons (.cst (.int 1)) .nil))) (.cons (.tup (.cons (.cst (.int 1)) (.cons (.cst (.int 2)) .nil))) .nil)))) (.call 2 (.cons (.var 0) (.cons (.cst (.int 3)) .nil)))) (.cons (.idx (.lst (.cons (.tup (.cons (.cst (.int 1)) (.cons (.cst (.int 1)) .nil))) (.cons (.tup (.cons (.neg (.cst (.int 1))) (.cons (.cst (.int 1)) .nil))) (.cons (.tup (.cons (.cst (.int 3)) (.cons (.cst (.int 1)) .nil))) .nil)))) (.call 2 (.cons (.var 0) (.cons (.cst (.int 3)) .nil)))) .nil)))) (.cons (.set 4 (.call 2 (.cons (.var 0) (.cons (.cst (.int 5)) .nil)))) (.cons (.ifs (.val (.cmp .eq (.var 4) (.cst (.int 0)))) (.cons (.ret (.tup (.cons (.var 1) (.cons (.var 2) (.cons (.var 3) (.cons (.tup (.cons (.tup (.cons (.cst (.int 1)) (.cons (.cst (.int 0)) (.cons (.cst (.int 0)) .nil)))) .nil)) (.cons (.tup (.cons (.tup (.cons (.cst (.int 0)) (.cons (.cst (.int 1)) (.cons (.cst (.int 0)) .nil)))) (.cons (.tup (.cons (.cst (.int 1)) (.cons (.neg (.cst (.int 1))) (.cons (.cst (.int 0)) .nil)))) .nil))) .nil))))))) (.nil)) (.nil)) (.cons (.ifs (.val (.cmp .eq (.var 4) (.cst (.int 1)))) (.cons (.ret (.tup (.cons (.tup (.cons (.tup (.nil)) (.cons (.tup (.cons (.tup (.cons (.cst (.int 1)) (.cons (.cst (.int 1)) .nil))) .nil)) .nil))) (.cons (.var 2) (.cons (.var 3) (.cons (.tup (.cons (.tup (.cons (.cst (.int 1)) (.cons (.cst (.int 0)) (.cons (.cst (.int 0)) .nil)))) .nil)) (.cons (.tup (.cons (.tup (.cons (.cst (.int 0)) (.cons (.cst (.int 1)) (.cons (.cst (.int 0)) .nil)))) (.cons (.tup (.cons (.cst (.int 1)) (.cons (.neg (.cst (.int 1))) (.cons (.cst (.int 0)) .nil)))) .nil))) .nil))))))) (.nil)) (.nil)) (.cons (.ifs (.val (.cmp .eq (.var 4) (.cst (.int 2)))) (.cons (.ret (.tup (.cons (.var 1) (.cons (.var 2) (.cons (.tup (.cons (.cst (.int 1)) (.cons (.cst (.int 1)) .nil))) (.cons (.tup (.cons (.tup (.cons (.cst (.int 1)) (.cons (.cst (.int 0)) (.cons (.cst (.int 0)) .nil)))) (.cons (.tup (.cons (.cst (.int 1)) (.cons (.cst (.int 0)) (.cons (.cst (.int 0)) .nil)))) .nil))) (.cons (.tup (.cons (.tup (.cons (.cst (.int 0)) (.cons (.cst (.int 1)) (.cons (.cst (.int 0)) .nil)))) (.cons (.tup (.cons (.cst (.int 0)) (.cons (.cst (.int 1)) (.cons (.cst (.int 0)) .nil)))) (.cons (.tup (.cons (.cst (.int 1)) (.cons (.neg (.cst (.int 1))) (.cons (.cst (.int 0)) .nil)))) (.cons (.tup (.cons (.cst (.int 1)) (.cons (.neg (.cst (.int 1))) (.cons (.cst (.int 0)) .nil)))) .nil))))) .nil))))))) (.nil)) (.nil)) (.cons (.ifs (.val (.cmp .eq (.var 4) (.cst (.int 3)))) (.cons (.ret (.tup (.cons (.var 1) (.cons (.var 2) (.cons (.var 3) (.cons (.tup (.cons (.tup (.cons (.cst (.int 1)) (.cons (.cst (.int 0)) (.cons (.call 2 (.cons (.var 0) (.cons (.cst (.int 2)) .nil))) .nil)))) .nil)) (.cons (.tup (.cons (.tup (.cons (.cst (.int 1)) (.cons (.neg (.cst (.int 1))) (.cons (.cst (.int 0)) .nil)))) .nil)) .nil))))))) (.nil)) (.nil)) (.cons (.ret (.tup (.cons (.ifx (.val (.cmp .eq (.call 2 (.cons (.var 0) (.cons (.cst (.int 2)) .nil))) (.cst (.int 0)))) (.tup (.cons (.tup (.cons (.tup (.cons (.bin .add (.cst (.int 1)) (.call 2 (.cons (.var 0) (.cons (.cst (.int 3)) .nil)))) (.cons (.cst (.int 1)) .nil))) (.cons (.tup (.cons (.cst (.int 1)) (.cons (.cst (.int 1)) .nil))) .nil))) .nil)) (.var 1)) (.cons (.var 2) (.cons (.var 3) (.cons (.tup (.nil)) (.cons (.tup (.cons (.tup (.cons (.cst (.int 0)) (.cons (.cst (.int 1)) (.cons (.call 2 (.cons (.var 0) (.cons (.cst (.int 2)) .nil))) .nil)))) .nil)) .nil))))))) (.nil)))))))
def f4 : Fn := ⟨("_law_known" : PySem.Str), ("_law_known" : PySem.Str), true, 1, [("well" : PySem.Str), ("unit" : PySem.Str), ("x" : PySem.Str), ("y" : PySem.Str), ("kind" : PySem.Str)], b4⟩
/-- _law_term -/
def b5 : Ss := .cons (.set 1 (.blt .tuple1 (.cons (.comp (.tup (.cons (.call 2 (.cons (.var 0) (.cons (.cst (.int 3)) .nil))) (.cons (.bin .sub (.call 2 (.cons (.var 0) (.cons (.cst (.int 3)) .nil))) (.cst (.int 1))) (.cons (.call 2 (.cons (.var 0) (.cons (.cst (.int 4)) .nil))) .nil)))) (.nm 5) (.rng1 (.call 2 (.cons (.var 0) (.cons (.cst (.int 3)) .nil)))) [5] (.nil)) .nil))) (.cons (.set 2 (.blt .tuple1 (.cons (.comp (.tup (.cons (.bin .sub (.call 2 (.cons (.var 0) (.cons (.cst (.int 4)) .nil))) (.cst (.int 1))) (.cons (.bin .sub (.call 2 (.cons (.var 0) (.cons (.cst (.int 4)) .nil))) (.cst (.int 2))) (.cons (.bin .sub (.call 2 (.cons (.var 0) (.cons (.cst (.int 5)) .nil))) (.cst (.int 1))) .nil)))) (.nm 5) (.rng1 (.call 2 (.cons (.var 0) (.cons (.cst (.int 4)) .nil)))) [5] (.nil)) .nil))) (.cons (.set 3 (.call 14 (.cons (.var 0) (.cons (.cst (.int 1)) (.cons (.cst (.int 1)) (.cons (.cst (.int 2)) .nil)))))) (.cons (.set 4 (.lst (.cons (.tup (.cons (.cst (.int 1)) (.cons (.cst (.int 1)) .nil))) (.cons (.tup (.cons (.cst (.int 2)) (.cons (.cst (.int 1)) .nil))) (.cons (.tup (.cons (.neg (.cst (.int 1))) (.cons (.cst (.int 1)) .nil))) (.cons (.tup (.cons (.cst (.int 1)) (.cons (.cst (.int 2)) .nil))) (.cons (.tup (.cons (.cst (.int 3)) (.cons (.cst (.int 1)) .nil))) .nil))))))) (.cons (.ret (.tup (.cons (.ifx (.val (.cmp .ne (.var 3) (.tup (.nil)))) (.var 3) (.tup (.cons (.tup (.cons (.tup (.cons (.cst (.int 1)) (.cons (.cst (.int 1)) .nil))) .nil)) .nil))) (.cons (.idx (.var 4) (.call 2 (.cons (.var 0) (.cons (.cst (.int 5)) .nil)))) (.cons (.idx (.var 4) (.call 2 (.cons (.var 0) (.cons (.cst (.int 5)) .nil)))) (.cons (.var 1) (.cons (.var 2) .nil))))))) (.nil)))))
def f5 : Fn := ⟨("_law_term" : PySem.Str), ("_law_term" : PySem.Str), true, 1, [("well" : PySem.Str), ("tops" : PySem.Str), ("bottoms" : PySem.Str), ("p" : PySem.Str), ("numbers" : PySem.Str), ("j" : PySem.Str)], b5⟩
/-- _law_is -/
def b6 : Ss := .cons (.ret (.ifx (.val (.var 1)) (.cmp .is (.var 0) (.cst (.bl true))) (.cmp .is (.var 0) (.cst (.bl false))))) (.nil)
def f6 : Fn := ⟨("_law_is" : PySem.Str), ("_law_is" : PySem.Str), true, 2, [("told" : PySem.Str), ("due" : PySem.Str)], b6⟩
/-- _law_suits -/
def b7 : Ss := .cons (.asg (.tup (.cons (.nm 2) (.cons (.nm 3) (.cons (.nm 4) (.nil))))) (.var 1)) (.cons (.ret (.blt .all1 (.cons (.comp (.andv (.cons (.cmp .ge (.bin .add (.bin .mul (.var 6) (.var 2)) (.var 7)) (.cst (.int 0))) (.cons (.cmp .ge (.bin .add (.bin .mul (.var 6) (.bin .add (.var 4) (.cst (.int 1)))) (.var 7)) (.cst (.int 0))) (.cons (.cmp .ge (.bin .add (.var 5) (.bin .mul (.var 6) (.var 3))) (.cst (.int 0))) .nil)))) (.tup (.cons (.nm 5) (.cons (.nm 6) (.cons (.nm 7) (.nil))))) (.seq (.idx (.var 0) (.cst (.int 3)))) [5, 6, 7] (.nil)) .nil))) (.nil))
def f7 : Fn := ⟨("_law_suits" : PySem.Str), ("_law_suits" : PySem.Str), true, 2, [("term" : PySem.Str), ("span" : PySem.Str), ("low" : PySem.Str), ("slope" : PySem.Str), ("start" : PySem.Str), ("a" : PySem.Str), ("b" : PySem.Str), ("c" : PySem.Str)], b7⟩
/-- is_range -/
def b8 : Ss := .cons (.ifs (.or (.cons (.nt (.val (.call 16 (.cons (.var 0) (.cons (.cst (.int 3)) (.cons (.cst (.int 3)) .nil)))))) (.cons (.nt (.val (.call 15 (.cons (.idx (.var 0) (.cst (.int 0))) (.cons (.neg (.glob 1)) (.cons (.glob 1) .nil)))))) (.cons (.nt (.val (.call 15 (.cons (.idx (.var 0) (.cst (.int 1))) (.cons (.cst (.int 0)) (.cons (.glob 0) .nil)))))) (.nil))))) (.cons (.ret (.cst (.bl false))) (.nil)) (.nil)) (.cons (.ret (.andv (.cons (.call 15 (.cons (.idx (.var 0) (.cst (.int 2))) (.cons (.neg (.glob 1)) (.cons (.glob 1) .nil)))) (.cons (.cmp .le (.idx (.var 0) (.cst (.int 0))) (.bin .add (.idx (.var 0) (.cst (.int 2))) (.cst (.int 1)))) .nil)))) (.nil))
def f8 : Fn := ⟨("is_range" : PySem.Str), ("is_range" : PySem.Str), true, 1, [("thing" : PySem.Str)], b8⟩
/-- _law_sum_from -/
def b9 : Ss := .cons (.set 4 (.tup (.cons (.cst (.int 0)) (.cons (.cst (.int 1)) .nil)))) (.cons (.for (.nm 5) (.rng2 (.var 2) (.bin .add (.var 3) (.cst (.int 1)))) (.cons (.set 4 (.call 17 (.cons (.var 4) (.cons (.call 13 (.cons (.var 0) (.cons (.var 1) (.cons (.var 5) .nil)))) .nil)))) (.nil))) (.cons (.ret (.var 4)) (.nil)))
def f9 : Fn := ⟨("_law_sum_from" : PySem.Str), ("_law_sum_from" : PySem.Str), true, 4, [("term" : PySem.Str), ("n" : PySem.Str), ("low" : PySem.Str), ("high" : PySem.Str), ("found" : PySem.Str), ("k" : PySem.Str)], b9⟩
/-- _law_told -/
def b10 : Ss := .cons (.asg (.tup (.cons (.nm 3) (.cons (.nm 4) (.nil)))) (.tup (.cons (.cst (.str ("" : PySem.Str))) (.cons (.cst (.non)) .nil)))) (.cons (.try_ (.cons (.set 4 (.call 12 (.cons (.var 0) (.cons (.var 1) (.cons (.var 2) .nil))))) (.nil)) (.cons 0 (.cons (.set 3 (.cst (.str ("term" : PySem.Str)))) (.nil)) (.cons 1 (.cons (.set 3 (.cst (.str ("range" : PySem.Str)))) (.nil)) (.cons 2 (.cons (.set 3 (.cst (.str ("suited" : PySem.Str)))) (.nil)) (.cons 3 (.cons (.set 3 (.cst (.str ("index" : PySem.Str)))) (.nil)) (.cons 4 (.cons (.set 3 (.cst (.str ("other" : PySem.Str)))) (.nil)) (.nil))))))) (.cons (.ret (.ifx (.val (.cmp .ne (.var 3) (.cst (.str ("" : PySem.Str))))) (.var 3) (.lst (.cons (.var 4) .nil)))) (.nil)))
def f10 : Fn := ⟨("_law_told" : PySem.Str), ("_law_told" : PySem.Str), true, 3, [("term" : PySem.Str), ("span" : PySem.Str), ("n" : PySem.Str), ("error" : PySem.Str), ("found" : PySem.Str)], b10⟩
/-- suits -/
def b11 : Ss := .cons (.ex (.call 18 (.cons (.var 0) .nil))) (.cons (.ex (.call 19 (.cons (.var 1) .nil))) (.cons (.ret (.call 20 (.cons (.var 0) (.cons (.var 1) .nil)))) (.nil)))
def f11 : Fn := ⟨("suits" : PySem.Str), ("suits" : PySem.Str), true, 2, [("term" : PySem.Str), ("span" : PySem.Str)], b11⟩
/-- total -/
def b12 : Ss := .cons (.ex (.call 21 (.cons (.var 0) (.cons (.var 1) .nil)))) (.cons (.ex (.call 22 (.cons (.var 2) .nil))) (.cons (.ret (.call 23 (.cons (.var 0) (.cons (.var 1) (.cons (.var 2) .nil))))) (.nil)))
def f12 : Fn := ⟨("total" : PySem.Str), ("total" : PySem.Str), true, 3, [("term" : PySem.Str), ("span" : PySem.Str), ("n" : PySem.Str)], b12⟩
/-- _law_at -/
def b13 : Ss := .cons (.asg (.tup (.cons (.nm 3) (.cons (.nm 4) (.cons (.nm 5) (.cons (.nm 6) (.cons (.nm 7) (.nil))))))) (.var 0)) (.cons (.par [8, 9] (.cons (.comp (.bin .add (.bin .add (.bin .mul (.var 15) (.var 1)) (.bin .mul (.var 16) (.var 2))) (.var 17)) (.tup (.cons (.nm 15) (.cons (.nm 16) (.cons (.nm 17) (.nil))))) (.seq (.var 6)) [15, 16, 17] (.nil)) (.cons (.comp (.bin .add (.bin .add (.bin .mul (.var 15) (.var 1)) (.bin .mul (.var 16) (.var 2))) (.var 17)) (.tup (.cons (.nm 15) (.cons (.nm 16) (.cons (.nm 17) (.nil))))) (.seq (.var 7)) [15, 16, 17] (.nil)) .nil))) (.cons (.ifs (.val (.cmp .lt (.blt .min1 (.cons (.bin .add (.var 8) (.lst (.cons (.cst (.int 0)) .nil))) .nil)) (.cst (.int 0)))) (.cons (.ret (.cst (.non))) (.nil)) (.nil)) (.cons (.ifs (.val (.cmp .lt (.blt .min1 (.cons (.bin .add (.var 9) (.lst (.cons (.cst (.int 0)) .nil))) .nil)) (.cst (.int 0)))) (.cons (.ret (.tup (.cons (.cst (.int 0)) (.cons (.cst (.int 1)) .nil)))) (.nil)) (.nil)) (.cons (.asg (.tup (.cons (.nm 10) (.cons (.nm 11) (.nil)))) (.tup (.cons (.cst (.int 1)) (.cons (.cst (.int 1)) .nil)))) (.cons (.for (.nm 12) (.seq (.var 8)) (.cons (.set 10 (.bin .mul (.var 10) (.call 27 (.cons (.var 12) .nil)))) (.nil))) (.cons (.for (.nm 12) (.seq (.var 9)) (.cons (.set 11 (.bin .mul (.var 11) (.call 27 (.cons (.var 12) .nil)))) (.nil))) (.cons (.set 13 (.call 24 (.cons (.call 25 (.cons (.var 3) (.cons (.tup (.cons (.var 1) (.cons (.cst (.int 1)) .nil))) (.cons (.tup (.cons (.var 2) (.cons (.cst (.int 1)) .nil))) .nil)))) (.cons (.call 26 (.cons (.var 10) (.cons (.var 11) .nil))) .nil)))) (.cons (.for (.nm 14) (.rng1 (.var 1)) (.cons (.set 13 (.call 24 (.cons (.var 13) (.cons (.var 4) .nil)))) (.nil))) (.cons (.for (.nm 14) (.rng1 (.blt .abs (.cons (.var 2) .nil))) (.cons (.set 13 (.call 24 (.cons (.var 13) (.cons (.ifx (.val (.cmp .gt (.var 2) (.cst (.int 0)))) (.var 5) (.call 26 (.cons (.idx (.var 5) (.cst (.int 1))) (.cons (.idx (.var 5) (.cst (.int 0))) .nil)))) .nil)))) (.nil))) (.cons (.ret (.var 13)) (.nil)))))))))))
def f13 : Fn := ⟨("_law_at" : PySem.Str), ("_law_at" : PySem.Str), true, 3, [("term" : PySem.Str), ("n" : PySem.Str), ("k" : PySem.Str), ("polynomial" : PySem.Str), ("x" : PySem.Str), ("y" : PySem.Str), ("tops" : PySem.Str), ("bottoms" : PySem.Str), ("up" : PySem.Str), ("down" : PySem.Str), ("top" : PySem.Str), ("bottom" : PySem.Str), ("number" : PySem.Str), ("found" : PySem.Str), ("step" : PySem.Str), ("a" : PySem.Str), ("b" : PySem.Str), ("c" : PySem.Str)], b13⟩
/-- _law_b_drawn -/
def b14 : Ss := .cons (.ret (.call 28 (.cons (.comp (.call 29 (.cons (.var 0) (.cons (.var 2) (.cons (.var 3) .nil)))) (.nm 4) (.rng1 (.call 2 (.cons (.var 0) (.cons (.bin .add (.var 1) (.cst (.int 2))) .nil)))) [4] (.nil)) .nil))) (.nil)
def f14 : Fn := ⟨("_law_b_drawn" : PySem.Str), ("_law_b_drawn" : PySem.Str), true, 4, [("well" : PySem.Str), ("many" : PySem.Str), ("high" : PySem.Str), ("size" : PySem.Str), ("j" : PySem.Str)], b14⟩
/-- within -/
def b15 : Ss := .cons (.ret (.andv (.cons (.call 30 (.cons (.var 0) .nil)) (.cons (.chain .le .le (.var 1) (.var 0) (.var 2)) .nil)))) (.nil)
def f15 : Fn := ⟨("within" : PySem.Str), ("within" : PySem.Str), true, 3, [("thing" : PySem.Str), ("least" : PySem.Str), ("most" : PySem.Str)], b15⟩
/-- is_row -/
def b16 : Ss := .cons (.ret (.andv (.cons (.isi .tuple (.var 0)) (.cons (.chain .le .le (.var 1) (.blt .len (.cons (.var 0) .nil)) (.var 2)) .nil)))) (.nil)
def f16 : Fn := ⟨("is_row" : PySem.Str), ("is_row" : PySem.Str), true, 3, [("thing" : PySem.Str), ("least" : PySem.Str), ("most" : PySem.Str)], b16⟩
/-- _law_plus -/
def b17 : Ss := .cons (.ret (.call 26 (.cons (.bin .add (.bin .mul (.idx (.var 0) (.cst (.int 0))) (.idx (.var 1) (.cst (.int 1)))) (.bin .mul (.idx (.var 1) (.cst (.int 0))) (.idx (.var 0) (.cst (.int 1))))) (.cons (.bin .mul (.idx (.var 0) (.cst (.int 1))) (.idx (.var 1) (.cst (.int 1)))) .nil)))) (.nil)
def f17 : Fn := ⟨("_law_plus" : PySem.Str), ("_law_plus" : PySem.Str), true, 2, [("r" : PySem.Str), ("s" : PySem.Str)], b17⟩
/-- need_double_term -/
def b18 : Ss := .cons (.ifs (.nt (.val (.call 31 (.cons (.var 0) .nil)))) (.cons (.raise 0) (.nil)) (.nil)) (.nil)
def f18 : Fn := ⟨("need_double_term" : PySem.Str), ("need_double_term" : PySem.Str), true, 1, [("term" : PySem.Str)], b18⟩
/-- need_range -/
def b19 : Ss := .cons (.ifs (.nt (.val (.call 8 (.cons (.var 0) .nil)))) (.cons (.raise 1) (.nil)) (.nil)) (.nil)
def f19 : Fn := ⟨("need_range" : PySem.Str), ("need_range" : PySem.Str), true, 1, [("span" : PySem.Str)], b19⟩
/-- is_suited -/
def b20 : Ss := .cons (.asg (.tup (.cons (.nm 2) (.cons (.nm 3) (.cons (.nm 4) (.nil))))) (.var 1)) (.cons (.for (.tup (.cons (.nm 5) (.cons (.nm 6) (.cons (.nm 7) (.nil))))) (.seq (.idx (.var 0) (.cst (.int 3)))) (.cons (.ifs (.or (.cons (.val (.cmp .lt (.bin .add (.bin .mul (.var 6) (.var 2)) (.var 7)) (.cst (.int 0)))) (.cons (.val (.cmp .lt (.bin .add (.bin .mul (.var 6) (.bin .add (.var 4) (.cst (.int 1)))) (.var 7)) (.cst (.int 0)))) (.cons (.val (.cmp .lt (.bin .add (.var 5) (.bin .mul (.var 6) (.var 3))) (.cst (.int 0)))) (.nil))))) (.cons (.ret (.cst (.bl false))) (.nil)) (.nil)) (.nil))) (.cons (.ret (.cst (.bl true))) (.nil)))
def f20 : Fn := ⟨("is_suited" : PySem.Str), ("is_suited" : PySem.Str), true, 2, [("term" : PySem.Str), ("span" : PySem.Str), ("low" : PySem.Str), ("slope" : PySem.Str), ("start" : PySem.Str), ("a" : PySem.Str), ("b" : PySem.Str), ("c" : PySem.Str)], b20⟩
/-- need_suited -/
def b21 : Ss := .cons (.ifs (.nt (.val (.call 11 (.cons (.var 0) (.cons (.var 1) .nil))))) (.cons (.raise 2) (.nil)) (.nil)) (.nil)
def f21 : Fn := ⟨("need_suited" : PySem.Str), ("need_suited" : PySem.Str), true, 2, [("term" : PySem.Str), ("span" : PySem.Str)], b21⟩
/-- need_index -/
def b22 : Ss := .cons (.ifs (.nt (.val (.call 15 (.cons (.var 0) (.cons (.cst (.int 0)) (.cons (.glob 2) .nil)))))) (.cons (.raise 3) (.nil)) (.nil)) (.nil)
def f22 : Fn := ⟨("need_index" : PySem.Str), ("need_index" : PySem.Str), true, 1, [("n" : PySem.Str)], b22⟩
/-- sum_at -/
def b23 : Ss := .cons (.ret (.call 32 (.cons (.var 0) (.cons (.var 2) (.cons (.idx (.var 1) (.cst (.int 0))) (.cons (.bin .add (.bin .mul (.idx (.var 1) (.cst (.int 1))) (.var 2)) (.idx (.var 1) (.cst (.int 2)))) .nil)))))) (.nil)
def f23 : Fn := ⟨("sum_at" : PySem.Str), ("sum_at" : PySem.Str), true, 3, [("term" : PySem.Str), ("span" : PySem.Str), ("n" : PySem.Str)], b23⟩
/-- _law_times -/
def b24 : Ss := .cons (.ret (.call 26 (.cons (.bin .mul (.idx (.var 0) (.cst (.int 0))) (.idx (.var 1) (.cst (.int 0)))) (.cons (.bin .mul (.idx (.var 0) (.cst (.int 1))) (.idx (.var 1) (.cst (.int 1)))) .nil)))) (.nil)
def f24 : Fn := ⟨("_law_times" : PySem.Str), ("_law_times" : PySem.Str), true, 2, [("r" : PySem.Str), ("s" : PySem.Str)], b24⟩
/-- _law_b_value -/
def b25 : Ss := .cons (.set 3 (.tup (.cons (.cst (.int 0)) (.cons (.cst (.int 1)) .nil)))) (.cons (.for (.nm 4) (.rngd (.bin .sub (.blt .len (.cons (.var 0) .nil)) (.cst (.int 1))) (.neg (.cst (.int 1)))) (.cons (.set 3 (.call 17 (.cons (.call 24 (.cons (.var 3) (.cons (.var 2) .nil))) (.cons (.call 33 (.cons (.idx (.var 0) (.var 4)) (.cons (.var 1) .nil))) .nil)))) (.nil))) (.cons (.ret (.var 3)) (.nil)))
def f25 : Fn := ⟨("_law_b_value" : PySem.Str), ("_law_b_value" : PySem.Str), true, 3, [("p" : PySem.Str), ("r" : PySem.Str), ("s" : PySem.Str), ("found" : PySem.Str), ("j" : PySem.Str)], b25⟩
/-- _law_ratio -/
def b26 : Ss := .cons (.ifs (.val (.cmp .lt (.var 1) (.cst (.int 0)))) (.cons (.par [0, 1] (.cons (.bin .sub (.cst (.int 0)) (.var 0)) (.cons (.bin .sub (.cst (.int 0)) (.var 1)) .nil))) (.nil)) (.nil)) (.cons (.set 2 (.call 34 (.cons (.var 0) (.cons (.var 1) .nil)))) (.cons (.ret (.tup (.cons (.bin .fdiv (.var 0) (.var 2)) (.cons (.bin .fdiv (.var 1) (.var 2)) .nil)))) (.nil)))
def f26 : Fn := ⟨("_law_ratio" : PySem.Str), ("_law_ratio" : PySem.Str), true, 2, [("top" : PySem.Str), ("bottom" : PySem.Str), ("shared" : PySem.Str)], b26⟩
/-- _law_factorial -/
def b27 : Ss := .cons (.set 1 (.cst (.int 1))) (.cons (.for (.nm 2) (.rng2 (.cst (.int 2)) (.bin .add (.var 0) (.cst (.int 1)))) (.cons (.set 1 (.bin .mul (.var 1) (.var 2))) (.nil))) (.cons (.ret (.var 1)) (.nil)))
def f27 : Fn := ⟨("_law_factorial" : PySem.Str), ("_law_factorial" : PySem.Str), true, 1, [("number" : PySem.Str), ("found" : PySem.Str), ("k" : PySem.Str)], b27⟩
/-- _law_b_cut -/
def b28 : Ss := .cons (.set 1 (.blt .len (.cons (.var 0) .nil))) (.cons (.for (.nm 2) (.rng1 (.blt .len (.cons (.var 0) .nil))) (.cons (.ifs (.an (.cons (.val (.cmp .gt (.var 1) (.cst (.int 0)))) (.cons (.val (.cmp .eq (.idx (.var 0) (.bin .sub (.var 1) (.cst (.int 1)))) (.tup (.nil)))) (.nil)))) (.cons (.set 1 (.bin .sub (.var 1) (.cst (.int 1)))) (.nil)) (.nil)) (.nil))) (.cons (.ret (.blt .tuple1 (.cons (.slc2 (.var 0) (.var 1)) .nil))) (.nil)))
def f28 : Fn := ⟨("_law_b_cut" : PySem.Str), ("_law_b_cut" : PySem.Str), true, 1, [("rows" : PySem.Str), ("size" : PySem.Str), ("k" : PySem.Str)], b28⟩
/-- _law_drawn -/
def b29 : Ss := .cons (.ret (.call 35 (.cons (.comp (.call 36 (.cons (.var 0) (.cons (.var 2) .nil))) (.nm 3) (.rng1 (.call 2 (.cons (.var 0) (.cons (.bin .add (.var 1) (.cst (.int 2))) .nil)))) [3] (.nil)) .nil))) (.nil)
def f29 : Fn := ⟨("_law_drawn" : PySem.Str), ("_law_drawn" : PySem.Str), true, 3, [("well" : PySem.Str), ("high" : PySem.Str), ("size" : PySem.Str), ("k" : PySem.Str)], b29⟩
/-- is_int -/
def b30 : Ss := .cons (.ret (.andv (.cons (.isi .int (.var 0)) (.cons (.notv (.isi .bool (.var 0))) .nil)))) (.nil)
def f30 : Fn := ⟨("is_int" : PySem.Str), ("is_int" : PySem.Str), true, 1, [("thing" : PySem.Str)], b30⟩
/-- is_double_term -/
def b31 : Ss := .cons (.ifs (.or (.cons (.nt (.val (.call 16 (.cons (.var 0) (.cons (.cst (.int 5)) (.cons (.cst (.int 5)) .nil)))))) (.cons (.nt (.val (.call 38 (.cons (.idx (.var 0) (.cst (.int 0))) .nil)))) (.cons (.val (.cmp .eq (.idx (.var 0) (.cst (.int 0))) (.tup (.nil)))) (.nil))))) (.cons (.ret (.cst (.bl false))) (.nil)) (.nil)) (.cons (.ifs (.nt (.val (.blt .all1 (.cons (.comp (.andv (.cons (.call 39 (.cons (.var 1) .nil)) (.cons (.cmp .ne (.var 1) (.glob 3)) .nil))) (.nm 1) (.seq (.slc3 (.var 0) (.cst (.int 1)) (.cst (.int 3)))) [1] (.nil)) .nil)))) (.cons (.ret (.cst (.bl false))) (.nil)) (.nil)) (.cons (.ret (.andv (.cons (.call 37 (.cons (.idx (.var 0) (.cst (.int 3))) (.cons (.cst (.int 0)) .nil))) (.cons (.call 37 (.cons (.idx (.var 0) (.cst (.int 4))) (.cons (.neg (.glob 4)) .nil))) .nil)))) (.nil)))
def f31 : Fn := ⟨("is_double_term" : PySem.Str), ("is_double_term" : PySem.Str), true, 1, [("thing" : PySem.Str), ("r" : PySem.Str)], b31⟩
/-- sum_between -/
def b32 : Ss := .cons (.set 4 (.glob 3)) (.cons (.for (.nm 5) (.rng2 (.var 2) (.bin .add (.var 3) (.cst (.int 1)))) (.cons (.set 4 (.call 40 (.cons (.var 4) (.cons (.call 41 (.cons (.var 0) (.cons (.var 1) (.cons (.var 5) .nil)))) .nil)))) (.nil))) (.cons (.ret (.var 4)) (.nil)))
def f32 : Fn := ⟨("sum_between" : PySem.Str), ("sum_between" : PySem.Str), true, 4, [("term" : PySem.Str), ("n" : PySem.Str), ("low" : PySem.Str), ("high" : PySem.Str), ("found" : PySem.Str), ("k" : PySem.Str)], b32⟩
/-- _law_value -/
def b33 : Ss := .cons (.set 2 (.tup (.cons (.cst (.int 0)) (.cons (.cst (.int 1)) .nil)))) (.cons (.for (.nm 3) (.rngd (.bin .sub (.blt .len (.cons (.var 0) .nil)) (.cst (.int 1))) (.neg (.cst (.int 1)))) (.cons (.set 2 (.call 17 (.cons (.call 24 (.cons (.var 2) (.cons (.var 1) .nil))) (.cons (.idx (.var 0) (.var 3)) .nil)))) (.nil))) (.cons (.ret (.var 2)) (.nil)))
def f33 : Fn := ⟨("_law_value" : PySem.Str), ("_law_value" : PySem.Str), true, 2, [("p" : PySem.Str), ("r" : PySem.Str), ("found" : PySem.Str), ("k" : PySem.Str)], b33⟩
/-- _law_gcd -/
def b34 : Ss := .cons (.par [0, 1] (.cons (.blt .abs (.cons (.var 0) .nil)) (.cons (.blt .abs (.cons (.var 1) .nil)) .nil))) (.cons (.whl (.val (.cmp .ne (.var 1) (.cst (.int 0)))) (.cons (.par [0, 1] (.cons (.var 1) (.cons (.bin .mod (.blt .int1 (.cons (.var 0) .nil)) (.var 1)) .nil))) (.nil))) (.cons (.ret (.var 0)) (.nil)))
def f34 : Fn := ⟨("_law_gcd" : PySem.Str), ("_law_gcd" : PySem.Str), true, 2, [("one" : PySem.Str), ("other" : PySem.Str)], b34⟩
/-- _law_cut -/
def b35 : Ss := .cons (.set 1 (.blt .len (.cons (.var 0) .nil))) (.cons (.for (.nm 2) (.rng1 (.blt .len (.cons (.var 0) .nil))) (.cons (.ifs (.an (.cons (.val (.cmp .gt (.var 1) (.cst (.int 0)))) (.cons (.val (.cmp .eq (.idx (.idx (.var 0) (.bin .sub (.var 1) (.cst (.int 1)))) (.cst (.int 0))) (.cst (.int 0)))) (.nil)))) (.cons (.set 1 (.bin .sub (.var 1) (.cst (.int 1)))) (.nil)) (.nil)) (.nil))) (.cons (.ret (.blt .tuple1 (.cons (.slc2 (.var 0) (.var 1)) .nil))) (.nil)))
def f35 : Fn := ⟨("_law_cut" : PySem.Str), ("_law_cut" : PySem.Str), true, 1, [("row" : PySem.Str), ("size" : PySem.Str), ("k" : PySem.Str)], b35⟩
/-- _law_ratio_drawn -/
def b36 : Ss := .cons (.ret (.call 26 (.cons (.bin .sub (.call 2 (.cons (.var 0) (.cons (.bin .add (.bin .mul (.cst (.int 2)) (.var 1)) (.cst (.int 1))) .nil))) (.var 1)) (.cons (.bin .add (.cst (.int 1)) (.call 2 (.cons (.var 0) (.cons (.idx (.lst (.cons (.cst (.int 1)) (.cons (.cst (.int 1)) (.cons (.cst (.int 2)) (.cons (.cst (.int 5)) .nil))))) (.call 2 (.cons (.var 0) (.cons (.cst (.int 4)) .nil)))) .nil)))) .nil)))) (.nil)
def f36 : Fn := ⟨("_law_ratio_drawn" : PySem.Str), ("_law_ratio_drawn" : PySem.Str), true, 2, [("well" : PySem.Str), ("size" : PySem.Str)], b36⟩
/-- are_triples -/
def b37 : Ss := .cons (.ret (.andv (.cons (.call 16 (.cons (.var 0) (.cons (.cst (.int 0)) (.cons (.glob 5) .nil)))) (.cons (.blt .all1 (.cons (.comp (.call 42 (.cons (.var 2) (.cons (.var 1) .nil))) (.nm 2) (.seq (.var 0)) [2] (.nil)) .nil)) .nil)))) (.nil)
def f37 : Fn := ⟨("are_triples" : PySem.Str), ("are_triples" : PySem.Str), true, 2, [("thing" : PySem.Str), ("least" : PySem.Str), ("entry" : PySem.Str)], b37⟩
/-- is_double -/
def b38 : Ss := .cons (.ifs (.or (.cons (.nt (.val (.isi .tuple (.var 0)))) (.cons (.nt (.val (.blt .all1 (.cons (.comp (.call 43 (.cons (.var 1) .nil)) (.nm 1) (.seq (.var 0)) [1] (.nil)) .nil)))) (.nil)))) (.cons (.ret (.cst (.bl false))) (.nil)) (.nil)) (.cons (.ret (.orv (.cons (.cmp .eq (.var 0) (.tup (.nil))) (.cons (.cmp .ne (.idx (.var 0) (.neg (.cst (.int 1)))) (.tup (.nil))) .nil)))) (.nil))
def f38 : Fn := ⟨("is_double" : PySem.Str), ("is_double" : PySem.Str), true, 1, [("thing" : PySem.Str), ("one" : PySem.Str)], b38⟩
/-- is_ratio -/
def b39 : Ss := .cons (.ifs (.or (.cons (.nt (.val (.call 16 (.cons (.var 0) (.cons (.cst (.int 2)) (.cons (.cst (.int 2)) .nil)))))) (.cons (.nt (.val (.call 30 (.cons (.idx (.var 0) (.cst (.int 0))) .nil)))) (.cons (.nt (.val (.call 30 (.cons (.idx (.var 0) (.cst (.int 1))) .nil)))) (.nil))))) (.cons (.ret (.cst (.bl false))) (.nil)) (.nil)) (.cons (.ret (.andv (.cons (.cmp .gt (.idx (.var 0) (.cst (.int 1))) (.cst (.int 0))) (.cons (.cmp .eq (.blt .gcd (.cons (.idx (.var 0) (.cst (.int 0))) (.cons (.idx (.var 0) (.cst (.int 1))) .nil))) (.cst (.int 1))) .nil)))) (.nil))
def f39 : Fn := ⟨("is_ratio" : PySem.Str), ("is_ratio" : PySem.Str), true, 1, [("thing" : PySem.Str)], b39⟩
/-- added -/
def b40 : Ss := .cons (.ifs (.an (.cons (.val (.cmp .eq (.idx (.var 0) (.cst (.int 1))) (.cst (.int 1)))) (.cons (.val (.cmp .eq (.idx (.var 1) (.cst (.int 1))) (.cst (.int 1)))) (.nil)))) (.cons (.ret (.tup (.cons (.bin .add (.idx (.var 0) (.cst (.int 0))) (.idx (.var 1) (.cst (.int 0)))) (.cons (.cst (.int 1)) .nil)))) (.nil)) (.nil)) (.cons (.ret (.call 44 (.cons (.bin .add (.bin .mul (.idx (.var 0) (.cst (.int 0))) (.idx (.var 1) (.cst (.int 1)))) (.bin .mul (.idx (.var 1) (.cst (.int 0))) (.idx (.var 0) (.cst (.int 1))))) (.cons (.bin .mul (.idx (.var 0) (.cst (.int 1))) (.idx (.var 1) (.cst (.int 1)))) .nil)))) (.nil))
def f40 : Fn := ⟨("added" : PySem.Str), ("added" : PySem.Str), true, 2, [("r" : PySem.Str), ("s" : PySem.Str)], b40⟩
/-- term_value -/
def b41 : Ss := .cons (.set 3 (.comp (.call 46 (.cons (.var 6) (.cons (.var 1) (.cons (.var 2) .nil)))) (.nm 6) (.seq (.idx (.var 0) (.cst (.int 3)))) [6] (.nil))) (.cons (.set 4 (.comp (.call 46 (.cons (.var 6) (.cons (.var 1) (.cons (.var 2) .nil)))) (.nm 6) (.seq (.idx (.var 0) (.cst (.int 4)))) [6] (.nil))) (.cons (.ifs (.val (.cmp .lt (.bltd .min1 (.cons (.var 3) .nil) (.cst (.int 0))) (.cst (.int 0)))) (.cons (.ret (.cst (.non))) (.nil)) (.nil)) (.cons (.ifs (.val (.cmp .lt (.bltd .min1 (.cons (.var 4) .nil) (.cst (.int 0))) (.cst (.int 0)))) (.cons (.ret (.glob 3)) (.nil)) (.nil)) (.cons (.set 5 (.call 45 (.cons (.call 47 (.cons (.idx (.var 0) (.cst (.int 0))) (.cons (.call 44 (.cons (.var 1) (.cons (.cst (.int 1)) .nil))) (.cons (.call 44 (.cons (.var 2) (.cons (.cst (.int 1)) .nil))) .nil)))) (.cons (.call 44 (.cons (.call 48 (.cons (.var 3) .nil)) (.cons (.call 48 (.cons (.var 4) .nil)) .nil))) .nil)))) (.cons (.ret (.call 45 (.cons (.var 5) (.cons (.call 45 (.cons (.call 49 (.cons (.idx (.var 0) (.cst (.int 1))) (.cons (.var 1) .nil))) (.cons (.call 49 (.cons (.idx (.var 0) (.cst (.int 2))) (.cons (.var 2) .nil))) .nil))) .nil)))) (.nil))))))
def f41 : Fn := ⟨("term_value" : PySem.Str), ("term_value" : PySem.Str), true, 3, [("term" : PySem.Str), ("n" : PySem.Str), ("k" : PySem.Str), ("tops" : PySem.Str), ("bottoms" : PySem.Str), ("found" : PySem.Str), ("triple" : PySem.Str)], b41⟩
/-- is_triple -/
def b42 : Ss := .cons (.ifs (.or (.cons (.nt (.val (.call 16 (.cons (.var 0) (.cons (.cst (.int 3)) (.cons (.cst (.int 3)) .nil)))))) (.cons (.nt (.val (.call 15 (.cons (.idx (.var 0) (.cst (.int 0))) (.cons (.var 1) (.cons (.glob 4) .nil)))))) (.nil)))) (.cons (.ret (.cst (.bl false))) (.nil)) (.nil)) (.cons (.ret (.andv (.cons (.call 15 (.cons (.idx (.var 0) (.cst (.int 1))) (.cons (.neg (.glob 4)) (.cons (.glob 4) .nil)))) (.cons (.call 15 (.cons (.idx (.var 0) (.cst (.int 2))) (.cons (.neg (.glob 1)) (.cons (.glob 1) .nil)))) .nil)))) (.nil))
def f42 : Fn := ⟨("is_triple" : PySem.Str), ("is_triple" : PySem.Str), true, 2, [("thing" : PySem.Str), ("least" : PySem.Str)], b42⟩
/-- is_polynomial -/
def b43 : Ss := .cons (.ifs (.or (.cons (.nt (.val (.isi .tuple (.var 0)))) (.cons (.nt (.val (.blt .all1 (.cons (.comp (.call 39 (.cons (.var 1) .nil)) (.nm 1) (.seq (.var 0)) [1] (.nil)) .nil)))) (.nil)))) (.cons (.ret (.cst (.bl false))) (.nil)) (.nil)) (.cons (.ret (.orv (.cons (.cmp .eq (.var 0) (.tup (.nil))) (.cons (.cmp .ne (.idx (.var 0) (.neg (.cst (.int 1)))) (.glob 3)) .nil)))) (.nil))
def f43 : Fn := ⟨("is_polynomial" : PySem.Str), ("is_polynomial" : PySem.Str), true, 1, [("thing" : PySem.Str), ("r" : PySem.Str)], b43⟩
/-- lowest -/
def b44 : Ss := .cons (.set 2 (.blt .gcd (.cons (.var 0) (.cons (.var 1) .nil)))) (.cons (.ifs (.val (.cmp .lt (.var 1) (.cst (.int 0)))) (.cons (.set 2 (.neg (.var 2))) (.nil)) (.nil)) (.cons (.ret (.tup (.cons (.bin .fdiv (.var 0) (.var 2)) (.cons (.bin .fdiv (.var 1) (.var 2)) .nil)))) (.nil)))
def f44 : Fn := ⟨("lowest" : PySem.Str), ("lowest" : PySem.Str), true, 2, [("top" : PySem.Str), ("bottom" : PySem.Str), ("shared" : PySem.Str)], b44⟩
/-- multiplied -/
def b45 : Ss := .cons (.ifs (.an (.cons (.val (.cmp .eq (.idx (.var 0) (.cst (.int 1))) (.cst (.int 1)))) (.cons (.val (.cmp .eq (.idx (.var 1) (.cst (.int 1))) (.cst (.int 1)))) (.nil)))) (.cons (.ret (.tup (.cons (.bin .mul (.idx (.var 0) (.cst (.int 0))) (.idx (.var 1) (.cst (.int 0)))) (.cons (.cst (.int 1)) .nil)))) (.nil)) (.nil)) (.cons (.ret (.call 44 (.cons (.bin .mul (.idx (.var 0) (.cst (.int 0))) (.idx (.var 1) (.cst (.int 0)))) (.cons (.bin .mul (.idx (.var 0) (.cst (.int 1))) (.idx (.var 1) (.cst (.int 1)))) .nil)))) (.nil))
def f45 : Fn := ⟨("multiplied" : PySem.Str), ("multiplied" : PySem.Str), true, 2, [("r" : PySem.Str), ("s" : PySem.Str)], b45⟩
/-- number_of -/
def b46 : Ss := .cons (.ret (.bin .add (.bin .add (.bin .mul (.idx (.var 0) (.cst (.int 0))) (.var 1)) (.bin .mul (.idx (.var 0) (.cst (.int 1))) (.var 2))) (.idx (.var 0) (.cst (.int 2))))) (.nil)
def f46 : Fn := ⟨("number_of" : PySem.Str), ("number_of" : PySem.Str), true, 3, [("triple" : PySem.Str), ("n" : PySem.Str), ("k" : PySem.Str)], b46⟩
/-- b_value -/
def b47 : Ss := .cons (.set 3 (.glob 3)) (.cons (.for (.nm 4) (.seq (.rev (.var 0))) (.cons (.set 3 (.call 40 (.cons (.call 45 (.cons (.var 3) (.cons (.var 2) .nil))) (.cons (.call 50 (.cons (.var 4) (.cons (.var 1) .nil))) .nil)))) (.nil))) (.cons (.ret (.var 3)) (.nil)))
def f47 : Fn := ⟨("b_value" : PySem.Str), ("b_value" : PySem.Str), true, 3, [("p" : PySem.Str), ("r" : PySem.Str), ("s" : PySem.Str), ("found" : PySem.Str), ("one" : PySem.Str)], b47⟩
/-- factorials -/
def b48 : Ss := .cons (.set 1 (.cst (.int 1))) (.cons (.for (.nm 2) (.seq (.var 0)) (.cons (.aug 1 .mul (.blt .fact (.cons (.var 2) .nil))) (.nil))) (.cons (.ret (.var 1)) (.nil)))
def f48 : Fn := ⟨("factorials" : PySem.Str), ("factorials" : PySem.Str), true, 1, [("numbers" : PySem.Str), ("found" : PySem.Str), ("number" : PySem.Str)], b48⟩
/-- power_of -/
def b49 : Ss := .cons (.ret (.ifx (.val (.cmp .ge (.var 1) (.cst (.int 0)))) (.call 51 (.cons (.var 0) (.cons (.var 1) .nil))) (.call 51 (.cons (.call 52 (.cons (.var 0) .nil)) (.cons (.neg (.var 1)) .nil))))) (.nil)
def f49 : Fn := ⟨("power_of" : PySem.Str), ("power_of" : PySem.Str), true, 2, [("r" : PySem.Str), ("k" : PySem.Str)], b49⟩
/-- p_value -/
def b50 : Ss := .cons (.ret (.call 53 (.cons (.make 0 (.nil)) (.cons (.var 0) (.cons (.var 1) .nil))))) (.nil)
def f50 : Fn := ⟨("p_value" : PySem.Str), ("p_value" : PySem.Str), true, 2, [("p" : PySem.Str), ("c" : PySem.Str)], b50⟩
/-- raised -/
def b51 : Ss := .cons (.par [2, 3] (.cons (.glob 6) (.cons (.var 0) .nil))) (.cons (.whl (.val (.cmp .gt (.var 1) (.cst (.int 0)))) (.cons (.ifs (.val (.cmp .eq (.bin .mod (.var 1) (.cst (.int 2))) (.cst (.int 1)))) (.cons (.set 2 (.tup (.cons (.bin .mul (.idx (.var 2) (.cst (.int 0))) (.idx (.var 3) (.cst (.int 0)))) (.cons (.bin .mul (.idx (.var 2) (.cst (.int 1))) (.idx (.var 3) (.cst (.int 1)))) .nil)))) (.nil)) (.nil)) (.cons (.aug 1 .fdiv (.cst (.int 2))) (.cons (.ifs (.val (.cmp .gt (.var 1) (.cst (.int 0)))) (.cons (.set 3 (.tup (.cons (.bin .mul (.idx (.var 3) (.cst (.int 0))) (.idx (.var 3) (.cst (.int 0)))) (.cons (.bin .mul (.idx (.var 3) (.cst (.int 1))) (.idx (.var 3) (.cst (.int 1)))) .nil)))) (.nil)) (.nil)) (.nil))))) (.cons (.ret (.var 2)) (.nil)))
def f51 : Fn := ⟨("raised" : PySem.Str), ("raised" : PySem.Str), true, 2, [("r" : PySem.Str), ("k" : PySem.Str), ("found" : PySem.Str), ("square" : PySem.Str)], b51⟩
/-- inverse -/
def b52 : Ss := .cons (.ret (.ifx (.val (.cmp .gt (.idx (.var 0) (.cst (.int 0))) (.cst (.int 0)))) (.tup (.cons (.idx (.var 0) (.cst (.int 1))) (.cons (.idx (.var 0) (.cst (.int 0))) .nil))) (.tup (.cons (.neg (.idx (.var 0) (.cst (.int 1)))) (.cons (.neg (.idx (.var 0) (.cst (.int 0)))) .nil))))) (.nil)
def f52 : Fn := ⟨("inverse" : PySem.Str), ("inverse" : PySem.Str), true, 1, [("r" : PySem.Str)], b52⟩
/-- d_value -/
def b53 : Ss := .cons (.set 3 (.fld (.var 0) 0)) (.cons (.for (.nm 4) (.seq (.rev (.var 1))) (.cons (.set 3 (.meth (.var 0) 1 (.cons (.meth (.var 0) 2 (.cons (.var 3) (.cons (.var 2) .nil))) (.cons (.var 4) .nil)))) (.nil))) (.cons (.ret (.var 3)) (.nil)))
def f53 : Fn := ⟨("d_value" : PySem.Str), ("d_value" : PySem.Str), true, 3, [("field" : PySem.Str), ("p" : PySem.Str), ("c" : PySem.Str), ("found" : PySem.Str), ("a" : PySem.Str)], b53⟩
/-- RatioField.plus -/
def b54 : Ss := .cons (.ret (.call 40 (.cons (.var 1) (.cons (.var 2) .nil)))) (.nil)
def f54 : Fn := ⟨("plus" : PySem.Str), ("RatioField.plus" : PySem.Str), false, 3, [("self" : PySem.Str), ("a" : PySem.Str), ("b" : PySem.Str)], b54⟩
/-- RatioField.times -/
def b55 : Ss := .cons (.ret (.call 45 (.cons (.var 1) (.cons (.var 2) .nil)))) (.nil)
def f55 : Fn := ⟨("times" : PySem.Str), ("RatioField.times" : PySem.Str), false, 3, [("self" : PySem.Str), ("a" : PySem.Str), ("b" : PySem.Str)], b55⟩
def cl : List QQ.Cls := [⟨("RatioField" : PySem.Str), [(0, .tup [.int 0, .int 1]), (3, .tup [.int 1, .int 1])], [(1, 54), (2, 55)], none, []⟩]
def P : Prog := { fns := [f0, f1, f2, f3, f4, f5, f6, f7, f8, f9, f10, f11, f12, f13, f14, f15, f16, f17, f18, f19, f20, f21, f22, f23, f24, f25, f26, f27, f28, f29, f30, f31, f32, f33, f34, f35, f36, f37, f38, f39, f40, f41, f42, f43, f44, f45, f46, f47, f48, f49, f50, f51, f52, f53, f54, f55], cls := cl, cst := [(("MOST_SLOPE_doublesums" : PySem.Str), .int 3), (("MOST_START" : PySem.Str), .int 20), (("MOST_INDEX" : PySem.Str), .int 400), (("ZERO" : PySem.Str), .tup [.int 0, .int 1]), (("MOST_SLOPE_doubleterms" : PySem.Str), .int 3), (("MOST_TRIPLES" : PySem.Str), .int 6), (("ONE" : PySem.Str), .tup [.int 1, .int 1])], exc := [(("BadDoubleTerm" : PySem.Str), [0, 4]), (("BadRange" : PySem.Str), [1, 4]), (("NotSuited" : PySem.Str), [2, 4]), (("BadIndex" : PySem.Str), [3, 4]), (("SumError" : PySem.Str), [4])], attr := [("zero" : PySem.Str), ("plus" : PySem.Str), ("times" : PySem.Str), ("one" : PySem.Str)], free := [("range" : PySem.Str), ("any" : PySem.Str), ("len" : PySem.Str), ("list" : PySem.Str), ("int" : PySem.Str), ("abs" : PySem.Str), ("all" : PySem.Str), ("isinstance" : PySem.Str), ("bool" : PySem.Str), ("tuple" : PySem.Str), ("min" : PySem.Str)], imp := [(("gcd" : PySem.Str), "math.gcd"), (("factorial" : PySem.Str), "math.factorial")], kwt := [(11, 0, [some ("span" : PySem.Str), some ("term" : PySem.Str)], [1, 0]), (12, 0, [some ("n" : PySem.Str), some ("span" : PySem.Str), some ("term" : PySem.Str)], [2, 1, 0]), (8, 0, [some ("thing" : PySem.Str)], [0])], als := [(("inverse_rationals" : PySem.Str), 52)] }

end LW

set_option Elab.async false
set_option linter.all false
set_option maxRecDepth 100000
set_option maxHeartbeats 400000
/-! M0: running the evaluator by lemmas. -/
namespace QQ
open PySem

theorem bind_ok {α β : Type} {a : α} {f : α → R β} : (R.ok a).bind f = f a := rfl
theorem bind_ex {α β : Type} {c : Nat} {p : D} {ρ : Env} {w : W} {f : α → R β} : (R.ex c p ρ w : R α).bind f = .ex c p ρ w := rfl
theorem bind_bad {α β : Type} {f : α → R β} : (R.bad : R α).bind f = .bad := rfl
theorem env_ok {α : Type} {a : α} {ρ : Env} : (R.ok a).env ρ = .ok a := rfl
theorem env_ex {α : Type} {c : Nat} {p : D} {ρ ρ' : Env} {w : W} : (R.ex c p ρ w : R α).env ρ' = .ex c p ρ' w := rfl
theorem env_bad {α : Type} {ρ : Env} : (R.bad : R α).env ρ = .bad := rfl
theorem calm_ok {α : Type} {a : α} : (R.ok a).calm = .ok a := rfl
theorem toP_int {cs : List Cell} {n : Nat} {i : Int} : toP cs n (.int i) = some (.int i) := by cases n <;> rfl
theorem toP_bl {cs : List Cell} {n : Nat} {b : Bool} : toP cs n (.bl b) = some (.bool b) := by cases n <;> rfl
theorem toP_non {cs : List Cell} {n : Nat} : toP cs n .non = some .none := by cases n <;> rfl
theorem toP_str {cs : List Cell} {n : Nat} {x : Str} (h : PyData.strOk x = true) : toP cs n (.str x) = some (.str x) := by
  cases n
  · exact if_pos h
  · exact if_pos h
theorem toP_tup {cs : List Cell} {n : Nat} {ds : List D} : toP cs (n + 1) (.tup ds) = (optAll (ds.map (toP cs n))).map PyData.tuple := rfl
theorem toP_frz {cs : List Cell} {n : Nat} {ds : List D} : toP cs (n + 1) (.frz ds) = (optAll (ds.map (toP cs n))).map PyData.list := rfl
theorem toP_ref {cs : List Cell} {n i : Nat} {ds : List D} (h : cs[i]? = some (.lst ds)) : toP cs (n + 1) (.ref i) = (optAll (ds.map (toP cs n))).map PyData.list := by
  show (match cs[i]? with | some (.lst ds) => (optAll (ds.map (toP cs n))).map PyData.list | _ => none) = _
  rw [h]
theorem fnS_at {P : Prog} {L k f : Nat} {F : Fn} {vs : List D} {w : W} (h : P.fns[f]? = some F) (hl : vs.length = F.np) : fnS P L (k + 1) f vs w = fin w (evSs ⟨P, fnS P L k, L⟩ F.body (vs.map some ++ List.replicate (F.N.length - vs.length) none) ⟨w.cs, w.cs.length⟩) := by
  show (match P.fns[f]? with
    | some F => if vs.length = F.np then fin w (evSs ⟨P, fnS P L k, L⟩ F.body (vs.map some ++ List.replicate (F.N.length - vs.length) none) ⟨w.cs, w.cs.length⟩) else .bad
    | none => .bad) = _
  rw [h]
  exact if_pos hl
theorem cutW_back {w : W} {t : List Cell} {lo : Nat} {f : Bool} (h : w.cs.length ≤ lo) (hf : f = true) : cutW w ⟨w.cs ++ t, lo⟩ f = w := by
  unfold cutW
  rw [if_pos ⟨h, hf⟩]
  simp
theorem cutW_same {w : W} {f : Bool} (hf : f = true) : cutW w ⟨w.cs, w.cs.length⟩ f = w := by
  have := cutW_back (w := w) (t := []) (lo := w.cs.length) (f := f) (Nat.le_refl _) hf
  simpa using this
/-! ### sizes -/
/-- |i| < 2 ^ b -/
def Bd (b : Nat) (i : Int) : Prop := i.natAbs < 2 ^ b
theorem Bd.nb {b : Nat} {i : Int} (h : Bd b i) : nb i ≤ b := by
  unfold QQ.nb
  unfold Bd at h
  by_cases hz : i.natAbs = 0
  · rw [hz]; simp
  · have := (Nat.log2_lt hz).mpr h
    omega
theorem Bd.mono {b c : Nat} {i : Int} (h : Bd b i) (hc : b ≤ c) : Bd c i := Nat.lt_of_lt_of_le h (Nat.pow_le_pow_right (by decide) hc)
theorem Bd.mul {b c : Nat} {i j : Int} (h : Bd b i) (k : Bd c j) : Bd (b + c) (i * j) := by
  unfold Bd at *
  rw [Int.natAbs_mul, Nat.pow_add]
  exact Nat.mul_lt_mul'' h k
theorem Bd.add {b : Nat} {i j : Int} (h : Bd b i) (k : Bd b j) : Bd (b + 1) (i + j) := by
  unfold Bd at *
  have := Int.natAbs_add_le i j
  rw [Nat.pow_succ]
  omega
theorem Bd.neg {b : Nat} {i : Int} (h : Bd b i) : Bd b (-i) := by
  unfold Bd at *
  rwa [Int.natAbs_neg]
theorem Bd.mulOk {b c : Nat} {i j : Int} (h : Bd b i) (k : Bd c j) (hs : b + c < 100000000) : mulOk i j = true := by
  unfold QQ.mulOk
  have h1 := h.nb
  have h2 := k.nb
  have : decide (QQ.nb i + QQ.nb j < 100000000) = true := decide_eq_true (by omega)
  rw [this]
  rfl
/-- the evaluator's word for a loop's turn -/
abbrev turnOf (C : QQ.Ctx) (t : Tg) (b : Ss) : D → QQ.Env → W → R (Fl × QQ.Env × W) := fun d ρ w => (R.calm (evTg C t d ρ w)).bind fun r => evSs C b r.1 r.2
theorem for_nx {turn : D → QQ.Env → W → R (Fl × QQ.Env × W)} {d : D} {ds : List D} {ρ ρ' : QQ.Env} {w w' : W} (h : turn d ρ w = .ok (.nx, ρ', w')) : evFor turn (d :: ds) ρ w = evFor turn ds ρ' w' := by
  show (turn d ρ w).bind _ = _
  rw [h]
  rfl
theorem it_rng2 {C : QQ.Ctx} {ρ : QQ.Env} {a b : E} {w w1 w2 : W} {i j : Int} (h1 : evE C ρ a w = .ok (.int i, w1)) (h2 : evE C ρ b w1 = .ok (.int j, w2)) (b1 : big i = true) (b2 : big j = true) : evIt C ρ (.rng2 a b) w = .ok (.fix (rangeD i (j - i).toNat), w2) := by
  show ((evE C ρ a w).bind fun r => (evE C ρ b r.2).bind fun q => match r.1, q.1 with
    | .int i, .int j => if big i = true ∧ big j = true then R.ok (Src.fix (rangeD i (j - i).toNat), q.2) else R.bad
    | _, _ => R.bad) = _
  rw [h1, bind_ok, h2, bind_ok]
  exact if_pos ⟨b1, b2⟩
theorem it_rngd {C : QQ.Ctx} {ρ : QQ.Env} {a b : E} {w w1 w2 : W} {i j : Int} (h1 : evE C ρ a w = .ok (.int i, w1)) (h2 : evE C ρ b w1 = .ok (.int j, w2)) (b1 : big i = true) (b2 : big j = true) : evIt C ρ (.rngd a b) w = .ok (.fix (rangeM i (i - j).toNat), w2) := by
  show ((evE C ρ a w).bind fun r => (evE C ρ b r.2).bind fun q => match r.1, q.1 with
    | .int i, .int j => if big i = true ∧ big j = true then R.ok (Src.fix (rangeM i (i - j).toNat), q.2) else R.bad
    | _, _ => R.bad) = _
  rw [h1, bind_ok, h2, bind_ok]
  exact if_pos ⟨b1, b2⟩
theorem it_rng1 {C : QQ.Ctx} {ρ : QQ.Env} {a : E} {w w1 : W} {j : Int} (h1 : evE C ρ a w = .ok (.int j, w1)) (b1 : big j = true) : evIt C ρ (.rng1 a) w = .ok (.fix (rangeD 0 j.toNat), w1) := by
  show ((evE C ρ a w).bind fun r => match r.1 with
    | .int j => if big j = true then R.ok (Src.fix (rangeD 0 j.toNat), r.2) else R.bad
    | _ => R.bad) = _
  rw [h1, bind_ok]
  exact if_pos b1
/-! ### step by step -/
section
variable {C : QQ.Ctx} {ρ ρ' : QQ.Env} {w w' : W} {s : S} {ss : Ss} {d : D} {e : E}
theorem ss_nx (h : evS C s ρ w = .ok (.nx, ρ', w')) : evSs C (.cons s ss) ρ w = evSs C ss ρ' w' := by
  show (evS C s ρ w).bind _ = _
  rw [h]
  rfl
theorem ss_rt (h : evS C s ρ w = .ok (.rt d, ρ', w')) : evSs C (.cons s ss) ρ w = .ok (.rt d, ρ', w') := by
  show (evS C s ρ w).bind _ = _
  rw [h]
  rfl
theorem st_set {i : Nat} (h : evE C ρ e w = .ok (d, w')) : evS C (.set i e) ρ w = .ok (.nx, ρ.set i (some d), w') := by
  show ((evE C ρ e w).env ρ).bind _ = _
  rw [h]
  rfl
theorem st_ret (h : evE C ρ e w = .ok (d, w')) : evS C (.ret e) ρ w = .ok (.rt d, ρ, w') := by
  show ((evE C ρ e w).env ρ).bind _ = _
  rw [h]
  rfl
theorem st_ex (h : evE C ρ e w = .ok (d, w')) : evS C (.ex e) ρ w = .ok (.nx, ρ, w') := by
  show ((evE C ρ e w).env ρ).bind _ = _
  rw [h]
  rfl
theorem st_for {t : Tg} {it : QQ.It} {b : Ss} {ds : List D} {r : R (Fl × QQ.Env × W)} (h : evIt C ρ it w = .ok (.fix ds, w')) (h2 : evFor (turnOf C t b) ds ρ w' = r) : evS C (.for t it b) ρ w = r := by
  show ((evIt C ρ it w).env ρ).bind _ = _
  rw [h]
  exact h2
theorem st_ifT {t : T} {a b : Ss} (h : evT C ρ t w = .ok (true, w')) : evS C (.ifs t a b) ρ w = evSs C a ρ w' := by
  show ((evT C ρ t w).env ρ).bind _ = _
  rw [h]
  rfl
theorem st_ifF {t : T} {a b : Ss} (h : evT C ρ t w = .ok (false, w')) : evS C (.ifs t a b) ρ w = evSs C b ρ w' := by
  show ((evT C ρ t w).env ρ).bind _ = _
  rw [h]
  rfl
theorem fn_rt {P : Prog} {L k f lo : Nat} {F : Fn} {vs : List D} {t : List Cell} (hF : P.fns[f]? = some F) (hl : vs.length = F.np) (h : evSs ⟨P, fnS P L k, L⟩ F.body (vs.map some ++ List.replicate (F.N.length - vs.length) none) ⟨w.cs, w.cs.length⟩ = .ok (.rt d, ρ', ⟨w.cs ++ t, lo⟩)) (hlo : w.cs.length ≤ lo) (hf : flat d = true) : fnS P L (k + 1) f vs w = .ok (d, w) := by
  rw [fnS_at hF hl, h]
  show R.ok (d, cutW w ⟨w.cs ++ t, lo⟩ (flat d)) = _
  rw [cutW_back hlo hf]
/-- the same where the store is as it was -/
theorem fn_rt0 {P : Prog} {L k f : Nat} {F : Fn} {vs : List D} (hF : P.fns[f]? = some F) (hl : vs.length = F.np) (h : evSs ⟨P, fnS P L k, L⟩ F.body (vs.map some ++ List.replicate (F.N.length - vs.length) none) ⟨w.cs, w.cs.length⟩ = .ok (.rt d, ρ', ⟨w.cs, w.cs.length⟩)) (hf : flat d = true) : fnS P L (k + 1) f vs w = .ok (d, w) :=
  fn_rt (t := []) (lo := w.cs.length) hF hl (by rw [h, List.append_nil]) (Nat.le_refl _) hf
end
section
variable {C : QQ.Ctx} {ρ ρ' : QQ.Env} {w w' : W} {s : S} {ss : Ss} {d : D} {e : E}
theorem it_seqL {a : E} {n : Nat} {ds : List D} (h : evE C ρ a w = .ok (.ref n, w')) (h2 : w'.lst n = some ds) : evIt C ρ (.seq a) w = .ok (.dyn (fun w => w.lst n), w') := by
  show (evE C ρ a w).bind _ = _
  rw [h]
  show (match w'.lst n with | some _ => R.ok (Src.dyn fun w => w.lst n, w') | none => R.bad) = _
  rw [h2]
theorem it_seqT {a : E} {ds : List D} (h : evE C ρ a w = .ok (.tup ds, w')) : evIt C ρ (.seq a) w = .ok (.fix ds, w') := by
  show (evE C ρ a w).bind _ = _
  rw [h]
  rfl
theorem st_forL {t : Tg} {it : QQ.It} {b : Ss} {f : W → Option (List D)} {r : R (Fl × QQ.Env × W)} (h : evIt C ρ it w = .ok (.dyn f, w')) (h2 : evLive (turnOf C t b) f C.L 0 ρ w' = r) : evS C (.for t it b) ρ w = r := by
  show ((evIt C ρ it w).env ρ).bind _ = _
  rw [h]
  exact h2
theorem live_nx {turn : D → QQ.Env → W → R (Fl × QQ.Env × W)} {f : W → Option (List D)} {ds : List D} {m i : Nat} (h1 : f w = some ds) (h2 : ds[i]? = some d) (h3 : turn d ρ w = .ok (.nx, ρ', w')) : evLive turn f (m + 1) i ρ w = evLive turn f m (i + 1) ρ' w' := by
  show (match f w with | none => R.bad | some ds => match ds[i]? with | none => R.ok (Fl.nx, ρ, w) | some d => (turn d ρ w).bind fun r => match r.1 with
        | .nx => evLive turn f m (i + 1) r.2.1 r.2.2
        | .ct => evLive turn f m (i + 1) r.2.1 r.2.2
        | .bk => .ok (.nx, r.2.1, r.2.2)
        | .rt d => .ok (.rt d, r.2.1, r.2.2)) = _
  rw [h1]
  simp only [h2, h3]
  rfl
theorem live_end {turn : D → QQ.Env → W → R (Fl × QQ.Env × W)} {f : W → Option (List D)} {ds : List D} {m i : Nat} (h1 : f w = some ds) (h2 : ds[i]? = none) : evLive turn f (m + 1) i ρ w = .ok (.nx, ρ, w) := by
  show (match f w with | none => R.bad | some ds => match ds[i]? with | none => R.ok (Fl.nx, ρ, w) | some d => _) = _
  rw [h1]
  simp only [h2]
end
/-! ### comprehensions without tests -/
abbrev turnC (C : QQ.Ctx) (ρ : QQ.Env) (elt : E) (tg : Tg) (own : List Nat) : D → W → R (Option D × W) := fun d w => (evTg C tg d (wipeR ρ own) w).bind fun r => (evAll C r.1 .nil r.2).bind fun k =>
  if k.1 = true then (evE C r.1 elt k.2).bind fun q => .ok (some q.1, q.2) else .ok (none, k.2)
theorem turn_c {C : QQ.Ctx} {ρ ρ' : QQ.Env} {elt : E} {tg : Tg} {own : List Nat} {d x : D} {w w' : W} (h1 : evTg C tg d (wipeR ρ own) w = .ok (ρ', w)) (h2 : evE C ρ' elt w = .ok (x, w')) : turnC C ρ elt tg own d w = .ok (some x, w') := by
  unfold turnC
  rw [h1, bind_ok]
  show (R.bind (R.ok (true, w)) _) = _
  rw [bind_ok]
  simp only [if_true, h2, bind_ok]
theorem comp_map {α : Type} {turn : D → W → R (Option D × W)} {g h : α → D} {w : W} : ∀ {xs : List α} {acc : List D}, (∀ x ∈ xs, turn (g x) w = .ok (some (h x), w)) → acc.length + xs.length ≤ QQ.line → evComp turn (xs.map g) acc w = .ok (acc ++ xs.map h, w)
  | [], acc, _, _ => by simp [evComp]
  | x :: xs, acc, ht, hl => by
    have hl' : acc.length < QQ.line := by simp at hl; omega
    show ((turn (g x) w).bind fun r => match r.1 with
      | some x => if acc.length < QQ.line then evComp turn (xs.map g) (acc ++ [x]) r.2 else .bad
      | none => evComp turn (xs.map g) acc r.2) = _
    rw [ht x List.mem_cons_self, bind_ok]
    show (if acc.length < QQ.line then evComp turn (xs.map g) (acc ++ [h x]) w else .bad) = _
    rw [if_pos hl', comp_map (acc := acc ++ [h x]) (fun y hy => ht y (List.mem_cons_of_mem _ hy)) (by simp at hl ⊢; omega)]
    simp
theorem ev_compT {C : QQ.Ctx} {ρ : QQ.Env} {elt : E} {tg : Tg} {own : List Nat} {it : QQ.It} {ds rs : List D} {w w1 w2 : W} (h1 : evIt C ρ it w = .ok (.fix ds, w1)) (h2 : evComp (turnC C ρ elt tg own) ds [] w1 = .ok (rs, w2)) : evE C ρ (.comp elt tg it own .nil) w = .ok (.ref w2.cs.length, ⟨w2.cs ++ [.lst rs], w2.lo⟩) := by
  show (evIt C ρ it w).bind _ = _
  rw [h1, bind_ok]
  show (R.calm (evComp (turnC C ρ elt tg own) ds [] w1)).bind _ = _
  rw [h2]
  rfl
end QQ

set_option Elab.async false
set_option linter.all false
set_option maxRecDepth 100000
set_option maxHeartbeats 400000
/-! M0b: more rules to run the evaluator; a tactic that applies them. -/
namespace QQ
open PySem
section
variable {C : QQ.Ctx} {ρ ρ' : QQ.Env} {w w1 w2 w3 w' : W} {s : S} {ss : Ss} {d x y z : D} {a b e : E} {es : Es} {ds : List D}
theorem es_nil : evEs C ρ .nil w = .ok ([], w) := rfl
theorem es_cons (h1 : evE C ρ e w = .ok (d, w1)) (h2 : evEs C ρ es w1 = .ok (ds, w2)) : evEs C ρ (.cons e es) w = .ok (d :: ds, w2) := by
  show (evE C ρ e w).bind _ = _
  rw [h1, bind_ok]
  show (evEs C ρ es w1).bind _ = _
  rw [h2]
  rfl
theorem ev_var {i : Nat} (h : ρ[i]? = some (some d)) : evE C ρ (.var i) w = .ok (d, w) := by
  show (match ρ[i]? with | some (some d) => R.ok (d, w) | _ => R.bad) = _
  rw [h]
theorem ev_cst : evE C ρ (.cst d) w = .ok (d, w) := rfl
theorem call_ev {f : Nat} (h1 : evEs C ρ es w = .ok (ds, w1)) (h2 : C.call f ds w1 = .ok (d, w2)) : evE C ρ (.call f es) w = .ok (d, w2) := by
  show (evEs C ρ es w).bind _ = _
  rw [h1, bind_ok]
  show (C.call f ds w1).env ρ = _
  rw [h2]
  rfl
theorem ev_bin {o : Op2} (h1 : evE C ρ a w = .ok (x, w1)) (h2 : evE C ρ b w1 = .ok (y, w2)) (h3 : opSem o x y w2 = some (z, w3)) : evE C ρ (.bin o a b) w = .ok (z, w3) := by
  show (evE C ρ a w).bind _ = _
  rw [h1, bind_ok]
  show (evE C ρ b w1).bind _ = _
  rw [h2, bind_ok]
  show ofO (opSem o x y w2) = _
  rw [h3]
  rfl
theorem ev_neg {i : Int} (h1 : evE C ρ a w = .ok (.int i, w1)) : evE C ρ (.neg a) w = .ok (.int (-i), w1) := by
  show (evE C ρ a w).bind _ = _
  rw [h1]
  rfl
theorem ev_cmp {c : Cp} {k : Bool} (h1 : evE C ρ a w = .ok (x, w1)) (h2 : evE C ρ b w1 = .ok (y, w2)) (h3 : cpSem c x y w2 = some k) : evE C ρ (.cmp c a b) w = .ok (.bl k, w2) := by
  show (evE C ρ a w).bind _ = _
  rw [h1, bind_ok]
  show (evE C ρ b w1).bind _ = _
  rw [h2, bind_ok]
  show (match cpSem c x y w2 with | some k => R.ok (D.bl k, w2) | none => R.bad) = _
  rw [h3]
theorem ev_idx (h1 : evE C ρ a w = .ok (x, w1)) (h2 : evE C ρ b w1 = .ok (y, w2)) (h3 : ixSem x y w2 = some z) : evE C ρ (.idx a b) w = .ok (z, w2) := by
  show (evE C ρ a w).bind _ = _
  rw [h1, bind_ok]
  show (evE C ρ b w1).bind _ = _
  rw [h2, bind_ok]
  show (match ixSem x y w2 with | some d => R.ok (d, w2) | none => R.bad) = _
  rw [h3]
theorem ev_tup (h : evEs C ρ es w = .ok (ds, w1)) (hl : ds.length ≤ line) : evE C ρ (.tup es) w = .ok (.tup ds, w1) := by
  show (evEs C ρ es w).bind _ = _
  rw [h, bind_ok]
  exact if_pos hl
theorem ev_lst (h : evEs C ρ es w = .ok (ds, w1)) (hl : ds.length ≤ line) : evE C ρ (.lst es) w = .ok (.ref w1.cs.length, ⟨w1.cs ++ [.lst ds], w1.lo⟩) := by
  show (evEs C ρ es w).bind _ = _
  rw [h, bind_ok]
  exact if_pos hl
theorem ev_blt {f : Blt} (h : evEs C ρ es w = .ok (ds, w1)) (h2 : bltSem f ds w1 = some (d, w2)) : evE C ρ (.blt f es) w = .ok (d, w2) := by
  show (evEs C ρ es w).bind _ = _
  rw [h, bind_ok]
  show ofO (bltSem f ds w1) = _
  rw [h2]
  rfl
theorem ev_isi {t : Ty} {k : Bool} (h : evE C ρ a w = .ok (x, w1)) (h2 : isiSem t x w1 = some k) : evE C ρ (.isi t a) w = .ok (.bl k, w1) := by
  show (evE C ρ a w).bind _ = _
  rw [h, bind_ok]
  show (match isiSem t x w1 with | some k => R.ok (D.bl k, w1) | none => R.bad) = _
  rw [h2]
theorem ev_ifT {t : T} (h : evT C ρ t w = .ok (true, w1)) (h2 : evE C ρ a w1 = .ok (d, w2)) : evE C ρ (.ifx t a b) w = .ok (d, w2) := by
  show (evT C ρ t w).bind _ = _
  rw [h, bind_ok]
  exact h2
theorem ev_ifF {t : T} (h : evT C ρ t w = .ok (false, w1)) (h2 : evE C ρ b w1 = .ok (d, w2)) : evE C ρ (.ifx t a b) w = .ok (d, w2) := by
  show (evT C ρ t w).bind _ = _
  rw [h, bind_ok]
  exact h2
theorem ev_and1 (h : evE C ρ e w = .ok (d, w1)) : evE C ρ (.andv (.cons e .nil)) w = .ok (d, w1) := h
theorem ev_andF {es} (h : evE C ρ e w = .ok (.bl false, w1)) : evE C ρ (.andv (.cons e es)) w = .ok (.bl false, w1) := by
  cases es with
  | nil => exact h
  | cons a es =>
    show (evE C ρ e w).bind _ = _
    rw [h]
    rfl
theorem ev_andT {es} (h : evE C ρ e w = .ok (.bl true, w1)) (h2 : evE C ρ (.andv (.cons a es)) w1 = .ok (d, w2)) : evE C ρ (.andv (.cons e (.cons a es))) w = .ok (d, w2) := by
  show (evE C ρ e w).bind _ = _
  rw [h]
  exact h2
theorem ev_and2 {p q : Bool} (h : evE C ρ e w = .ok (.bl p, w1)) (h2 : p = true → evE C ρ (.andv (.cons a es)) w1 = .ok (.bl q, w1)) : evE C ρ (.andv (.cons e (.cons a es))) w = .ok (.bl (p && q), w1) := by
  cases p with
  | true => exact ev_andT h (h2 rfl)
  | false => exact ev_andF h
theorem ev_or1 (h : evE C ρ e w = .ok (d, w1)) : evE C ρ (.orv (.cons e .nil)) w = .ok (d, w1) := h
theorem ev_orT {es} (h : evE C ρ e w = .ok (.bl true, w1)) : evE C ρ (.orv (.cons e es)) w = .ok (.bl true, w1) := by
  cases es with
  | nil => exact h
  | cons a es =>
    show (evE C ρ e w).bind _ = _
    rw [h]
    rfl
theorem ev_orF {es} (h : evE C ρ e w = .ok (.bl false, w1)) (h2 : evE C ρ (.orv (.cons a es)) w1 = .ok (d, w2)) : evE C ρ (.orv (.cons e (.cons a es))) w = .ok (d, w2) := by
  show (evE C ρ e w).bind _ = _
  rw [h]
  exact h2
theorem ev_not {k : Bool} (h : evE C ρ a w = .ok (.bl k, w1)) : evE C ρ (.notv a) w = .ok (.bl (!k), w1) := by
  show (evE C ρ a w).bind _ = _
  rw [h]
  rfl
theorem ev_slc1 {i : Int} (h1 : evE C ρ a w = .ok (x, w1)) (h2 : evE C ρ b w1 = .ok (.int i, w2)) (h3 : slSem x (some i) none w2 = some (z, w3)) : evE C ρ (.slc1 a b) w = .ok (z, w3) := by
  show (evE C ρ a w).bind _ = _
  rw [h1, bind_ok]
  show (evE C ρ b w1).bind _ = _
  rw [h2, bind_ok]
  show ofO (slSem x (some i) none w2) = _
  rw [h3]
  rfl
theorem ev_slc2 {i : Int} (h1 : evE C ρ a w = .ok (x, w1)) (h2 : evE C ρ b w1 = .ok (.int i, w2)) (h3 : slSem x none (some i) w2 = some (z, w3)) : evE C ρ (.slc2 a b) w = .ok (z, w3) := by
  show (evE C ρ a w).bind _ = _
  rw [h1, bind_ok]
  show (evE C ρ b w1).bind _ = _
  rw [h2, bind_ok]
  show ofO (slSem x none (some i) w2) = _
  rw [h3]
  rfl
theorem t_val {k : Bool} (h : evE C ρ e w = .ok (.bl k, w1)) : evT C ρ (.val e) w = .ok (k, w1) := by
  show (evE C ρ e w).bind _ = _
  rw [h]
  rfl
theorem t_nt {t : T} {k : Bool} (h : evT C ρ t w = .ok (k, w1)) : evT C ρ (.nt t) w = .ok (!k, w1) := by
  show (evT C ρ t w).bind _ = _
  rw [h]
  rfl
theorem t_an0 : evT C ρ (.an .nil) w = .ok (true, w) := rfl
theorem t_anT {t : T} {ts : Ts} {k : Bool} (h : evT C ρ t w = .ok (true, w1)) (h2 : evT C ρ (.an ts) w1 = .ok (k, w2)) : evT C ρ (.an (.cons t ts)) w = .ok (k, w2) := by
  show (evT C ρ t w).bind _ = _
  rw [h]
  exact h2
theorem t_anF {t : T} {ts : Ts} (h : evT C ρ t w = .ok (false, w1)) : evT C ρ (.an (.cons t ts)) w = .ok (false, w1) := by
  show (evT C ρ t w).bind _ = _
  rw [h]
  rfl
theorem t_or0 : evT C ρ (.or .nil) w = .ok (false, w) := rfl
theorem t_orF {t : T} {ts : Ts} {k : Bool} (h : evT C ρ t w = .ok (false, w1)) (h2 : evT C ρ (.or ts) w1 = .ok (k, w2)) : evT C ρ (.or (.cons t ts)) w = .ok (k, w2) := by
  show (evT C ρ t w).bind _ = _
  rw [h]
  exact h2
theorem t_orT {t : T} {ts : Ts} (h : evT C ρ t w = .ok (true, w1)) : evT C ρ (.or (.cons t ts)) w = .ok (true, w1) := by
  show (evT C ρ t w).bind _ = _
  rw [h]
  rfl
theorem st_par {is : List Nat} (h : evEs C ρ es w = .ok (ds, w1)) (hl : ds.length = is.length) : evS C (.par is es) ρ w = .ok (.nx, setAll ρ (is.zip ds), w1) := by
  show ((evEs C ρ es w).env ρ).bind _ = _
  rw [h]
  exact if_pos hl
theorem st_asg {t : Tg} (h : evE C ρ e w = .ok (d, w1)) (h2 : evTg C t d ρ w1 = .ok (ρ', w2)) : evS C (.asg t e) ρ w = .ok (.nx, ρ', w2) := by
  show ((evE C ρ e w).env ρ).bind _ = _
  rw [h, env_ok, bind_ok]
  show (R.calm (evTg C t d ρ w1)).bind _ = _
  rw [h2]
  rfl
theorem tg_sub {o i : E} (h1 : evE C ρ o w = .ok (x, w1)) (h2 : evE C ρ i w1 = .ok (y, w2)) (h3 : setSem x y d w2 = some w3) : evTg C (.sub o i) d ρ w = .ok (ρ, w3) := by
  show (R.calm (evE C ρ o w)).bind _ = _
  rw [h1, calm_ok, bind_ok]
  show (R.calm (evE C ρ i w1)).bind _ = _
  rw [h2, calm_ok, bind_ok]
  show (match setSem x y d w2 with | some w' => R.ok (ρ, w') | none => R.bad) = _
  rw [h3]
theorem op_mul {i j : Int} (h : mulOk i j = true) : opSem .mul (.int i) (.int j) w = some (.int (i * j), w) := by
  show (match (if mulOk i j = true then some (D.int (i * j)) else none) with | some d => some (d, w) | none => none) = _
  rw [if_pos h]
theorem op_add {i j : Int} : opSem .add (.int i) (.int j) w = some (.int (i + j), w) := rfl
theorem op_sub {i j : Int} : opSem .sub (.int i) (.int j) w = some (.int (i - j), w) := rfl
theorem op_mod {i j : Int} (h : j ≠ 0) : opSem .mod (.int i) (.int j) w = some (.int (i.fmod j), w) := by
  show (match (if j ≠ 0 then some (D.int (i.fmod j)) else none) with | some d => some (d, w) | none => none) = _
  rw [if_pos h]
theorem op_fdiv {i j : Int} (h : divOk i j = true) : opSem .fdiv (.int i) (.int j) w = some (.int (i.fdiv j), w) := by
  show (match (if divOk i j = true then some (D.int (i.fdiv j)) else none) with | some d => some (d, w) | none => none) = _
  rw [if_pos h]
theorem op_addL {a b : Nat} {xs ys : List D} (h1 : w.lst a = some xs) (h2 : w.lst b = some ys) (hl : xs.length + ys.length ≤ line) : opSem .add (.ref a) (.ref b) w = some (.ref w.cs.length, ⟨w.cs ++ [.lst (xs ++ ys)], w.lo⟩) := by
  simp only [opSem, h1, h2]
  rw [if_pos ⟨trivial, hl⟩]
  rfl
theorem lst_app {cs t : List Cell} {lo lo' j : Nat} {ds : List D} (h : W.lst ⟨cs, lo⟩ j = some ds) : W.lst ⟨cs ++ t, lo'⟩ j = some ds := by
  unfold W.lst at h ⊢
  have jl : j < cs.length := by
    rcases Nat.lt_or_ge j cs.length with h' | h'
    · exact h'
    · rw [List.getElem?_eq_none h'] at h
      cases h
  simp only [List.getElem?_append_left jl]
  exact h
/-- a call's end where the store has grown and its old part may have changed -/
theorem fn_rtw {P : Prog} {L k f : Nat} {F : Fn} {vs : List D} (hF : P.fns[f]? = some F) (hl : vs.length = F.np) (h : evSs ⟨P, fnS P L k, L⟩ F.body (vs.map some ++ List.replicate (F.N.length - vs.length) none) ⟨w.cs, w.cs.length⟩ = .ok (.rt d, ρ', w')) : fnS P L (k + 1) f vs w = .ok (d, cutW w w' (flat d)) := by
  rw [fnS_at hF hl, h]
  rfl
end
/-! ### loops by an invariant -/
section
variable {turn : D → QQ.Env → W → R (Fl × QQ.Env × W)}
theorem for_inv (I : List D → QQ.Env → W → Prop) (h : ∀ d ds ρ w, I (d :: ds) ρ w → ∃ ρ' w', turn d ρ w = .ok (.nx, ρ', w') ∧ I ds ρ' w') : ∀ (ds : List D) (ρ : QQ.Env) (w : W), I ds ρ w → ∃ ρ' w', evFor turn ds ρ w = .ok (.nx, ρ', w') ∧ I [] ρ' w'
  | [], ρ, w, i => ⟨ρ, w, rfl, i⟩
  | d :: ds, ρ, w, i => by
    obtain ⟨ρ1, w1, e1, i1⟩ := h d ds ρ w i
    obtain ⟨ρ2, w2, e2, i2⟩ := for_inv I h ds ρ1 w1 i1
    exact ⟨ρ2, w2, (for_nx e1).trans e2, i2⟩
theorem live_inv {f : W → Option (List D)} {ds : List D} (I : Nat → QQ.Env → W → Prop) (hf : ∀ i ρ w, I i ρ w → f w = some ds) (h : ∀ i (hi : i < ds.length) ρ w, I i ρ w → ∃ ρ' w', turn ds[i] ρ w = .ok (.nx, ρ', w') ∧ I (i + 1) ρ' w') : ∀ (n i : Nat) (ρ : QQ.Env) (w : W), I i ρ w → i ≤ ds.length → ds.length - i < n → ∃ ρ' w', evLive turn f n i ρ w = .ok (.nx, ρ', w') ∧ I ds.length ρ' w'
  | 0, i, ρ, w, hi, hl, hn => by omega
  | n + 1, i, ρ, w, hi, hl, hn => by
    by_cases hlt : i < ds.length
    · obtain ⟨ρ1, w1, e1, i1⟩ := h i hlt ρ w hi
      obtain ⟨ρ2, w2, e2, i2⟩ := live_inv I hf h n (i + 1) ρ1 w1 i1 (by omega) (by omega)
      exact ⟨ρ2, w2, (live_nx (hf i ρ w hi) (by simp [hlt]) e1).trans e2, i2⟩
    · have e : i = ds.length := by omega
      subst e
      exact ⟨ρ, w, live_end (hf _ ρ w hi) (by simp), hi⟩
/-- a comprehension whose members hold Q, the store kept by I -/
theorem comp_inv {turn : D → W → R (Option D × W)} (I : W → Prop) (Q : D → Prop) (h : ∀ d w, I w → ∃ x w', turn d w = .ok (some x, w') ∧ Q x ∧ I w') : ∀ (ds acc : List D) (w : W), I w → (∀ x ∈ acc, Q x) → acc.length + ds.length ≤ line → ∃ rs w', evComp turn ds acc w = .ok (rs, w') ∧ rs.length = acc.length + ds.length ∧ (∀ x ∈ rs, Q x) ∧ I w'
  | [], acc, w, i, q, hl => ⟨acc, w, rfl, rfl, q, i⟩
  | d :: ds, acc, w, i, q, hl => by
    obtain ⟨x, w1, e1, q1, i1⟩ := h d w i
    simp only [List.length_cons] at hl
    obtain ⟨rs, w2, e2, l2, q2, i2⟩ := comp_inv I Q h ds (acc ++ [x]) w1 i1 (by
      intro y hy
      rcases List.mem_append.mp hy with hy | hy
      · exact q y hy
      · rw [List.mem_singleton.mp hy]; exact q1) (by simp; omega)
    refine ⟨rs, w2, ?_, by rw [l2]; simp; omega, q2, i2⟩
    show ((turn d w).bind fun r => match r.1 with
      | some x => if acc.length < line then evComp turn ds (acc ++ [x]) r.2 else .bad
      | none => evComp turn ds acc r.2) = _
    rw [e1, bind_ok]
    show (if acc.length < line then evComp turn ds (acc ++ [x]) w1 else .bad) = _
    rw [if_pos (by omega)]
    exact e2
end
end QQ

set_option Elab.async false
set_option linter.all false
set_option maxRecDepth 100000
set_option maxHeartbeats 400000
/-! M0c: running up to new objects that nobody holds. -/
namespace QQ
open PySem
/-- w' is w with more objects -/
def Gr (w w' : W) : Prop := ∃ t, w' = ⟨w.cs ++ t, w.lo⟩
theorem Gr.refl (w : W) : Gr w w := ⟨[], by simp⟩
theorem Gr.trans {a b c : W} (h : Gr a b) (k : Gr b c) : Gr a c := by
  obtain ⟨t, rfl⟩ := h
  obtain ⟨s, rfl⟩ := k
  exact ⟨t ++ s, by simp⟩
theorem Gr.one (w : W) (c : Cell) : Gr w ⟨w.cs ++ [c], w.lo⟩ := ⟨[c], rfl⟩
theorem Gr.lst {w w' : W} (h : Gr w w') {j : Nat} {ds : List D} (k : w.lst j = some ds) : w'.lst j = some ds := by
  obtain ⟨t, rfl⟩ := h
  exact lst_app (lo := w.lo) k
theorem Gr.at {w w' : W} (h : Gr w w') {j : Nat} {c : Cell} (k : w.cs[j]? = some c) : w'.cs[j]? = some c := by
  obtain ⟨t, rfl⟩ := h
  have jl : j < w.cs.length := by
    rcases Nat.lt_or_ge j w.cs.length with h' | h'
    · exact h'
    · rw [List.getElem?_eq_none h'] at k
      cases k
  simp only [List.getElem?_append_left jl]
  exact k
/-- what the built-in tests can look at -/
def Pl (w : W) (x : D) : Prop := x = .non ∨ ∃ u, tyOf w x = some u
theorem Gr.pl {w w' : W} (h : Gr w w') {x : D} (k : Pl w x) : Pl w' x := by
  rcases k with k | ⟨u, k⟩
  · exact .inl k
  refine .inr ?_
  cases x with
  | ref n =>
    cases e : w.cs[n]? with
    | none => simp [tyOf, e] at k
    | some c => 
      cases c with
      | ins a b => simp [tyOf, e] at k
      | lst ds => exact ⟨.list, by simp [tyOf, h.at e]⟩
  | _ => exact ⟨u, k⟩
def EG (C : QQ.Ctx) (ρ : QQ.Env) (e : E) (w : W) (d : D) : Prop := ∃ w', evE C ρ e w = .ok (d, w') ∧ Gr w w'
def EsG (C : QQ.Ctx) (ρ : QQ.Env) (es : Es) (w : W) (ds : List D) : Prop := ∃ w', evEs C ρ es w = .ok (ds, w') ∧ Gr w w'
def TG (C : QQ.Ctx) (ρ : QQ.Env) (t : T) (w : W) (p : Bool) : Prop := ∃ w', evT C ρ t w = .ok (p, w') ∧ Gr w w'
/-- the statements return d -/
def SG (C : QQ.Ctx) (ρ : QQ.Env) (ss : Ss) (w : W) (d : D) : Prop := ∃ ρ' w', evSs C ss ρ w = .ok (.rt d, ρ', w') ∧ Gr w w'
section
variable {C : QQ.Ctx} {ρ ρ' : QQ.Env} {w w1 w2 w3 w' : W} {s : S} {ss : Ss} {d x y z : D} {a b e : E} {es : Es} {ds : List D} {t : T} {ts : Ts} {p q : Bool}
theorem EG.of (h : evE C ρ e w = .ok (d, w)) : EG C ρ e w d := ⟨w, h, .refl w⟩
theorem EsG.nil : EsG C ρ .nil w [] := ⟨w, rfl, .refl w⟩
theorem EsG.cons (h1 : EG C ρ e w d) (h2 : ∀ w', Gr w w' → EsG C ρ es w' ds) : EsG C ρ (.cons e es) w (d :: ds) := by
  obtain ⟨w1, e1, g1⟩ := h1
  obtain ⟨w2, e2, g2⟩ := h2 w1 g1
  exact ⟨w2, es_cons e1 e2, g1.trans g2⟩
theorem EsG.one (h1 : EG C ρ e w d) : EsG C ρ (.cons e .nil) w [d] := EsG.cons h1 fun _ _ => .nil
theorem EG.var {i : Nat} (h : ρ[i]? = some (some d)) : EG C ρ (.var i) w d := .of (ev_var h)
theorem EG.cst : EG C ρ (.cst d) w d := .of rfl
theorem EG.call {f : Nat} (h1 : EsG C ρ es w ds) (h2 : ∀ w', Gr w w' → C.call f ds w' = .ok (d, w')) : EG C ρ (.call f es) w d := by
  obtain ⟨w1, e1, g1⟩ := h1
  exact ⟨w1, call_ev e1 (h2 w1 g1), g1⟩
theorem EG.bin {o : Op2} (h1 : EG C ρ a w x) (h2 : ∀ w', Gr w w' → EG C ρ b w' y) (h3 : ∀ w', Gr w w' → ∃ w'', opSem o x y w' = some (z, w'') ∧ Gr w' w'') : EG C ρ (.bin o a b) w z := by
  obtain ⟨w1, e1, g1⟩ := h1
  obtain ⟨w2, e2, g2⟩ := h2 w1 g1
  obtain ⟨w3, e3, g3⟩ := h3 w2 (g1.trans g2)
  exact ⟨w3, ev_bin e1 e2 e3, (g1.trans g2).trans g3⟩
theorem EG.cmp {c : Cp} {k : Bool} (h1 : EG C ρ a w x) (h2 : ∀ w', Gr w w' → EG C ρ b w' y) (h3 : ∀ w', Gr w w' → cpSem c x y w' = some k) : EG C ρ (.cmp c a b) w (.bl k) := by
  obtain ⟨w1, e1, g1⟩ := h1
  obtain ⟨w2, e2, g2⟩ := h2 w1 g1
  exact ⟨w2, ev_cmp e1 e2 (h3 w2 (g1.trans g2)), g1.trans g2⟩
theorem EG.idx (h1 : EG C ρ a w x) (h2 : ∀ w', Gr w w' → EG C ρ b w' y) (h3 : ∀ w', Gr w w' → ixSem x y w' = some z) : EG C ρ (.idx a b) w z := by
  obtain ⟨w1, e1, g1⟩ := h1
  obtain ⟨w2, e2, g2⟩ := h2 w1 g1
  exact ⟨w2, ev_idx e1 e2 (h3 w2 (g1.trans g2)), g1.trans g2⟩
theorem EG.blt {f : Blt} (h : EsG C ρ es w ds) (h2 : ∀ w', Gr w w' → ∃ w'', bltSem f ds w' = some (d, w'') ∧ Gr w' w'') : EG C ρ (.blt f es) w d := by
  obtain ⟨w1, e1, g1⟩ := h
  obtain ⟨w2, e2, g2⟩ := h2 w1 g1
  exact ⟨w2, ev_blt e1 e2, g1.trans g2⟩
theorem EG.isi {t : Ty} {k : Bool} (h : EG C ρ a w x) (h2 : ∀ w', Gr w w' → isiSem t x w' = some k) : EG C ρ (.isi t a) w (.bl k) := by
  obtain ⟨w1, e1, g1⟩ := h
  exact ⟨w1, ev_isi e1 (h2 w1 g1), g1⟩
theorem EG.and1 (h : EG C ρ e w d) : EG C ρ (.andv (.cons e .nil)) w d := h
theorem EG.and2 (h : EG C ρ e w (.bl p)) (h2 : p = true → ∀ w', Gr w w' → EG C ρ (.andv (.cons a es)) w' (.bl q)) : EG C ρ (.andv (.cons e (.cons a es))) w (.bl (p && q)) := by
  obtain ⟨w1, e1, g1⟩ := h
  cases p with
  | true =>
    obtain ⟨w2, e2, g2⟩ := h2 rfl w1 g1
    exact ⟨w2, ev_andT e1 e2, g1.trans g2⟩
  | false => exact ⟨w1, ev_andF e1, g1⟩
theorem EG.or1 (h : EG C ρ e w d) : EG C ρ (.orv (.cons e .nil)) w d := h
theorem EG.or2 (h : EG C ρ e w (.bl p)) (h2 : p = false → ∀ w', Gr w w' → EG C ρ (.orv (.cons a es)) w' (.bl q)) : EG C ρ (.orv (.cons e (.cons a es))) w (.bl (p || q)) := by
  obtain ⟨w1, e1, g1⟩ := h
  cases p with
  | false =>
    obtain ⟨w2, e2, g2⟩ := h2 rfl w1 g1
    exact ⟨w2, ev_orF e1 e2, g1.trans g2⟩
  | true => exact ⟨w1, ev_orT e1, g1⟩
theorem EG.not (h : EG C ρ e w (.bl p)) : EG C ρ (.notv e) w (.bl (!p)) := by
  obtain ⟨w1, e1, g1⟩ := h
  exact ⟨w1, ev_not e1, g1⟩
theorem EG.ifx (h : TG C ρ t w p) (hT : p = true → ∀ w', Gr w w' → EG C ρ a w' d) (hF : p = false → ∀ w', Gr w w' → EG C ρ b w' d) : EG C ρ (.ifx t a b) w d := by
  obtain ⟨w1, e1, g1⟩ := h
  cases p with
  | true =>
    obtain ⟨w2, e2, g2⟩ := hT rfl w1 g1
    exact ⟨w2, ev_ifT e1 e2, g1.trans g2⟩
  | false =>
    obtain ⟨w2, e2, g2⟩ := hF rfl w1 g1
    exact ⟨w2, ev_ifF e1 e2, g1.trans g2⟩
theorem TG.val (h : EG C ρ e w (.bl p)) : TG C ρ (.val e) w p := by
  obtain ⟨w1, e1, g1⟩ := h
  exact ⟨w1, t_val e1, g1⟩
theorem TG.nt (h : TG C ρ t w p) : TG C ρ (.nt t) w (!p) := by
  obtain ⟨w1, e1, g1⟩ := h
  exact ⟨w1, t_nt e1, g1⟩
theorem TG.or0 : TG C ρ (.or .nil) w false := ⟨w, rfl, .refl w⟩
theorem TG.or (h : TG C ρ t w p) (h2 : p = false → ∀ w', Gr w w' → TG C ρ (.or ts) w' q) : TG C ρ (.or (.cons t ts)) w (p || q) := by
  obtain ⟨w1, e1, g1⟩ := h
  cases p with
  | false =>
    obtain ⟨w2, e2, g2⟩ := h2 rfl w1 g1
    exact ⟨w2, t_orF e1 e2, g1.trans g2⟩
  | true => exact ⟨w1, t_orT e1, g1⟩
theorem TG.an0 : TG C ρ (.an .nil) w true := ⟨w, rfl, .refl w⟩
theorem TG.an (h : TG C ρ t w p) (h2 : p = true → ∀ w', Gr w w' → TG C ρ (.an ts) w' q) : TG C ρ (.an (.cons t ts)) w (p && q) := by
  obtain ⟨w1, e1, g1⟩ := h
  cases p with
  | true =>
    obtain ⟨w2, e2, g2⟩ := h2 rfl w1 g1
    exact ⟨w2, t_anT e1 e2, g1.trans g2⟩
  | false => exact ⟨w1, t_anF e1, g1⟩
theorem SG.ret (h : EG C ρ e w d) : SG C ρ (.cons (.ret e) ss) w d := by
  obtain ⟨w1, e1, g1⟩ := h
  exact ⟨ρ, w1, ss_rt (st_ret e1), g1⟩
theorem SG.set {i : Nat} (h : EG C ρ e w x) (h2 : ∀ w', Gr w w' → SG C (ρ.set i (some x)) ss w' d) : SG C ρ (.cons (.set i e) ss) w d := by
  obtain ⟨w1, e1, g1⟩ := h
  obtain ⟨ρ2, w2, e2, g2⟩ := h2 w1 g1
  exact ⟨ρ2, w2, (ss_nx (st_set e1)).trans e2, g1.trans g2⟩
/-- if t: return a; the rest -/
theorem SG.ifr {r : E} {b : Ss} (h : TG C ρ t w p) (hT : p = true → ∀ w', Gr w w' → EG C ρ r w' d) (hF : p = false → ∀ w', Gr w w' → SG C ρ ss w' d) : SG C ρ (.cons (.ifs t (.cons (.ret r) b) .nil) ss) w d := by
  obtain ⟨w1, e1, g1⟩ := h
  cases p with
  | true =>
    obtain ⟨w2, e2, g2⟩ := hT rfl w1 g1
    exact ⟨ρ, w2, ss_rt ((st_ifT e1).trans (ss_rt (st_ret e2))), g1.trans g2⟩
  | false =>
    obtain ⟨ρ2, w2, e2, g2⟩ := hF rfl w1 g1
    exact ⟨ρ2, w2, (ss_nx (st_ifF e1)).trans e2, g1.trans g2⟩
theorem fn_G {P : Prog} {L k f : Nat} {F : Fn} {vs : List D} (hF : P.fns[f]? = some F) (hl : vs.length = F.np) (h : SG ⟨P, fnS P L k, L⟩ (vs.map some ++ List.replicate (F.N.length - vs.length) none) F.body ⟨w.cs, w.cs.length⟩ d) (hf : flat d = true) : fnS P L (k + 1) f vs w = .ok (d, w) := by
  obtain ⟨ρ', w', e, t, rfl⟩ := h
  exact fn_rt hF hl e (Nat.le_refl _) hf
theorem boolsD_map {α : Type} (f : α → Bool) : ∀ l : List α, boolsD (l.map fun x => .bl (f x)) = some (l.map f)
  | [] => rfl
  | x :: l => by
    show (match boolsD (l.map fun x => .bl (f x)) with | some bs => some (f x :: bs) | none => none) = _
    rw [boolsD_map f l]
    rfl
theorem comp_mapG {turn : D → W → R (Option D × W)} {h : D → D} : ∀ (ds acc : List D) (w : W), (∀ d ∈ ds, ∀ w', Gr w w' → ∃ w'', turn d w' = .ok (some (h d), w'') ∧ Gr w' w'') → acc.length + ds.length ≤ line → ∃ w', evComp turn ds acc w = .ok (acc ++ ds.map h, w') ∧ Gr w w'
  | [], acc, w, _, _ => ⟨w, by simp [evComp], .refl w⟩
  | d :: ds, acc, w, H, hl => by
    simp only [List.length_cons] at hl
    obtain ⟨w1, e1, g1⟩ := H d List.mem_cons_self w (.refl w)
    obtain ⟨w2, e2, g2⟩ := comp_mapG (h := h) ds (acc ++ [h d]) w1 (fun y hy w' g => H y (List.mem_cons_of_mem _ hy) w' (g1.trans g)) (by simp; omega)
    refine ⟨w2, ?_, g1.trans g2⟩
    show ((turn d w).bind fun r => match r.1 with
      | some x => if acc.length < line then evComp turn ds (acc ++ [x]) r.2 else .bad
      | none => evComp turn ds acc r.2) = _
    rw [e1, bind_ok]
    show (if acc.length < line then evComp turn ds (acc ++ [h d]) w1 else .bad) = _
    rw [if_pos (by omega), e2]
    simp
/-- [elt for i in a tuple] -/
theorem EG.compT {elt it : E} {i : Nat} {h : D → D} (hi : EG C ρ it w (.tup ds)) (hl : ds.length ≤ line) (H : ∀ d ∈ ds, ∀ w', Gr w w' → EG C ((ρ.set i none).set i (some d)) elt w' (h d)) : ∃ w', evE C ρ (.comp elt (.nm i) (.seq it) [i] .nil) w = .ok (.ref w'.cs.length, ⟨w'.cs ++ [.lst (ds.map h)], w'.lo⟩) ∧ Gr w w' := by
  obtain ⟨w1, e1, g1⟩ := hi
  obtain ⟨w2, e2, g2⟩ := comp_mapG (turn := turnC C ρ elt (.nm i) [i]) (h := h) ds [] w1 (fun d hd w' g => by
    obtain ⟨w3, e3, g3⟩ := H d hd w' (g1.trans g)
    exact ⟨w3, turn_c (w' := w3) (ρ' := (ρ.set i none).set i (some d)) rfl e3, g3⟩) (by simpa using hl)
  exact ⟨w2, ev_compT (it_seqT e1) e2, g1.trans g2⟩
/-- all([elt for i in a tuple]) -/
theorem EG.all {elt it : E} {i : Nat} {f : D → Bool} (hi : EG C ρ it w (.tup ds)) (hl : ds.length ≤ line) (H : ∀ d ∈ ds, ∀ w', Gr w w' → EG C ((ρ.set i none).set i (some d)) elt w' (.bl (f d))) : EG C ρ (.blt .all1 (.cons (.comp elt (.nm i) (.seq it) [i] .nil) .nil)) w (.bl (ds.all f)) := by
  obtain ⟨w1, e1, g1⟩ := EG.compT (h := fun d => .bl (f d)) hi hl H
  refine ⟨⟨w1.cs ++ [.lst (ds.map fun d => .bl (f d))], w1.lo⟩, ev_blt (es_cons e1 es_nil) ?_, g1.trans (.one _ _)⟩
  have h1 : W.lst ⟨w1.cs ++ [.lst (ds.map fun d => .bl (f d))], w1.lo⟩ w1.cs.length = some (ds.map fun d => .bl (f d)) := by simp [W.lst]
  show (match (W.lst ⟨w1.cs ++ [.lst (ds.map fun d => .bl (f d))], w1.lo⟩ w1.cs.length).bind boolsD with
    | some bs => some (D.bl (bs.all id), _)
    | none => none) = _
  rw [h1]
  show (match boolsD (ds.map fun d => .bl (f d)) with
    | some bs => some (D.bl (bs.all id), _)
    | none => none) = _
  rw [boolsD_map]
  simp [List.all_map]
end
/-! ### equality of trees of whole numbers -/
mutual
def tree : Nat → D → Bool
  | _, .int _ => true
  | _, .non => true
  | n + 1, .tup ds => trees n ds
  | _, _ => false
def trees : Nat → List D → Bool
  | _, [] => true
  | n, d :: ds => tree n d && trees n ds
end
mutual
def pd : D → PyData
  | .int i => .int i
  | .tup ds => .tuple (pds ds)
  | _ => .none
def pds : List D → List PyData
  | [] => []
  | d :: ds => pd d :: pds ds
end
theorem trees_iff (n : Nat) : ∀ ds : List D, trees n ds = true ↔ ∀ d ∈ ds, tree n d = true
  | [] => by simp [trees]
  | d :: ds => by simp [trees, trees_iff n ds]
mutual
theorem toP_tree (cs : List Cell) : ∀ (d : D) (n : Nat), tree n d = true → toP cs n d = some (pd d)
  | .int i, n, _ => toP_int
  | .non, n, _ => toP_non
  | .tup ds, 0, h => by simp [tree] at h
  | .tup ds, n + 1, h => by
    rw [toP_tup, toP_trees cs ds n (by simpa [tree] using h)]
    rfl
  | .bl b, n, h => by cases n <;> simp [tree] at h
  | .str x, n, h => by cases n <;> simp [tree] at h
  | .ref x, n, h => by cases n <;> simp [tree] at h
  | .frz x, n, h => by cases n <;> simp [tree] at h
theorem toP_trees (cs : List Cell) : ∀ (ds : List D) (n : Nat), trees n ds = true → optAll (ds.map (toP cs n)) = some (pds ds)
  | [], n, _ => rfl
  | d :: ds, n, h => by
    simp only [trees, Bool.and_eq_true] at h
    rw [List.map_cons, toP_tree cs d n h.1]
    simp only [optAll, toP_trees cs ds n h.2]
    rfl
end
mutual
theorem eqv_tree : ∀ (x y : D) (n m : Nat), tree n x = true → tree m y = true → (PyData.eqv (pd x) (pd y) = true ↔ x = y)
  | .int i, .int j, n, m, _, _ => by simp [pd, PyData.eqv]
  | .int i, .non, n, m, _, _ => by simp [pd, PyData.eqv]
  | .non, .int i, n, m, _, _ => by simp [pd, PyData.eqv]
  | .non, .non, n, m, _, _ => by simp [pd, PyData.eqv]
  | .int i, .tup ys, n, m, _, _ => by simp [pd, PyData.eqv]
  | .non, .tup ys, n, m, _, _ => by simp [pd, PyData.eqv]
  | .tup xs, .int i, n, m, _, _ => by simp [pd, PyData.eqv]
  | .tup xs, .non, n, m, _, _ => by simp [pd, PyData.eqv]
  | .tup xs, .tup ys, n, m, hx, hy => by
    cases n with
    | zero => simp [tree] at hx
    | succ n =>
    cases m with
    | zero => simp [tree] at hy
    | succ m =>
    have := eqv_trees xs ys n m (by simpa [tree] using hx) (by simpa [tree] using hy)
    simpa [pd, PyData.eqv] using this
  | .bl b, y, n, m, h, _ => by cases n <;> simp [tree] at h
  | .str b, y, n, m, h, _ => by cases n <;> simp [tree] at h
  | .ref b, y, n, m, h, _ => by cases n <;> simp [tree] at h
  | .frz b, y, n, m, h, _ => by cases n <;> simp [tree] at h
  | x, .bl b, n, m, _, h => by cases m <;> simp [tree] at h
  | x, .str b, n, m, _, h => by cases m <;> simp [tree] at h
  | x, .ref b, n, m, _, h => by cases m <;> simp [tree] at h
  | x, .frz b, n, m, _, h => by cases m <;> simp [tree] at h
theorem eqv_trees : ∀ (xs ys : List D) (n m : Nat), trees n xs = true → trees m ys = true → (PyData.eqvAll (pds xs) (pds ys) = true ↔ xs = ys)
  | [], [], n, m, _, _ => by simp [pds, PyData.eqvAll]
  | [], y :: ys, n, m, _, _ => by simp [pds, PyData.eqvAll]
  | x :: xs, [], n, m, _, _ => by simp [pds, PyData.eqvAll]
  | x :: xs, y :: ys, n, m, hx, hy => by
    simp only [trees, Bool.and_eq_true] at hx hy
    have h1 := eqv_tree x y n m hx.1 hy.1
    have h2 := eqv_trees xs ys n m hx.2 hy.2
    simp [pds, PyData.eqvAll, h1, h2]
end
mutual
theorem tree_mono : ∀ (d : D) (n m : Nat), n ≤ m → tree n d = true → tree m d = true
  | .int i, n, m, _, _ => by cases m <;> rfl
  | .non, n, m, _, _ => by cases m <;> rfl
  | .tup ds, 0, m, _, h => by simp [tree] at h
  | .tup ds, n + 1, 0, hl, _ => by omega
  | .tup ds, n + 1, m + 1, hl, h => by
    simp only [tree] at h ⊢
    exact trees_mono ds n m (by omega) h
  | .bl b, n, m, _, h => by cases n <;> simp [tree] at h
  | .str x, n, m, _, h => by cases n <;> simp [tree] at h
  | .ref x, n, m, _, h => by cases n <;> simp [tree] at h
  | .frz x, n, m, _, h => by cases n <;> simp [tree] at h
theorem trees_mono : ∀ (ds : List D) (n m : Nat), n ≤ m → trees n ds = true → trees m ds = true
  | [], n, m, _, _ => rfl
  | d :: ds, n, m, hl, h => by
    simp only [trees, Bool.and_eq_true] at h ⊢
    exact ⟨tree_mono d n m hl h.1, trees_mono ds n m hl h.2⟩
end
theorem eq_iff {x y : D} {n m : Nat} (hx : tree n x = true) (hy : tree m y = true) (hn : n ≤ 60) (hm : m ≤ 60) (w : W) : ∃ b, eqSem x y w = some b ∧ (b = true ↔ x = y) := by
  unfold eqSem
  rw [toP_tree w.cs x 60 (tree_mono x n 60 hn hx), toP_tree w.cs y 60 (tree_mono y m 60 hm hy)]
  exact ⟨_, rfl, eqv_tree x y n m hx hy⟩
theorem eq_T {x : D} {n : Nat} (hx : tree n x = true) (hn : n ≤ 60) (w : W) : eqSem x x w = some true := by
  obtain ⟨b, e, h⟩ := eq_iff hx hx hn hn w
  rw [e, h.mpr rfl]
theorem eq_F {x y : D} {n m : Nat} (hx : tree n x = true) (hy : tree m y = true) (hn : n ≤ 60) (hm : m ≤ 60) (h : x ≠ y) (w : W) : eqSem x y w = some false := by
  obtain ⟨b, e, k⟩ := eq_iff hx hy hn hm w
  cases b with
  | false => exact e
  | true => exact absurd (k.mp rfl) h
theorem eqL_iff {i j : Nat} {xs ys : List D} {n m : Nat} {w : W} (hi : w.lst i = some xs) (hj : w.lst j = some ys) (hx : trees n xs = true) (hy : trees m ys = true) (hn : n ≤ 59) (hm : m ≤ 59) : ∃ b, eqSem (.ref i) (.ref j) w = some b ∧ (b = true ↔ xs = ys) := by
  have cell : ∀ {i xs}, w.lst i = some xs → w.cs[i]? = some (.lst xs) := fun {i xs} h => by
    unfold W.lst at h
    split at h
    · next e => rw [e]; cases h; rfl
    · cases h
  unfold eqSem
  rw [toP_ref (cell hi), toP_ref (cell hj), toP_trees w.cs xs 59 (trees_mono xs n 59 hn hx), toP_trees w.cs ys 59 (trees_mono ys m 59 hm hy)]
  exact ⟨_, rfl, by simpa [PyData.eqv] using eqv_trees xs ys n m hx hy⟩
end QQ

set_option Elab.async false
set_option linter.all false
set_option maxRecDepth 100000
set_option maxHeartbeats 400000
/-! M0d: exceptions. -/
namespace QQ
open PySem
section
variable {C : QQ.Ctx} {ρ ρ' : QQ.Env} {w w1 w2 w3 w' : W} {s : S} {ss : Ss} {d x y z p : D} {a b e : E} {es : Es} {ds : List D} {t : T} {ts : Ts} {c : Nat}
theorem ss_ex (h : evS C s ρ w = .ex c p ρ' w') : evSs C (.cons s ss) ρ w = .ex c p ρ' w' := by
  show (evS C s ρ w).bind _ = _
  rw [h]
  rfl
theorem call_ex {f : Nat} (h1 : evEs C ρ es w = .ok (ds, w1)) (h2 : C.call f ds w1 = .ex c p ρ' w2) : evE C ρ (.call f es) w = .ex c p ρ w2 := by
  show (evEs C ρ es w).bind _ = _
  rw [h1, bind_ok]
  show (C.call f ds w1).env ρ = _
  rw [h2]
  rfl
theorem st_ex_ex (h : evE C ρ e w = .ex c p ρ' w') : evS C (.ex e) ρ w = .ex c p ρ w' := by
  show ((evE C ρ e w).env ρ).bind _ = _
  rw [h]
  rfl
theorem st_set_ex {i : Nat} (h : evE C ρ e w = .ex c p ρ' w') : evS C (.set i e) ρ w = .ex c p ρ w' := by
  show ((evE C ρ e w).env ρ).bind _ = _
  rw [h]
  rfl
theorem st_ret_ex (h : evE C ρ e w = .ex c p ρ' w') : evS C (.ret e) ρ w = .ex c p ρ w' := by
  show ((evE C ρ e w).env ρ).bind _ = _
  rw [h]
  rfl
theorem st_try {bs : Ss} {hs : Hs} {r : Fl × QQ.Env × W} (h : evSs C bs ρ w = .ok r) : evS C (.try_ bs hs) ρ w = .ok r := by
  show (match evSs C bs ρ w with
    | .ok r => R.ok r
    | .ex c p ρ' w' => evHs C hs c p ρ' w'
    | .bad => .bad) = _
  rw [h]
theorem st_try_ex {bs : Ss} {hs : Hs} (h : evSs C bs ρ w = .ex c p ρ' w') : evS C (.try_ bs hs) ρ w = evHs C hs c p ρ' w' := by
  show (match evSs C bs ρ w with
    | .ok r => R.ok r
    | .ex c p ρ' w' => evHs C hs c p ρ' w'
    | .bad => .bad) = _
  rw [h]
theorem fn_ex {P : Prog} {L k f : Nat} {F : Fn} {vs : List D} (hF : P.fns[f]? = some F) (hl : vs.length = F.np) (h : evSs ⟨P, fnS P L k, L⟩ F.body (vs.map some ++ List.replicate (F.N.length - vs.length) none) ⟨w.cs, w.cs.length⟩ = .ex c p ρ' w') (hg : Gr ⟨w.cs, w.cs.length⟩ w') (hf : flat p = true) : fnS P L (k + 1) f vs w = .ex c p [] w := by
  obtain ⟨t, rfl⟩ := hg
  rw [fnS_at hF hl, h]
  show R.ex c p [] (cutW w ⟨w.cs ++ t, w.cs.length⟩ (flat p)) = _
  rw [cutW_back (Nat.le_refl _) hf]
theorem fn_nx {P : Prog} {L k f : Nat} {F : Fn} {vs : List D} (hF : P.fns[f]? = some F) (hl : vs.length = F.np) (h : evSs ⟨P, fnS P L k, L⟩ F.body (vs.map some ++ List.replicate (F.N.length - vs.length) none) ⟨w.cs, w.cs.length⟩ = .ok (.nx, ρ', w')) (hg : Gr ⟨w.cs, w.cs.length⟩ w') : fnS P L (k + 1) f vs w = .ok (.non, w) := by
  obtain ⟨t, rfl⟩ := hg
  rw [fnS_at hF hl, h]
  show R.ok (D.non, cutW w ⟨w.cs ++ t, w.cs.length⟩ true) = _
  rw [cutW_back (Nat.le_refl _) rfl]
/-- if t: raise c -/
theorem fn_need {P : Prog} {L k f : Nat} {F : Fn} {vs : List D} {q : Bool} (hF : P.fns[f]? = some F) (hl : vs.length = F.np) (hb : F.body = .cons (.ifs t (.cons (.raise c) .nil) .nil) .nil) (h : TG ⟨P, fnS P L k, L⟩ (vs.map some ++ List.replicate (F.N.length - vs.length) none) t ⟨w.cs, w.cs.length⟩ q) : fnS P L (k + 1) f vs w = if q = true then .ex c .non [] w else .ok (.non, w) := by
  obtain ⟨w', e, g⟩ := h
  cases q with
  | true => exact fn_ex hF hl (by rw [hb]; exact ss_ex ((st_ifT e).trans (ss_ex rfl))) g rfl
  | false => exact fn_nx hF hl (by rw [hb]; exact (ss_nx (st_ifF e)).trans rfl) g
end
end QQ

set_option Elab.async false
set_option linter.all false
set_option maxRecDepth 100000
set_option maxHeartbeats 1000000
namespace LW
open QQ PySem
def pr (r : Int × Int) : D := .tup [.int r.1, .int r.2]
def gc (a b : Int) : Int := (Nat.gcd a.natAbs b.natAbs : Nat)
/-- the canonical pair -/
def nf (a b : Int) : Int × Int := if b < 0 then (a.fdiv (-gc a b), b.fdiv (-gc a b)) else (a.fdiv (gc a b), b.fdiv (gc a b))
theorem gc_pos {a b : Int} (h : b ≠ 0) : 0 < gc a b := by
  unfold gc
  have : 0 < Nat.gcd a.natAbs b.natAbs := Nat.gcd_pos_of_pos_right _ (by omega)
  omega
theorem gc_le {a b : Int} (h : b ≠ 0) : (gc a b).natAbs ≤ b.natAbs := by
  unfold gc
  exact Nat.le_of_dvd (by omega) (Nat.gcd_dvd_right _ _)
theorem divOk_of {i j : Int} (h : j ≠ 0) (hb : Bd 8000 j) : divOk i j = true := by
  unfold divOk
  have h1 : decide (j ≠ 0) = true := decide_eq_true h
  rw [h1]
  have hl := hb.nb
  unfold QQ.nb at hl
  have : Builtin.divisionGoesByPylong i j = false := by
    unfold Builtin.divisionGoesByPylong
    have hj : (j == 0) = false := by simpa using h
    simp only [hj]
    have : (decide ((if false = true then 0 else j.natAbs.log2 / 30 + 1) > 300)) = false := by
      simp
      omega
    rw [this]
    rfl
  rw [this]
  rfl
theorem gc_bd {a b : Int} {n : Nat} (h : b ≠ 0) (hb : Bd n b) : Bd n (gc a b) := Nat.lt_of_le_of_lt (gc_le h) hb
variable {L : Nat} {w : W}
theorem s_lowest {n : Nat} (h : 1 ≤ n) {a b : Int} (hb : b ≠ 0) (bb : Bd 8000 b) : fnS P L n 44 [.int a, .int b] w = .ok (pr (nf a b), w) := by
  obtain ⟨m, rfl⟩ : ∃ m, n = m + 1 := ⟨n - 1, by omega⟩
  rw [fnS_at (F := f44) rfl rfl]
  have hg := gc_pos (a := a) hb
  have gb := gc_bd (a := a) hb bb
  have d1 : ∀ i, divOk i (gc a b) = true := fun i => divOk_of (by omega) gb
  have d2 : ∀ i, divOk i (-gc a b) = true := fun i => divOk_of (by omega) gb.neg
  have eg : ((Nat.gcd a.natAbs b.natAbs : Nat) : Int) = gc a b := rfl
  by_cases hn : b < 0
  · simp [f44, b44, evSs, evS, evT, evAll, evAny, evE, evEs, evAnd, evOr, evTg, evTgs, tgsLen, evIt, evSrc, setAll, bind_ok, bind_ex, bind_bad, env_ok, env_ex, env_bad, calm_ok, ofO, fin, opSem, opInt, opAug, cpSem, eqSem, ixSem, toP_int, toP_bl, toP_non, toP_tup, optAll, items, L2.atI, L2.ixN, flat, flats, PyData.eqv, bltSem, isiSem, tyOf, QQ.line, hn, eg, d2, cutW_same, pr, nf]
  · simp [f44, b44, evSs, evS, evT, evAll, evAny, evE, evEs, evAnd, evOr, evTg, evTgs, tgsLen, evIt, evSrc, setAll, bind_ok, bind_ex, bind_bad, env_ok, env_ex, env_bad, calm_ok, ofO, fin, opSem, opInt, opAug, cpSem, eqSem, ixSem, toP_int, toP_bl, toP_non, toP_tup, optAll, items, L2.atI, L2.ixN, flat, flats, PyData.eqv, bltSem, isiSem, tyOf, QQ.line, hn, eg, d1, cutW_same, pr, nf]
end LW

set_option Elab.async false
set_option linter.all false
set_option maxRecDepth 100000
set_option maxHeartbeats 1000000
namespace LW
open QQ PySem
variable {L : Nat} {w : W}
def gT : T := .val (.cmp .ne (.var 1) (.cst (.int 0)))
def gB : Ss := .cons (.par [0, 1] (.cons (.var 1) (.cons (.bin .mod (.blt .int1 (.cons (.var 0) .nil)) (.var 1)) .nil))) (.nil)
theorem gcd_step (C : QQ.Ctx) (n a b : Nat) (w : W) : evWhile (fun ρ w => (evT C ρ gT w).env ρ) (fun ρ w => evSs C gB ρ w) (n + 1) [some (.int a), some (.int b)] w =
    if b = 0 then .ok (.nx, [some (.int a), some (.int b)], w) else evWhile (fun ρ w => (evT C ρ gT w).env ρ) (fun ρ w => evSs C gB ρ w) n [some (.int b), some (.int (a % b : Nat))] w := by
  by_cases hb : b = 0
  · subst hb
    simp [evWhile, gT, evSs, evS, evT, evAll, evAny, evE, evEs, evAnd, evOr, evTg, evTgs, tgsLen, evIt, evSrc, setAll, bind_ok, bind_ex, bind_bad, env_ok, env_ex, env_bad, calm_ok, ofO, fin, opSem, opInt, opAug, cpSem, eqSem, ixSem, toP_int, toP_bl, toP_non, toP_tup, optAll, items, L2.atI, L2.ixN, flat, flats, PyData.eqv, bltSem, isiSem, tyOf, QQ.line]
  · have e : (a : Int).fmod b = ((a % b : Nat) : Int) := by
      rw [Int.fmod_eq_emod_of_nonneg _ (by omega)]
      omega
    simp [evWhile, gT, gB, evSs, evS, evT, evAll, evAny, evE, evEs, evAnd, evOr, evTg, evTgs, tgsLen, evIt, evSrc, setAll, bind_ok, bind_ex, bind_bad, env_ok, env_ex, env_bad, calm_ok, ofO, fin, opSem, opInt, opAug, cpSem, eqSem, ixSem, toP_int, toP_bl, toP_non, toP_tup, optAll, items, L2.atI, L2.ixN, flat, flats, PyData.eqv, bltSem, isiSem, tyOf, QQ.line, hb, e]
theorem gcd_loop (C : QQ.Ctx) : ∀ (m a b : Nat) (w : W) (n : Nat), b < 2 ^ m → 2 * m + 1 ≤ n → evWhile (fun ρ w => (evT C ρ gT w).env ρ) (fun ρ w => evSs C gB ρ w) n [some (.int a), some (.int b)] w = .ok (.nx, [some (.int (Nat.gcd a b : Nat)), some (.int 0)], w)
  | 0, a, b, w, n, hb, hn => by
    obtain ⟨k, rfl⟩ : ∃ k, n = k + 1 := ⟨n - 1, by omega⟩
    have : b = 0 := by simpa using hb
    subst this
    rw [gcd_step]
    simp
  | m + 1, a, b, w, n, hb, hn => by
    obtain ⟨k, rfl⟩ : ∃ k, n = k + 1 + 1 := ⟨n - 2, by omega⟩
    rw [gcd_step]
    by_cases h0 : b = 0
    · subst h0
      simp
    rw [if_neg h0, gcd_step]
    have hp : 0 < b := Nat.pos_of_ne_zero h0
    by_cases h1 : a % b = 0
    · rw [if_pos h1]
      have : Nat.gcd a b = b := by rw [Nat.gcd_comm, Nat.gcd_rec, h1]; simp
      rw [this, h1]
      rfl
    · rw [if_neg h1]
      have hr : a % b < b := Nat.mod_lt _ hp
      have hr0 : 0 < a % b := Nat.pos_of_ne_zero h1
      have h2 : b % (a % b) < 2 ^ m := by
        have h3 : b % (a % b) < a % b := Nat.mod_lt _ hr0
        have h4 : b % (a % b) + a % b ≤ b := by
          have h5 := Nat.div_add_mod b (a % b)
          have h6 : 1 ≤ b / (a % b) := (Nat.one_le_div_iff hr0).mpr (Nat.le_of_lt hr)
          have h7 : (a % b) * 1 ≤ (a % b) * (b / (a % b)) := Nat.mul_le_mul_left _ h6
          omega
        have h8 : 2 ^ (m + 1) = 2 * 2 ^ m := by rw [Nat.pow_succ]; omega
        omega
      rw [gcd_loop C m (a % b) (b % (a % b)) w k h2 (by omega)]
      have : Nat.gcd (a % b) (b % (a % b)) = Nat.gcd a b := by
        rw [Nat.gcd_comm, ← Nat.gcd_rec, ← Nat.gcd_rec, Nat.gcd_comm]
      rw [this]
theorem s_lgcd {n : Nat} (h : 1 ≤ n) (hL : 20000 ≤ L) {a b : Int} (bb : Bd 8000 b) : fnS P L n 34 [.int a, .int b] w = .ok (.int (gc a b), w) := by
  obtain ⟨m, rfl⟩ : ∃ m, n = m + 1 := ⟨n - 1, by omega⟩
  rw [fnS_at (F := f34) rfl rfl]
  have ha : ∀ i : Int, (if i < 0 then -i else i) = (i.natAbs : Int) := fun i => by split <;> omega
  have g := gcd_loop ⟨P, fnS P L m, L⟩ 8000 a.natAbs b.natAbs ⟨w.cs, w.cs.length⟩ L bb (by omega)
  have eb : b34 = .cons (.par [0, 1] (.cons (.blt .abs (.cons (.var 0) .nil)) (.cons (.blt .abs (.cons (.var 1) .nil)) .nil))) (.cons (.whl gT gB) (.cons (.ret (.var 0)) .nil)) := rfl
  simp [f34, eb, evSs, evS, evT, evAll, evAny, evE, evEs, evAnd, evOr, evTg, evTgs, tgsLen, evIt, evSrc, setAll, bind_ok, bind_ex, bind_bad, env_ok, env_ex, env_bad, calm_ok, ofO, fin, opSem, opInt, opAug, cpSem, eqSem, ixSem, toP_int, toP_bl, toP_non, toP_tup, optAll, items, L2.atI, L2.ixN, flat, flats, PyData.eqv, bltSem, isiSem, tyOf, QQ.line, ha, g, cutW_same, gc]
theorem gc_neg (a b : Int) : gc (-a) (-b) = gc a b := by unfold gc; rw [Int.natAbs_neg, Int.natAbs_neg]
theorem s_lratio {n : Nat} (h : 2 ≤ n) (hL : 20000 ≤ L) {a b : Int} (hb : b ≠ 0) (bb : Bd 8000 b) : fnS P L n 26 [.int a, .int b] w = .ok (pr (nf a b), w) := by
  obtain ⟨m, rfl⟩ : ∃ m, n = m + 1 := ⟨n - 1, by omega⟩
  rw [fnS_at (F := f26) rfl rfl]
  have hg := gc_pos (a := a) hb
  have gb := gc_bd (a := a) hb bb
  have d1 : ∀ i, divOk i (gc a b) = true := fun i => divOk_of (by omega) gb
  have d2 : ∀ i, divOk i (gc (-a) (-b)) = true := fun i => by rw [gc_neg]; exact d1 i
  have c1 : ∀ w', fnS P L m 34 [.int a, .int b] w' = .ok (.int (gc a b), w') := fun w' => s_lgcd (by omega) hL bb
  have c2 : ∀ w', fnS P L m 34 [.int (-a), .int (-b)] w' = .ok (.int (gc (-a) (-b)), w') := fun w' => s_lgcd (by omega) hL bb.neg
  by_cases hn : b < 0
  · have q : ∀ i : Int, (-i).fdiv (gc a b) = i.fdiv (-gc a b) := fun i => by rw [← Int.neg_fdiv_neg i (-gc a b), Int.neg_neg]
    simp [f26, b26, evSs, evS, evT, evAll, evAny, evE, evEs, evAnd, evOr, evTg, evTgs, tgsLen, evIt, evSrc, setAll, bind_ok, bind_ex, bind_bad, env_ok, env_ex, env_bad, calm_ok, ofO, fin, opSem, opInt, opAug, cpSem, eqSem, ixSem, toP_int, toP_bl, toP_non, toP_tup, optAll, items, L2.atI, L2.ixN, flat, flats, PyData.eqv, bltSem, isiSem, tyOf, QQ.line, hn, c2, d1, d2, cutW_same, pr, nf, gc_neg, q]
  · simp [f26, b26, evSs, evS, evT, evAll, evAny, evE, evEs, evAnd, evOr, evTg, evTgs, tgsLen, evIt, evSrc, setAll, bind_ok, bind_ex, bind_bad, env_ok, env_ex, env_bad, calm_ok, ofO, fin, opSem, opInt, opAug, cpSem, eqSem, ixSem, toP_int, toP_bl, toP_non, toP_tup, optAll, items, L2.atI, L2.ixN, flat, flats, PyData.eqv, bltSem, isiSem, tyOf, QQ.line, hn, c1, d1, cutW_same, pr, nf]
end LW

set_option Elab.async false
set_option linter.all false
set_option maxRecDepth 100000
set_option maxHeartbeats 1000000
namespace LW
open QQ PySem
variable {L : Nat} {w : W}
theorem gc_dvd (a b : Int) : gc a b ∣ a ∧ gc a b ∣ b := by
  unfold gc
  exact ⟨Int.ofNat_dvd_left.mpr (Nat.gcd_dvd_left _ _), Int.ofNat_dvd_left.mpr (Nat.gcd_dvd_right _ _)⟩
theorem fdiv_ex {a g : Int} (h : g ∣ a) : a = g * a.fdiv g := by
  rw [Int.mul_fdiv_cancel' h]
theorem nf_spec {a b : Int} (hb : b ≠ 0) : ∃ g : Int, g ≠ 0 ∧ a = g * (nf a b).1 ∧ b = g * (nf a b).2 ∧ 0 < (nf a b).2 := by
  have hg := gc_pos (a := a) hb
  obtain ⟨d1, d2⟩ := gc_dvd a b
  unfold nf
  by_cases hn : b < 0
  · rw [if_pos hn]
    have e1 := fdiv_ex (Int.neg_dvd.mpr d1)
    have e2 := fdiv_ex (Int.neg_dvd.mpr d2)
    refine ⟨-gc a b, by omega, e1, e2, ?_⟩
    by_cases hp : 0 < b.fdiv (-gc a b)
    · exact hp
    · exfalso
      have : 0 ≤ (-gc a b) * b.fdiv (-gc a b) := Int.mul_nonneg_of_nonpos_of_nonpos (by omega) (by omega)
      omega
  · rw [if_neg hn]
    have e1 := fdiv_ex d1
    have e2 := fdiv_ex d2
    refine ⟨gc a b, by omega, e1, e2, ?_⟩
    by_cases hp : 0 < b.fdiv (gc a b)
    · exact hp
    · exfalso
      have : (gc a b) * b.fdiv (gc a b) ≤ 0 := Int.mul_nonpos_of_nonneg_of_nonpos (by omega) (by omega)
      omega
theorem fdiv_scale {k a g : Int} (hk : k ≠ 0) (hg : g ≠ 0) (h : g ∣ a) : (k * a).fdiv (k * g) = a.fdiv g := by
  obtain ⟨c, rfl⟩ := h
  have h1 : k * (g * c) = (k * g) * c := by rw [Int.mul_assoc]
  rw [h1, Int.mul_fdiv_cancel_left _ (Int.mul_ne_zero hk hg), Int.mul_fdiv_cancel_left _ hg]
theorem gc_scale (k a b : Int) : gc (k * a) (k * b) = (k.natAbs : Int) * gc a b := by
  unfold gc
  rw [Int.natAbs_mul, Int.natAbs_mul, Nat.gcd_mul_left]
  push_cast
  rfl
theorem nf_scale {k a b : Int} (hk : k ≠ 0) (hb : b ≠ 0) : nf (k * a) (k * b) = nf a b := by
  have hg := gc_pos (a := a) hb
  obtain ⟨d1, d2⟩ := gc_dvd a b
  have n1 := Int.neg_dvd.mpr d1
  have n2 := Int.neg_dvd.mpr d2
  unfold nf
  rw [gc_scale]
  rcases Int.lt_or_gt_of_ne hk with hk' | hk'
  · have ek : (k.natAbs : Int) = -k := by omega
    rw [ek]
    by_cases hn : b < 0
    · have h1 : ¬ k * b < 0 := by
        have := Int.mul_pos_of_neg_of_neg hk' hn
        omega
      rw [if_neg h1, if_pos hn]
      have e : -k * gc a b = k * (-gc a b) := by rw [Int.neg_mul, Int.mul_neg]
      rw [e, fdiv_scale hk (by omega) n1, fdiv_scale hk (by omega) n2]
    · have hb' : 0 < b := by omega
      have h1 : k * b < 0 := Int.mul_neg_of_neg_of_pos hk' hb'
      rw [if_pos h1, if_neg hn]
      have e : -(-k * gc a b) = k * gc a b := by rw [Int.neg_mul, Int.neg_neg]
      rw [e, fdiv_scale hk (by omega) d1, fdiv_scale hk (by omega) d2]
  · have ek : (k.natAbs : Int) = k := by omega
    rw [ek]
    by_cases hn : b < 0
    · have h1 : k * b < 0 := Int.mul_neg_of_pos_of_neg hk' hn
      rw [if_pos h1, if_pos hn]
      have e : -(k * gc a b) = k * (-gc a b) := by rw [Int.mul_neg]
      rw [e, fdiv_scale hk (by omega) n1, fdiv_scale hk (by omega) n2]
    · have h1 : ¬ k * b < 0 := by
        have := Int.mul_pos hk' (show 0 < b by omega)
        omega
      rw [if_neg h1, if_neg hn]
      rw [fdiv_scale hk (by omega) d1, fdiv_scale hk (by omega) d2]
abbrev Q := Int × Int
def mulp (r s : Q) : Q := nf (r.1 * s.1) (r.2 * s.2)
def addp (r s : Q) : Q := nf (r.1 * s.2 + s.1 * r.2) (r.2 * s.2)
/-- a pair within the size b -/
structure PB (b : Nat) (r : Q) : Prop where
  n : Bd b r.1
  d : Bd b r.2
  p : 0 < r.2
theorem PB.mono {b c : Nat} {r : Q} (h : PB b r) (hc : b ≤ c) : PB c r := ⟨h.n.mono hc, h.d.mono hc, h.p⟩
theorem bd_div {n : Nat} {g x a : Int} (hg : g ≠ 0) (e : a = g * x) (h : Bd n a) : Bd n x := by
  unfold Bd at *
  rw [e, Int.natAbs_mul] at h
  have : 1 * x.natAbs ≤ g.natAbs * x.natAbs := Nat.mul_le_mul_right _ (by omega)
  omega
theorem nf_PB {n : Nat} {a b : Int} (hb : b ≠ 0) (h1 : Bd n a) (h2 : Bd n b) : PB n (nf a b) := by
  obtain ⟨g, hg, e1, e2, hp⟩ := nf_spec (a := a) hb
  exact ⟨bd_div hg e1 h1, bd_div hg e2 h2, hp⟩
theorem mul_PB {a b : Nat} {r s : Q} (hr : PB a r) (hs : PB b s) : PB (a + b) (mulp r s) :=
  nf_PB (Int.ne_of_gt (Int.mul_pos hr.p hs.p)) (hr.n.mul hs.n) (hr.d.mul hs.d)
theorem add_PB {a b : Nat} {r s : Q} (hr : PB a r) (hs : PB b s) : PB (a + b + 1) (addp r s) := by
  refine nf_PB (Int.ne_of_gt (Int.mul_pos hr.p hs.p)) (Bd.add (hr.n.mul hs.d) ?_) ((hr.d.mul hs.d).mono (by omega))
  have := hs.n.mul hr.d
  rwa [Nat.add_comm] at this
/-- nf of a pair that is one already -/
theorem nf_one (a : Int) : nf a 1 = (a, 1) := by
  unfold nf gc
  simp
theorem s_mul {n a b : Nat} (h : 2 ≤ n) {r s : Q} (hr : PB a r) (hs : PB b s) (hab : a + b ≤ 8000) : fnS P L n 45 [pr r, pr s] w = .ok (pr (mulp r s), w) := by
  obtain ⟨m, rfl⟩ : ∃ m, n = m + 1 := ⟨n - 1, by omega⟩
  rw [fnS_at (F := f45) rfl rfl]
  have m1 : mulOk r.1 s.1 = true := hr.n.mulOk hs.n (by omega)
  have m2 : mulOk r.2 s.2 = true := hr.d.mulOk hs.d (by omega)
  have c1 : ∀ w', fnS P L m 44 [.int (r.1 * s.1), .int (r.2 * s.2)] w' = .ok (pr (mulp r s), w') := fun w' => s_lowest (by omega) (Int.ne_of_gt (Int.mul_pos hr.p hs.p)) ((hr.d.mul hs.d).mono hab)
  obtain ⟨r1, r2⟩ := r
  obtain ⟨s1, s2⟩ := s
  simp only at *
  by_cases h1 : r2 = 1
  · by_cases h2 : s2 = 1
    · subst h1 h2
      simp [f45, b45, pr, evSs, evS, evT, evAll, evAny, evE, evEs, evAnd, evOr, evTg, evTgs, tgsLen, evIt, evSrc, setAll, bind_ok, bind_ex, bind_bad, env_ok, env_ex, env_bad, calm_ok, ofO, fin, opSem, opInt, opAug, cpSem, eqSem, ixSem, toP_int, toP_bl, toP_non, toP_tup, optAll, items, L2.atI, L2.ixN, flat, flats, PyData.eqv, bltSem, isiSem, tyOf, QQ.line, m1, cutW_same, mulp, nf_one]
    · simp [f45, b45, pr, evSs, evS, evT, evAll, evAny, evE, evEs, evAnd, evOr, evTg, evTgs, tgsLen, evIt, evSrc, setAll, bind_ok, bind_ex, bind_bad, env_ok, env_ex, env_bad, calm_ok, ofO, fin, opSem, opInt, opAug, cpSem, eqSem, ixSem, toP_int, toP_bl, toP_non, toP_tup, optAll, items, L2.atI, L2.ixN, flat, flats, PyData.eqv, bltSem, isiSem, tyOf, QQ.line, h1, h2, m1, m2, cutW_same] at c1 m2 ⊢
      simp [c1, m2, evSs, evS, evT, evAll, evAny, evE, evEs, evAnd, evOr, evTg, evTgs, tgsLen, evIt, evSrc, setAll, bind_ok, bind_ex, bind_bad, env_ok, env_ex, env_bad, calm_ok, ofO, fin, opSem, opInt, opAug, cpSem, eqSem, ixSem, toP_int, toP_bl, toP_non, toP_tup, optAll, items, L2.atI, L2.ixN, flat, flats, PyData.eqv, bltSem, isiSem, tyOf, QQ.line, cutW_same, mulp, h1]
  · simp [f45, b45, pr, evSs, evS, evT, evAll, evAny, evE, evEs, evAnd, evOr, evTg, evTgs, tgsLen, evIt, evSrc, setAll, bind_ok, bind_ex, bind_bad, env_ok, env_ex, env_bad, calm_ok, ofO, fin, opSem, opInt, opAug, cpSem, eqSem, ixSem, toP_int, toP_bl, toP_non, toP_tup, optAll, items, L2.atI, L2.ixN, flat, flats, PyData.eqv, bltSem, isiSem, tyOf, QQ.line, h1, m1, m2, cutW_same] at c1 ⊢
    simp [c1, evSs, evS, evT, evAll, evAny, evE, evEs, evAnd, evOr, evTg, evTgs, tgsLen, evIt, evSrc, setAll, bind_ok, bind_ex, bind_bad, env_ok, env_ex, env_bad, calm_ok, ofO, fin, opSem, opInt, opAug, cpSem, eqSem, ixSem, toP_int, toP_bl, toP_non, toP_tup, optAll, items, L2.atI, L2.ixN, flat, flats, PyData.eqv, bltSem, isiSem, tyOf, QQ.line, cutW_same]
theorem s_times {n a b : Nat} (h : 3 ≤ n) (hL : 20000 ≤ L) {r s : Q} (hr : PB a r) (hs : PB b s) (hab : a + b ≤ 8000) : fnS P L n 24 [pr r, pr s] w = .ok (pr (mulp r s), w) := by
  obtain ⟨m, rfl⟩ : ∃ m, n = m + 1 := ⟨n - 1, by omega⟩
  rw [fnS_at (F := f24) rfl rfl]
  have m1 : mulOk r.1 s.1 = true := hr.n.mulOk hs.n (by omega)
  have m2 : mulOk r.2 s.2 = true := hr.d.mulOk hs.d (by omega)
  have c1 : ∀ w', fnS P L m 26 [.int (r.1 * s.1), .int (r.2 * s.2)] w' = .ok (pr (mulp r s), w') := fun w' => s_lratio (by omega) hL (Int.ne_of_gt (Int.mul_pos hr.p hs.p)) ((hr.d.mul hs.d).mono hab)
  simp [f24, b24, pr, evSs, evS, evT, evAll, evAny, evE, evEs, evAnd, evOr, evTg, evTgs, tgsLen, evIt, evSrc, setAll, bind_ok, bind_ex, bind_bad, env_ok, env_ex, env_bad, calm_ok, ofO, fin, opSem, opInt, opAug, cpSem, eqSem, ixSem, toP_int, toP_bl, toP_non, toP_tup, optAll, items, L2.atI, L2.ixN, flat, flats, PyData.eqv, bltSem, isiSem, tyOf, QQ.line, m1, m2] at c1 ⊢
  simp [c1, evSs, evS, evT, evAll, evAny, evE, evEs, evAnd, evOr, evTg, evTgs, tgsLen, evIt, evSrc, setAll, bind_ok, bind_ex, bind_bad, env_ok, env_ex, env_bad, calm_ok, ofO, fin, opSem, opInt, opAug, cpSem, eqSem, ixSem, toP_int, toP_bl, toP_non, toP_tup, optAll, items, L2.atI, L2.ixN, flat, flats, PyData.eqv, bltSem, isiSem, tyOf, QQ.line, cutW_same]
theorem s_add {n a b : Nat} (h : 2 ≤ n) {r s : Q} (hr : PB a r) (hs : PB b s) (hab : a + b ≤ 8000) : fnS P L n 40 [pr r, pr s] w = .ok (pr (addp r s), w) := by
  obtain ⟨m, rfl⟩ : ∃ m, n = m + 1 := ⟨n - 1, by omega⟩
  rw [fnS_at (F := f40) rfl rfl]
  have m1 : mulOk r.1 s.2 = true := hr.n.mulOk hs.d (by omega)
  have m2 : mulOk r.2 s.2 = true := hr.d.mulOk hs.d (by omega)
  have m3 : mulOk s.1 r.2 = true := hs.n.mulOk hr.d (by omega)
  have c1 : ∀ w', fnS P L m 44 [.int (r.1 * s.2 + s.1 * r.2), .int (r.2 * s.2)] w' = .ok (pr (addp r s), w') := fun w' => s_lowest (by omega) (Int.ne_of_gt (Int.mul_pos hr.p hs.p)) ((hr.d.mul hs.d).mono hab)
  obtain ⟨r1, r2⟩ := r
  obtain ⟨s1, s2⟩ := s
  simp only at *
  by_cases h1 : r2 = 1
  · by_cases h2 : s2 = 1
    · subst h1 h2
      simp [f40, b40, pr, evSs, evS, evT, evAll, evAny, evE, evEs, evAnd, evOr, evTg, evTgs, tgsLen, evIt, evSrc, setAll, bind_ok, bind_ex, bind_bad, env_ok, env_ex, env_bad, calm_ok, ofO, fin, opSem, opInt, opAug, cpSem, eqSem, ixSem, toP_int, toP_bl, toP_non, toP_tup, optAll, items, L2.atI, L2.ixN, flat, flats, PyData.eqv, bltSem, isiSem, tyOf, QQ.line, cutW_same, addp, nf_one]
    · simp [f40, b40, pr, evSs, evS, evT, evAll, evAny, evE, evEs, evAnd, evOr, evTg, evTgs, tgsLen, evIt, evSrc, setAll, bind_ok, bind_ex, bind_bad, env_ok, env_ex, env_bad, calm_ok, ofO, fin, opSem, opInt, opAug, cpSem, eqSem, ixSem, toP_int, toP_bl, toP_non, toP_tup, optAll, items, L2.atI, L2.ixN, flat, flats, PyData.eqv, bltSem, isiSem, tyOf, QQ.line, h1, h2, m1, m2, m3, cutW_same] at c1 m1 m2 m3 ⊢
      simp [c1, m1, m2, m3, evSs, evS, evT, evAll, evAny, evE, evEs, evAnd, evOr, evTg, evTgs, tgsLen, evIt, evSrc, setAll, bind_ok, bind_ex, bind_bad, env_ok, env_ex, env_bad, calm_ok, ofO, fin, opSem, opInt, opAug, cpSem, eqSem, ixSem, toP_int, toP_bl, toP_non, toP_tup, optAll, items, L2.atI, L2.ixN, flat, flats, PyData.eqv, bltSem, isiSem, tyOf, QQ.line, cutW_same, addp, h1]
  · simp [f40, b40, pr, evSs, evS, evT, evAll, evAny, evE, evEs, evAnd, evOr, evTg, evTgs, tgsLen, evIt, evSrc, setAll, bind_ok, bind_ex, bind_bad, env_ok, env_ex, env_bad, calm_ok, ofO, fin, opSem, opInt, opAug, cpSem, eqSem, ixSem, toP_int, toP_bl, toP_non, toP_tup, optAll, items, L2.atI, L2.ixN, flat, flats, PyData.eqv, bltSem, isiSem, tyOf, QQ.line, h1, m1, m2, m3, cutW_same] at c1 ⊢
    simp [c1, evSs, evS, evT, evAll, evAny, evE, evEs, evAnd, evOr, evTg, evTgs, tgsLen, evIt, evSrc, setAll, bind_ok, bind_ex, bind_bad, env_ok, env_ex, env_bad, calm_ok, ofO, fin, opSem, opInt, opAug, cpSem, eqSem, ixSem, toP_int, toP_bl, toP_non, toP_tup, optAll, items, L2.atI, L2.ixN, flat, flats, PyData.eqv, bltSem, isiSem, tyOf, QQ.line, cutW_same]
theorem s_plus {n a b : Nat} (h : 3 ≤ n) (hL : 20000 ≤ L) {r s : Q} (hr : PB a r) (hs : PB b s) (hab : a + b ≤ 8000) : fnS P L n 17 [pr r, pr s] w = .ok (pr (addp r s), w) := by
  obtain ⟨m, rfl⟩ : ∃ m, n = m + 1 := ⟨n - 1, by omega⟩
  rw [fnS_at (F := f17) rfl rfl]
  have m1 : mulOk r.1 s.2 = true := hr.n.mulOk hs.d (by omega)
  have m2 : mulOk r.2 s.2 = true := hr.d.mulOk hs.d (by omega)
  have m3 : mulOk s.1 r.2 = true := hs.n.mulOk hr.d (by omega)
  have c1 : ∀ w', fnS P L m 26 [.int (r.1 * s.2 + s.1 * r.2), .int (r.2 * s.2)] w' = .ok (pr (addp r s), w') := fun w' => s_lratio (by omega) hL (Int.ne_of_gt (Int.mul_pos hr.p hs.p)) ((hr.d.mul hs.d).mono hab)
  simp [f17, b17, pr, evSs, evS, evT, evAll, evAny, evE, evEs, evAnd, evOr, evTg, evTgs, tgsLen, evIt, evSrc, setAll, bind_ok, bind_ex, bind_bad, env_ok, env_ex, env_bad, calm_ok, ofO, fin, opSem, opInt, opAug, cpSem, eqSem, ixSem, toP_int, toP_bl, toP_non, toP_tup, optAll, items, L2.atI, L2.ixN, flat, flats, PyData.eqv, bltSem, isiSem, tyOf, QQ.line, m1, m2, m3] at c1 ⊢
  simp [c1, evSs, evS, evT, evAll, evAny, evE, evEs, evAnd, evOr, evTg, evTgs, tgsLen, evIt, evSrc, setAll, bind_ok, bind_ex, bind_bad, env_ok, env_ex, env_bad, calm_ok, ofO, fin, opSem, opInt, opAug, cpSem, eqSem, ixSem, toP_int, toP_bl, toP_non, toP_tup, optAll, items, L2.atI, L2.ixN, flat, flats, PyData.eqv, bltSem, isiSem, tyOf, QQ.line, cutW_same]
end LW

set_option Elab.async false
set_option linter.all false
set_option maxRecDepth 100000
set_option maxHeartbeats 1000000
namespace LW
open QQ PySem
variable {L : Nat} {w : W}
theorem flat_pr (r : Q) : flat (pr r) = true := rfl
/-- acc * c + a, one after another -/
def horL (c : Q) (acc : Q) (ds : List Q) : Q := ds.foldl (fun acc a => addp (mulp acc c) a) acc
def pol (p : List Q) : D := .tup (p.map pr)
theorem horL_PB {a b c : Nat} {x : Q} (hx : PB c x) : ∀ {ds : List Q} {acc : Q}, PB a acc → (∀ d ∈ ds, PB b d) → PB (a + ds.length * (c + b + 1)) (horL x acc ds)
  | [], acc, ha, _ => by simpa [horL] using ha
  | d :: ds, acc, ha, hd => by
    have h1 : PB (a + c + b + 1) (addp (mulp acc x) d) := add_PB (mul_PB ha hx) (hd d List.mem_cons_self)
    have h2 := horL_PB hx (ds := ds) h1 fun e he => hd e (List.mem_cons_of_mem _ he)
    refine PB.mono h2 ?_
    rw [List.length_cons, Nat.add_mul]
    omega
def desc : Nat → List D
  | 0 => []
  | m + 1 => .int m :: desc m
theorem rangeM_desc : ∀ m : Nat, rangeM ((m : Int) - 1) m = desc m
  | 0 => rfl
  | m + 1 => by
    have ih := rangeM_desc m
    unfold rangeM at *
    rw [List.range_succ_eq_map, List.map_cons, List.map_map]
    show _ :: _ = D.int m :: desc m
    congr 1
    · simp
    · rw [← ih]
      apply List.map_congr_left
      intro i _
      show D.int _ = D.int _
      congr 1
      simp
      omega
def dT (p : Int) : Nat := 0
def kRF : QQ.Cls := ⟨("RatioField" : PySem.Str), [(0, .tup [.int 0, .int 1]), (3, .tup [.int 1, .int 1])], [(1, 54), (2, 55)], none, []⟩
theorem cls0 : P.cls[0]? = some kRF := rfl
theorem s_fplus {n a b : Nat} (h : 3 ≤ n) {o : D} {r s : Q} (hr : PB a r) (hs : PB b s) (hab : a + b ≤ 8000) : fnS P L n 54 [o, pr r, pr s] w = .ok (pr (addp r s), w) := by
  obtain ⟨m, rfl⟩ : ∃ m, n = m + 1 := ⟨n - 1, by omega⟩
  rw [fnS_at (F := f54) rfl rfl]
  have c1 : ∀ w', fnS P L m 40 [pr r, pr s] w' = .ok (pr (addp r s), w') := fun w' => s_add (by omega) hr hs hab
  simp [f54, b54, evSs, evS, evT, evAll, evAny, evE, evEs, evAnd, evOr, evTg, evTgs, tgsLen, evIt, evSrc, setAll, bind_ok, bind_ex, bind_bad, env_ok, env_ex, env_bad, calm_ok, ofO, fin, opSem, opInt, opAug, cpSem, eqSem, ixSem, toP_int, toP_bl, toP_non, toP_tup, optAll, items, L2.atI, L2.ixN, flat, flats, PyData.eqv, bltSem, isiSem, tyOf, QQ.line, c1, cutW_same, flat_pr]
theorem s_ftimes {n a b : Nat} (h : 3 ≤ n) {o : D} {r s : Q} (hr : PB a r) (hs : PB b s) (hab : a + b ≤ 8000) : fnS P L n 55 [o, pr r, pr s] w = .ok (pr (mulp r s), w) := by
  obtain ⟨m, rfl⟩ : ∃ m, n = m + 1 := ⟨n - 1, by omega⟩
  rw [fnS_at (F := f55) rfl rfl]
  have c1 : ∀ w', fnS P L m 45 [pr r, pr s] w' = .ok (pr (mulp r s), w') := fun w' => s_mul (by omega) hr hs hab
  simp [f55, b55, evSs, evS, evT, evAll, evAny, evE, evEs, evAnd, evOr, evTg, evTgs, tgsLen, evIt, evSrc, setAll, bind_ok, bind_ex, bind_bad, env_ok, env_ex, env_bad, calm_ok, ofO, fin, opSem, opInt, opAug, cpSem, eqSem, ixSem, toP_int, toP_bl, toP_non, toP_tup, optAll, items, L2.atI, L2.ixN, flat, flats, PyData.eqv, bltSem, isiSem, tyOf, QQ.line, c1, cutW_same, flat_pr]
def dG : Tg := .nm 4
def dB : Ss := .cons (.set 3 (.meth (.var 0) 1 (.cons (.meth (.var 0) 2 (.cons (.var 3) (.cons (.var 2) .nil))) (.cons (.var 4) .nil)))) (.nil)
theorem methOf_0 {w : W} {j : Nat} (hj : w.cs[j]? = some (.ins 0 [])) : methOf P w (.ref j) 1 = some 54 ∧ methOf P w (.ref j) 2 = some 55 := by
  unfold methOf insOf
  simp only [hj, cls0]
  exact ⟨rfl, rfl⟩
theorem d_loop {n a b c : Nat} (h : 3 ≤ n) {j : Nat} {p : D} {x : Q} (hx : PB c x) (hj : w.cs[j]? = some (.ins 0 [])) : ∀ {ds : List Q} {acc : Q} {y : Option D}, PB a acc → (∀ d ∈ ds, PB b d) → a + ds.length * (c + b + 1) + c + b + 1 ≤ 8000 →
    ∃ y', evFor (turnOf ⟨P, fnS P L n, L⟩ dG dB) (ds.map pr) [some (.ref j), some p, some (pr x), some (pr acc), y] w = .ok (.nx, [some (.ref j), some p, some (pr x), some (pr (horL x acc ds)), y'], w)
  | [], acc, y, _, _, _ => ⟨y, rfl⟩
  | d :: ds, acc, y, ha, hd, hs => by
    have hsz : (d :: ds).length * (c + b + 1) = ds.length * (c + b + 1) + (c + b + 1) := by rw [List.length_cons, Nat.add_mul]; omega
    rw [hsz] at hs
    have hd0 := hd d List.mem_cons_self
    have h1 : PB (a + c + b + 1) (addp (mulp acc x) d) := add_PB (mul_PB ha hx) hd0
    obtain ⟨m1, m2⟩ := methOf_0 hj
    have c1 : fnS P L n 55 [.ref j, pr acc, pr x] w = .ok (pr (mulp acc x), w) := s_ftimes h ha hx (by omega)
    have c2 : fnS P L n 54 [.ref j, pr (mulp acc x), pr d] w = .ok (pr (addp (mulp acc x) d), w) := s_fplus h (mul_PB ha hx) hd0 (by omega)
    obtain ⟨y', e⟩ := d_loop (n := n) (a := a + c + b + 1) (b := b) (c := c) h (j := j) (p := p) hx hj (ds := ds) (acc := addp (mulp acc x) d) (y := some (pr d)) h1 (fun e he => hd e (List.mem_cons_of_mem _ he)) (by omega)
    refine ⟨y', (for_nx ?_).trans e⟩
    simp [turnOf, dG, dB, evSs, evS, evT, evAll, evAny, evE, evEs, evAnd, evOr, evTg, evTgs, tgsLen, evIt, evSrc, setAll, bind_ok, bind_ex, bind_bad, env_ok, env_ex, env_bad, calm_ok, ofO, fin, opSem, opInt, opAug, cpSem, eqSem, ixSem, toP_int, toP_bl, toP_non, toP_tup, optAll, items, L2.atI, L2.ixN, flat, flats, PyData.eqv, bltSem, isiSem, tyOf, QQ.line, m1, m2, c1, c2]
theorem s_dvalue {n b c : Nat} (h : 4 ≤ n) {j : Nat} {p : List Q} {x : Q} (hx : PB c x) (hj : w.cs[j]? = some (.ins 0 [])) (hp : ∀ d ∈ p, PB b d) (hs : 1 + p.length * (c + b + 1) + c + b + 1 ≤ 8000) : fnS P L n 53 [.ref j, pol p, pr x] w = .ok (pr (horL x (0, 1) p.reverse), w) := by
  obtain ⟨m, rfl⟩ : ∃ m, n = m + 1 := ⟨n - 1, by omega⟩
  rw [fnS_at (F := f53) rfl rfl]
  have eb : b53 = .cons (.set 3 (.fld (.var 0) 0)) (.cons (.for dG (.seq (.rev (.var 1))) dB) (.cons (.ret (.var 3)) (.nil))) := rfl
  have z : PB 1 (0, 1) := ⟨by unfold Bd; decide, by unfold Bd; decide, by decide⟩
  have gf : getF P ⟨w.cs, w.cs.length⟩ (.ref j) 0 = some (.tup [.int 0, .int 1]) := by
    unfold getF insOf
    simp only [hj, cls0]
    rfl
  obtain ⟨y', e⟩ := d_loop (L := L) (w := ⟨w.cs, w.cs.length⟩) (n := m) (a := 1) (b := b) (c := c) (by omega) (j := j) (p := pol p) hx hj (ds := p.reverse) (acc := (0, 1)) (y := none) z (fun d hd => hp d (by simpa using hd)) (by simpa using hs)
  have ez : (D.tup [.int 0, .int 1]) = pr (0, 1) := rfl
  simp [f53, eb, evSs, evS, evT, evAll, evAny, evE, evEs, evAnd, evOr, evTg, evTgs, tgsLen, evIt, evSrc, setAll, bind_ok, bind_ex, bind_bad, env_ok, env_ex, env_bad, calm_ok, ofO, fin, opSem, opInt, opAug, cpSem, eqSem, ixSem, toP_int, toP_bl, toP_non, toP_tup, optAll, items, L2.atI, L2.ixN, flat, flats, PyData.eqv, bltSem, isiSem, tyOf, QQ.line, gf, pol, revSem, ez, List.map_reverse] at e ⊢
  rw [e]
  simp [evSs, evS, evT, evAll, evAny, evE, evEs, evAnd, evOr, evTg, evTgs, tgsLen, evIt, evSrc, setAll, bind_ok, bind_ex, bind_bad, env_ok, env_ex, env_bad, calm_ok, ofO, fin, opSem, opInt, opAug, cpSem, eqSem, ixSem, toP_int, toP_bl, toP_non, toP_tup, optAll, items, L2.atI, L2.ixN, flat, flats, PyData.eqv, bltSem, isiSem, tyOf, QQ.line, cutW_same, flat_pr]
end LW

set_option Elab.async false
set_option linter.all false
set_option maxRecDepth 100000
set_option maxHeartbeats 1000000
namespace LW
open QQ PySem
variable {L : Nat} {w : W}
def hv (r : Q) (p : List Q) : Q := horL r (0, 1) p.reverse
def hbL (s r : Q) (acc : Q) (ps : List (List Q)) : Q := ps.foldl (fun acc p => addp (mulp acc s) (hv r p)) acc
def bpol (p : List (List Q)) : D := .tup (p.map pol)
theorem z01 : PB 1 (0, 1) := ⟨by unfold Bd; decide, by unfold Bd; decide, by decide⟩
theorem hv_PB {b c k : Nat} {r : Q} {p : List Q} (hr : PB c r) (hp : ∀ d ∈ p, PB b d) (hk : p.length ≤ k) : PB (1 + k * (c + b + 1)) (hv r p) := by
  refine (horL_PB hr z01 (ds := p.reverse) fun d hd => hp d (by simpa using hd)).mono ?_
  have : p.reverse.length * (c + b + 1) ≤ k * (c + b + 1) := Nat.mul_le_mul_right _ (by simpa using hk)
  omega
theorem s_pvalue {n b c : Nat} (h : 5 ≤ n) {p : List Q} {x : Q} (hx : PB c x) (hp : ∀ d ∈ p, PB b d) (hs : 1 + p.length * (c + b + 1) + c + b + 1 ≤ 8000) : fnS P L n 50 [pol p, pr x] w = .ok (pr (hv x p), w) := by
  obtain ⟨m, rfl⟩ : ∃ m, n = m + 1 := ⟨n - 1, by omega⟩
  rw [fnS_at (F := f50) rfl rfl]
  have c1 : fnS P L m 53 [.ref w.cs.length, pol p, pr x] ⟨w.cs ++ [.ins 0 []], w.cs.length⟩ = .ok (pr (hv x p), ⟨w.cs ++ [.ins 0 []], w.cs.length⟩) := s_dvalue (by omega) hx (by simp) hp hs
  have ek : kRF.init = none := rfl
  simp [f50, b50, evSs, evS, evT, evAll, evAny, evE, evEs, evAnd, evOr, evTg, evTgs, tgsLen, evIt, evSrc, setAll, bind_ok, bind_ex, bind_bad, env_ok, env_ex, env_bad, calm_ok, ofO, fin, opSem, opInt, opAug, cpSem, eqSem, ixSem, toP_int, toP_bl, toP_non, toP_tup, optAll, items, L2.atI, L2.ixN, flat, flats, PyData.eqv, bltSem, isiSem, tyOf, QQ.line, cls0, ek, W.new, c1, flat_pr]
  exact cutW_back (Nat.le_refl _) rfl
def bG : Tg := .nm 4
def bB : Ss := .cons (.set 3 (.call 40 (.cons (.call 45 (.cons (.var 3) (.cons (.var 2) .nil))) (.cons (.call 50 (.cons (.var 4) (.cons (.var 1) .nil))) .nil)))) (.nil)
/-- the size of a value of a polynomial of two members of size 8 at a pair of size c -/
theorem b_loop {n a c b k : Nat} (h : 6 ≤ n) {p : D} {r s : Q} (hr : PB c r) (hsb : PB c s) : ∀ {ps : List (List Q)} {acc : Q} {y : Option D}, PB a acc → (∀ q ∈ ps, q.length ≤ k ∧ ∀ d ∈ q, PB b d) → a + ps.length * (c + (1 + k * (c + b + 1)) + 1) + (c + (1 + k * (c + b + 1)) + 1) + c + b + 1 ≤ 8000 →
    ∃ y', evFor (turnOf ⟨P, fnS P L n, L⟩ bG bB) (ps.map pol) [some p, some (pr r), some (pr s), some (pr acc), y] w = .ok (.nx, [some p, some (pr r), some (pr s), some (pr (hbL s r acc ps)), y'], w)
  | [], acc, y, _, _, _ => ⟨y, rfl⟩
  | q :: ps, acc, y, ha, hd, hs => by
    obtain ⟨q1, q2⟩ := hd q List.mem_cons_self
    have hq := hv_PB hr q2 q1
    have hsz : (q :: ps).length * (c + (1 + k * (c + b + 1)) + 1) = ps.length * (c + (1 + k * (c + b + 1)) + 1) + (c + (1 + k * (c + b + 1)) + 1) := by rw [List.length_cons, Nat.add_mul]; omega
    rw [hsz] at hs
    have hkq : q.length * (c + b + 1) ≤ k * (c + b + 1) := Nat.mul_le_mul_right _ q1
    have h1 : PB (a + (c + (1 + k * (c + b + 1)) + 1)) (addp (mulp acc s) (hv r q)) := (add_PB (mul_PB ha hsb) hq).mono (by omega)
    have c1 : fnS P L n 45 [pr acc, pr s] w = .ok (pr (mulp acc s), w) := s_mul (by omega) ha hsb (by omega)
    have c2 : fnS P L n 50 [pol q, pr r] w = .ok (pr (hv r q), w) := s_pvalue (by omega) hr q2 (by omega)
    have c3 : fnS P L n 40 [pr (mulp acc s), pr (hv r q)] w = .ok (pr (addp (mulp acc s) (hv r q)), w) := s_add (by omega) (mul_PB ha hsb) hq (by omega)
    obtain ⟨y', e⟩ := b_loop (n := n) (a := a + (c + (1 + k * (c + b + 1)) + 1)) (b := b) (c := c) (k := k) h (p := p) hr hsb (ps := ps) (acc := addp (mulp acc s) (hv r q)) (y := some (pol q)) h1 (fun e he => hd e (List.mem_cons_of_mem _ he)) (by omega)
    refine ⟨y', (for_nx ?_).trans e⟩
    simp [turnOf, bG, bB, evSs, evS, evT, evAll, evAny, evE, evEs, evAnd, evOr, evTg, evTgs, tgsLen, evIt, evSrc, setAll, bind_ok, bind_ex, bind_bad, env_ok, env_ex, env_bad, calm_ok, ofO, fin, opSem, opInt, opAug, cpSem, eqSem, ixSem, toP_int, toP_bl, toP_non, toP_tup, optAll, items, L2.atI, L2.ixN, flat, flats, PyData.eqv, bltSem, isiSem, tyOf, QQ.line, c1, c2, c3]
def bv (p : List (List Q)) (r s : Q) : Q := hbL s r (0, 1) p.reverse
theorem s_bvalue {n b c k : Nat} (h : 7 ≤ n) {p : List (List Q)} {r s : Q} (hr : PB c r) (hs : PB c s) (hp : ∀ q ∈ p, q.length ≤ k ∧ ∀ d ∈ q, PB b d) (hz : 1 + p.length * (c + (1 + k * (c + b + 1)) + 1) + (c + (1 + k * (c + b + 1)) + 1) + c + b + 1 ≤ 8000) : fnS P L n 47 [bpol p, pr r, pr s] w = .ok (pr (bv p r s), w) := by
  obtain ⟨m, rfl⟩ : ∃ m, n = m + 1 := ⟨n - 1, by omega⟩
  rw [fnS_at (F := f47) rfl rfl]
  have eb : b47 = .cons (.set 3 (.glob 3)) (.cons (.for bG (.seq (.rev (.var 0))) bB) (.cons (.ret (.var 3)) (.nil))) := rfl
  have g0 : P.cst[3]? = some (("ZERO" : PySem.Str), pr (0, 1)) := rfl
  obtain ⟨y', e⟩ := b_loop (L := L) (w := ⟨w.cs, w.cs.length⟩) (n := m) (a := 1) (b := b) (c := c) (k := k) (by omega) (p := bpol p) hr hs (ps := p.reverse) (acc := (0, 1)) (y := none) z01 (fun d hd => hp d (by simpa using hd)) (by simpa using hz)
  simp [f47, eb, evSs, evS, evT, evAll, evAny, evE, evEs, evAnd, evOr, evTg, evTgs, tgsLen, evIt, evSrc, setAll, bind_ok, bind_ex, bind_bad, env_ok, env_ex, env_bad, calm_ok, ofO, fin, opSem, opInt, opAug, cpSem, eqSem, ixSem, toP_int, toP_bl, toP_non, toP_tup, optAll, items, L2.atI, L2.ixN, flat, flats, PyData.eqv, bltSem, isiSem, tyOf, QQ.line, g0, bpol, revSem, List.map_reverse] at e ⊢
  rw [e]
  simp [evSs, evS, evT, evAll, evAny, evE, evEs, evAnd, evOr, evTg, evTgs, tgsLen, evIt, evSrc, setAll, bind_ok, bind_ex, bind_bad, env_ok, env_ex, env_bad, calm_ok, ofO, fin, opSem, opInt, opAug, cpSem, eqSem, ixSem, toP_int, toP_bl, toP_non, toP_tup, optAll, items, L2.atI, L2.ixN, flat, flats, PyData.eqv, bltSem, isiSem, tyOf, QQ.line, cutW_same, flat_pr, bv]
/-! ### the law's own -/
def lG : Tg := .nm 3
def lB : Ss := .cons (.set 2 (.call 17 (.cons (.call 24 (.cons (.var 2) (.cons (.var 1) .nil))) (.cons (.idx (.var 0) (.var 3)) .nil)))) (.nil)
theorem atI_nat {α : Type} (l : List α) (i : Nat) : L2.atI l (i : Int) = l[i]? := by
  unfold L2.atI L2.ixN
  simp
  by_cases hi : i < l.length
  · simp [hi]
  · simp [hi]
theorem l_loop {n a b c : Nat} (h : 4 ≤ n) (hL : 20000 ≤ L) {p : List Q} {x : Q} (hx : PB c x) (hp : ∀ d ∈ p, PB b d) : ∀ {k : Nat} {acc : Q} {y : Option D}, k ≤ p.length → PB a acc → a + k * (c + b + 1) + c + b + 1 ≤ 8000 →
    ∃ y', evFor (turnOf ⟨P, fnS P L n, L⟩ lG lB) (desc k) [some (pol p), some (pr x), some (pr acc), y] w = .ok (.nx, [some (pol p), some (pr x), some (pr (horL x acc (p.take k).reverse)), y'], w) := by
  intro k
  induction k generalizing a with
  | zero => exact fun _ _ _ => ⟨_, rfl⟩
  | succ k ih =>
    intro acc y hk ha hs
    have hsz : (k + 1) * (c + b + 1) = k * (c + b + 1) + (c + b + 1) := by rw [Nat.add_mul]; omega
    rw [hsz] at hs
    have hk' : k < p.length := by omega
    have hd0 := hp p[k] (List.getElem_mem hk')
    have h1 : PB (a + c + b + 1) (addp (mulp acc x) p[k]) := add_PB (mul_PB ha hx) hd0
    have c1 : fnS P L n 24 [pr acc, pr x] w = .ok (pr (mulp acc x), w) := s_times (by omega) hL ha hx (by omega)
    have c2 : fnS P L n 17 [pr (mulp acc x), pr p[k]] w = .ok (pr (addp (mulp acc x) p[k]), w) := s_plus (by omega) hL (mul_PB ha hx) hd0 (by omega)
    obtain ⟨y', e⟩ := ih (a := a + c + b + 1) (acc := addp (mulp acc x) p[k]) (y := some (.int k)) (by omega) h1 (by omega)
    have ix : ∀ w', ixSem (pol p) (.int k) w' = some (pr p[k]) := fun w' => by
      show L2.atI (p.map pr) (k : Int) = _
      rw [atI_nat]
      simp [hk']
    refine ⟨y', Eq.trans (for_nx (d := .int k) (ds := desc k) ?_) (e.trans ?_)⟩
    · simp [turnOf, lG, lB, evSs, evS, evE, evEs, evTg, bind_ok, env_ok, calm_ok, ix, c1, c2]
    · rw [List.take_succ_eq_append_getElem hk', List.reverse_append]
      rfl
theorem big_small {i : Int} (h1 : -1 ≤ i) (h2 : i ≤ 1000) : big i = true := by
  unfold big
  simp
  omega
theorem s_lvalue {n b c : Nat} (h : 5 ≤ n) (hL : 20000 ≤ L) {p : List Q} {x : Q} (hx : PB c x) (hp : ∀ d ∈ p, PB b d) (hlen : p.length ≤ 1000) (hs : 1 + p.length * (c + b + 1) + c + b + 1 ≤ 8000) : fnS P L n 33 [pol p, pr x] w = .ok (pr (hv x p), w) := by
  obtain ⟨m, rfl⟩ : ∃ m, n = m + 1 := ⟨n - 1, by omega⟩
  rw [fnS_at (F := f33) rfl rfl]
  have eb : b33 = .cons (.set 2 (.tup (.cons (.cst (.int 0)) (.cons (.cst (.int 1)) .nil)))) (.cons (.for lG (.rngd (.bin .sub (.blt .len (.cons (.var 0) .nil)) (.cst (.int 1))) (.neg (.cst (.int 1)))) lB) (.cons (.ret (.var 2)) (.nil))) := rfl
  obtain ⟨y', e⟩ := l_loop (L := L) (w := ⟨w.cs, w.cs.length⟩) (n := m) (a := 1) (b := b) (c := c) (by omega) hL hx hp (k := p.length) (acc := (0, 1)) (y := none) (Nat.le_refl _) z01 hs
  rw [List.take_length] at e
  have b1 : big ((p.length : Int) - 1) = true := big_small (by omega) (by omega)
  have b2 : big (-1) = true := by decide
  have el : ∀ w', bltSem .len [pol p] w' = some (.int p.length, w') := fun w' => by
    show some (D.int ((p.map pr).length : Nat), w') = _
    rw [List.length_map]
  have e2 : D.tup [.int 0, .int 1] = pr (0, 1) := rfl
  simp [f33, eb, evSs, evS, evE, evEs, evIt, evSrc, opSem, opInt, bind_ok, env_ok, calm_ok, ofO, QQ.line, el, b1, b2, e2]
  rw [rangeM_desc, e]
  simp [fin, bind_ok, env_ok, cutW_same, flat_pr, hv]
def mG : Tg := .nm 4
def mB : Ss := .cons (.set 3 (.call 17 (.cons (.call 24 (.cons (.var 3) (.cons (.var 2) .nil))) (.cons (.call 33 (.cons (.idx (.var 0) (.var 4)) (.cons (.var 1) .nil))) .nil)))) (.nil)
theorem m_loop {n a b c z : Nat} (h : 6 ≤ n) (hL : 20000 ≤ L) {p : List (List Q)} {r s : Q} (hr : PB c r) (hsb : PB c s) (hz : z ≤ 1000) (hp : ∀ q ∈ p, q.length ≤ z ∧ ∀ d ∈ q, PB b d) : ∀ {k : Nat} {acc : Q} {y : Option D}, k ≤ p.length → PB a acc → a + k * (c + (1 + z * (c + b + 1)) + 1) + (c + (1 + z * (c + b + 1)) + 1) + c + b + 1 ≤ 8000 →
    ∃ y', evFor (turnOf ⟨P, fnS P L n, L⟩ mG mB) (desc k) [some (bpol p), some (pr r), some (pr s), some (pr acc), y] w = .ok (.nx, [some (bpol p), some (pr r), some (pr s), some (pr (hbL s r acc (p.take k).reverse)), y'], w) := by
  intro k
  induction k generalizing a with
  | zero => exact fun _ _ _ => ⟨_, rfl⟩
  | succ k ih =>
    intro acc y hk ha hs
    have hk' : k < p.length := by omega
    obtain ⟨q1, q2⟩ := hp p[k] (List.getElem_mem hk')
    have hq := hv_PB hr q2 q1
    have hsz : (k + 1) * (c + (1 + z * (c + b + 1)) + 1) = k * (c + (1 + z * (c + b + 1)) + 1) + (c + (1 + z * (c + b + 1)) + 1) := by rw [Nat.add_mul]; omega
    rw [hsz] at hs
    have hkq : p[k].length * (c + b + 1) ≤ z * (c + b + 1) := Nat.mul_le_mul_right _ q1
    have h1 : PB (a + (c + (1 + z * (c + b + 1)) + 1)) (addp (mulp acc s) (hv r p[k])) := (add_PB (mul_PB ha hsb) hq).mono (by omega)
    have c1 : fnS P L n 24 [pr acc, pr s] w = .ok (pr (mulp acc s), w) := s_times (by omega) hL ha hsb (by omega)
    have c2 : fnS P L n 33 [pol p[k], pr r] w = .ok (pr (hv r p[k]), w) := s_lvalue (by omega) hL hr q2 (by omega) (by omega)
    have c3 : fnS P L n 17 [pr (mulp acc s), pr (hv r p[k])] w = .ok (pr (addp (mulp acc s) (hv r p[k])), w) := s_plus (by omega) hL (mul_PB ha hsb) hq (by omega)
    obtain ⟨y', e⟩ := ih (a := a + (c + (1 + z * (c + b + 1)) + 1)) (acc := addp (mulp acc s) (hv r p[k])) (y := some (.int k)) (by omega) h1 (by omega)
    have ix : ∀ w', ixSem (bpol p) (.int k) w' = some (pol p[k]) := fun w' => by
      show L2.atI (p.map pol) (k : Int) = _
      rw [atI_nat]
      simp [hk']
    refine ⟨y', Eq.trans (for_nx (d := .int k) (ds := desc k) ?_) (e.trans ?_)⟩
    · simp [turnOf, mG, mB, evSs, evS, evE, evEs, evTg, bind_ok, env_ok, calm_ok, ix, c1, c2, c3]
    · rw [List.take_succ_eq_append_getElem hk', List.reverse_append]
      rfl
theorem s_lbvalue {n b c z : Nat} (h : 7 ≤ n) (hL : 20000 ≤ L) {p : List (List Q)} {r s : Q} (hr : PB c r) (hsb : PB c s) (hz : z ≤ 1000) (hlen : p.length ≤ 1000) (hp : ∀ q ∈ p, q.length ≤ z ∧ ∀ d ∈ q, PB b d) (hs : 1 + p.length * (c + (1 + z * (c + b + 1)) + 1) + (c + (1 + z * (c + b + 1)) + 1) + c + b + 1 ≤ 8000) :
    fnS P L n 25 [bpol p, pr r, pr s] w = .ok (pr (bv p r s), w) := by
  obtain ⟨m, rfl⟩ : ∃ m, n = m + 1 := ⟨n - 1, by omega⟩
  rw [fnS_at (F := f25) rfl rfl]
  have eb : b25 = .cons (.set 3 (.tup (.cons (.cst (.int 0)) (.cons (.cst (.int 1)) .nil)))) (.cons (.for mG (.rngd (.bin .sub (.blt .len (.cons (.var 0) .nil)) (.cst (.int 1))) (.neg (.cst (.int 1)))) mB) (.cons (.ret (.var 3)) (.nil))) := rfl
  obtain ⟨y', e⟩ := m_loop (L := L) (w := ⟨w.cs, w.cs.length⟩) (n := m) (a := 1) (b := b) (c := c) (by omega) hL hr hsb hz hp (k := p.length) (acc := (0, 1)) (y := none) (Nat.le_refl _) z01 hs
  rw [List.take_length] at e
  have b1 : big ((p.length : Int) - 1) = true := big_small (by omega) (by omega)
  have b2 : big (-1) = true := by decide
  have el : ∀ w', bltSem .len [bpol p] w' = some (.int p.length, w') := fun w' => by
    show some (D.int ((p.map pol).length : Nat), w') = _
    rw [List.length_map]
  have e2 : D.tup [.int 0, .int 1] = pr (0, 1) := rfl
  simp [f25, eb, evSs, evS, evE, evEs, evIt, evSrc, opSem, opInt, bind_ok, env_ok, calm_ok, ofO, QQ.line, el, b1, b2, e2]
  rw [rangeM_desc, e]
  simp [fin, bind_ok, env_ok, cutW_same, flat_pr, bv]
end LW

set_option Elab.async false
set_option linter.all false
set_option maxRecDepth 100000
set_option maxHeartbeats 1000000
namespace LW
open QQ PySem
variable {L : Nat} {w : W}
def fac : Nat → Nat
  | 0 => 1
  | n + 1 => (n + 1) * fac n
theorem fac_pos : ∀ n, 0 < fac n
  | 0 => Nat.one_pos
  | n + 1 => Nat.mul_pos (Nat.succ_pos n) (fac_pos n)
theorem fac_bd {n : Nat} (h : n ≤ 100) : Bd (7 * n + 1) (fac n : Nat) := by
  unfold Bd
  simp only [Int.natAbs_natCast]
  induction n with
  | zero => decide
  | succ n ih =>
    have := ih (by omega)
    have e : 7 * (n + 1) + 1 = (7 * n + 1) + 7 := by omega
    rw [e, Nat.pow_add]
    show (n + 1) * fac n < _
    rw [Nat.mul_comm]
    exact Nat.mul_lt_mul'' this (by omega)
theorem mulOk_small {i j : Int} (h : j.natAbs < 2 ^ 63) : mulOk i j = true := by
  have hb : Bd 63 j := h
  have := hb.nb
  unfold mulOk
  have e : decide (nb j < 64) = true := decide_eq_true (by omega)
  rw [e]
  simp
def cG : Tg := .nm 2
def cB : Ss := .cons (.set 1 (.bin .mul (.var 1) (.var 2))) (.nil)
theorem rangeD_two : ∀ m : Nat, rangeD 2 m = (List.range m).map fun i => D.int ((i + 2 : Nat) : Int) := fun m => by
  unfold rangeD
  apply List.map_congr_left
  intro i _
  congr 1
  omega
theorem f_loop {C : QQ.Ctx} (x : D) (w : W) : ∀ (m j : Nat) (y : Option D), j + m ≤ 1000 → 
    ∃ y', evFor (turnOf C cG cB) ((List.range' j m).map fun i => D.int ((i + 2 : Nat) : Int)) [some x, some (.int (fac (j + 1) : Nat)), y] w = .ok (.nx, [some x, some (.int (fac (j + m + 1) : Nat)), y'], w)
  | 0, j, y, _ => ⟨y, rfl⟩
  | m + 1, j, y, h => by
    obtain ⟨y', e⟩ := f_loop (C := C) x w m (j + 1) (some (.int ((j + 2 : Nat) : Int))) (by omega)
    have hm : ∀ i : Int, mulOk i ((j + 2 : Nat) : Int) = true := fun i => mulOk_small (by omega)
    have ef : (fac (j + 1) : Int) * ((j + 2 : Nat) : Int) = (fac (j + 1 + 1) : Nat) := by
      show _ = (((j + 1 + 1) * fac (j + 1) : Nat) : Int)
      rw [Nat.mul_comm]
      push_cast
      rfl
    refine ⟨y', ?_⟩
    rw [List.range'_succ, List.map_cons]
    refine Eq.trans (for_nx ?_) (e.trans ?_)
    · simp only [turnOf, cG, cB, evSs, evS, evE, evTg, bind_ok, env_ok, calm_ok]
      simp only [List.set_cons_succ, List.set_cons_zero, List.getElem?_cons_succ, List.getElem?_cons_zero, evE, bind_ok, env_ok, opSem, opInt, hm, if_true, ofO, ef]
    · have : j + 1 + m + 1 = j + (m + 1) + 1 := by omega
      rw [this]
theorem h1 (C : QQ.Ctx) (ρ : QQ.Env) (w' : W) : evE C ρ (.cst (.int 2)) w' = .ok (.int 2, w') := rfl
theorem zz (C : QQ.Ctx) (ρ : QQ.Env) (j : Int) (b : E) (w' : W) (h2 : evE C ρ b w' = .ok (.int j, w')) (b1 : big j = true) (b2 : big 2 = true) : evIt C ρ (.rng2 (.cst (.int 2)) b) w' = .ok (.fix (rangeD 2 (j - 2).toNat), w') :=
  it_rng2 (h1 C ρ w') h2 b2 b1
theorem el (k : Nat) : ((k : Int) + 1 - 2).toNat = k - 1 := by omega
theorem zy (C : QQ.Ctx) (ρ : QQ.Env) (k : Nat) (b : E) (w' : W) (h2 : evE C ρ b w' = .ok (.int (k + 1), w')) (b1 : big (k + 1) = true) (b2 : big 2 = true) : evIt C ρ (.rng2 (.cst (.int 2)) b) w' = .ok (.fix (rangeD 2 (k - 1)), w') := by
  have z := zz C ρ (k + 1) b w' h2 b1 b2
  rw [el] at z
  exact z
def cI : QQ.It := .rng2 (.cst (.int 2)) (.bin .add (.var 0) (.cst (.int 1)))
theorem s_lfact {n k : Nat} (h : 1 ≤ n) (hk : k ≤ 900) : fnS P L n 27 [.int (k : Nat)] w = .ok (.int (fac k : Nat), w) := by
  obtain ⟨m, rfl⟩ : ∃ m, n = m + 1 := ⟨n - 1, by omega⟩
  have b1 : big ((k : Int) + 1) = true := big_small (by omega) (by omega)
  have b2 : big 2 = true := big_small (by decide) (by decide)
  obtain ⟨y', e⟩ := f_loop (C := ⟨P, fnS P L m, L⟩) (.int (k : Nat)) ⟨w.cs, w.cs.length⟩ (k - 1) 0 none (by omega)
  have ef : fac (0 + (k - 1) + 1) = fac k := by
    cases k with
    | zero => rfl
    | succ k => simp
  rw [ef] at e
  have er : rangeD 2 (k - 1) = (List.range' 0 (k - 1)).map fun i => D.int ((i + 2 : Nat) : Int) := by
    rw [rangeD_two, List.range_eq_range']
  rw [← er] at e
  have eb : f27.body = .cons (.set 1 (.cst (.int 1))) (.cons (.for cG cI cB) (.cons (.ret (.var 1)) (.nil))) := rfl
  have h2 : evE ⟨P, fnS P L m, L⟩ [some (.int (k : Nat)), some (.int 1), none] (.bin .add (.var 0) (.cst (.int 1))) ⟨w.cs, w.cs.length⟩ = .ok (.int ((k : Int) + 1), ⟨w.cs, w.cs.length⟩) := rfl
  refine fn_rt0 (F := f27) rfl rfl (ρ' := [some (.int (k : Nat)), some (.int (fac k : Nat)), y']) ?_ rfl
  rw [eb]
  refine (ss_nx (st_set rfl)).trans ((ss_nx (st_for (zy _ _ k _ _ h2 b1 b2) e)).trans (ss_rt (st_ret rfl)))
end LW

set_option Elab.async false
set_option linter.all false
set_option maxRecDepth 100000
set_option maxHeartbeats 1000000
namespace LW
open QQ PySem
variable {L : Nat} {w : W}
theorem fold_fac : ∀ (n j : Nat), (List.range' j n).foldl (fun (p i : Nat) => p * (i + 1)) (fac j) = fac (j + n)
  | 0, j => rfl
  | n + 1, j => by
    rw [List.range'_succ, List.foldl_cons]
    have e : fac j * (j + 1) = fac (j + 1) := Nat.mul_comm _ _
    rw [e, fold_fac n (j + 1)]
    congr 1
    omega
theorem fact_eq (n : Nat) : Builtin.Math.factorialNat n = fac n := by
  unfold Builtin.Math.factorialNat
  rw [List.range_eq_range']
  have := fold_fac n 0
  rw [Nat.zero_add] at this
  exact this
/-- the product of factorials -/
def pf (a : Nat) (ns : List Nat) : Nat := ns.foldl (fun a n => a * fac n) a
theorem pf_bd {ns : List Nat} (h : ∀ n ∈ ns, n ≤ 100) {a b : Nat} (ha : Bd b (a : Nat)) : Bd (b + ns.length * 701) (pf a ns : Nat) := by
  induction ns generalizing a b with
  | nil => simpa [pf] using ha
  | cons n ns ih =>
    have h1 := fac_bd (h n List.mem_cons_self)
    have h2 : Bd (b + 701) ((a * fac n : Nat) : Int) := by
      have := ha.mul h1
      have hn := h n List.mem_cons_self
      refine Bd.mono (b := b + (7 * n + 1)) ?_ (by omega)
      push_cast
      exact this
    have h3 := ih (fun m hm => h m (List.mem_cons_of_mem _ hm)) h2
    refine Bd.mono h3 ?_
    rw [List.length_cons, Nat.add_mul]
    omega
theorem pf_pos {ns : List Nat} {a : Nat} (h : 0 < a) : 0 < pf a ns := by
  induction ns generalizing a with
  | nil => exact h
  | cons n ns ih => exact ih (Nat.mul_pos h (fac_pos n))
def eG : Tg := .nm 2
def eB : Ss := .cons (.aug 1 .mul (.blt .fact (.cons (.var 2) .nil))) (.nil)
theorem e_loop {C : QQ.Ctx} {j : Nat} {ns : List Nat} (hj : w.lst j = some (ns.map fun (n : Nat) => D.int n)) (h : ∀ n ∈ ns, n ≤ 100) (hl : ns.length ≤ 10) : ∀ (k m i a b : Nat) (y : Option D), i + k = ns.length → k < m → Bd b (a : Nat) → b + k * 701 ≤ 10000 →
    ∃ y', evLive (turnOf C eG eB) (fun w => w.lst j) m i [some (.ref j), some (.int (a : Nat)), y] w = .ok (.nx, [some (.ref j), some (.int (pf a (ns.drop i) : Nat)), y'], w)
  | 0, m + 1, i, a, b, y, hi, _, _, _ => by
    refine ⟨y, ?_⟩
    rw [live_end hj (by simp; omega)]
    have : ns.drop i = [] := List.drop_eq_nil_of_le (by omega)
    rw [this]
    rfl
  | k + 1, m + 1, i, a, b, y, hi, hm, ha, hb => by
    have hlt : i < ns.length := by omega
    have hn := h ns[i] (List.getElem_mem hlt)
    have hf := fac_bd hn
    have h2 : Bd (b + 701) ((a * fac ns[i] : Nat) : Int) := by
      have := ha.mul hf
      refine Bd.mono (b := b + (7 * ns[i] + 1)) ?_ (by omega)
      push_cast
      exact this
    have mo : mulOk (a : Nat) (fac ns[i] : Nat) = true := ha.mulOk hf (by omega)
    obtain ⟨y', e⟩ := e_loop (C := C) hj h hl k m (i + 1) (a * fac ns[i]) (b + 701) (some (.int (ns[i] : Nat))) (by omega) (by omega) h2 (by omega)
    refine ⟨y', (live_nx (d := .int (ns[i] : Nat)) hj (by simp [hlt]) ?_).trans (e.trans ?_)⟩
    · have hlog : (fac ns[i]).log2 < 100000000 := by
        have := hf.nb
        unfold QQ.nb at this
        simp only [Int.natAbs_natCast] at this
        omega
      have c0 : (0 : Int) ≤ (ns[i] : Nat) ∧ ((ns[i] : Nat) : Int) ≤ 10000 := by omega
      have hb1 : bltSem .fact [.int (ns[i] : Nat)] w = some (.int (fac ns[i] : Nat), w) := by
        show (if 0 ≤ ((ns[i] : Nat) : Int) ∧ ((ns[i] : Nat) : Int) ≤ 10000 ∧ (Builtin.Math.factorialNat ((ns[i] : Nat) : Int).toNat).log2 < 100000000 then some (D.int (Builtin.Math.factorialNat ((ns[i] : Nat) : Int).toNat), w) else none) = _
        rw [Int.toNat_natCast, fact_eq, if_pos ⟨c0.1, c0.2, hlog⟩]
      simp [turnOf, eG, eB, evSs, evS, evE, evEs, evTg, bind_ok, env_ok, calm_ok, ofO, hb1, opAug, opInt, mo]
    · rw [List.drop_eq_getElem_cons hlt]
      rfl
theorem s_facts {n j : Nat} {ns : List Nat} (h : 1 ≤ n) (hL : 20000 ≤ L) (hj : w.lst j = some (ns.map fun (n : Nat) => D.int n)) (hb : ∀ n ∈ ns, n ≤ 100) (hl : ns.length ≤ 10) : fnS P L n 48 [.ref j] w = .ok (.int (pf 1 ns : Nat), w) := by
  obtain ⟨m, rfl⟩ : ∃ m, n = m + 1 := ⟨n - 1, by omega⟩
  have hj' : W.lst ⟨w.cs, w.cs.length⟩ j = some (ns.map fun (n : Nat) => D.int n) := hj
  obtain ⟨y', e⟩ := e_loop (w := ⟨w.cs, w.cs.length⟩) (C := ⟨P, fnS P L m, L⟩) hj' hb hl ns.length L 0 1 1 none (by omega) (by omega) (by unfold Bd; decide) (by have : ns.length * 701 ≤ 10 * 701 := Nat.mul_le_mul_right _ hl; omega)
  rw [List.drop_zero] at e
  have eb : f48.body = .cons (.set 1 (.cst (.int 1))) (.cons (.for eG (.seq (.var 0)) eB) (.cons (.ret (.var 1)) (.nil))) := rfl
  refine fn_rt0 (F := f48) rfl rfl (ρ' := [some (.ref j), some (.int (pf 1 ns : Nat)), y']) ?_ rfl
  rw [eb]
  exact (ss_nx (st_set rfl)).trans ((ss_nx (st_forL (it_seqL (n := j) rfl hj') e)).trans (ss_rt (st_ret rfl)))
end LW

set_option Elab.async false
set_option linter.all false
set_option maxRecDepth 100000
set_option maxHeartbeats 1000000
namespace LW
open QQ PySem
variable {L : Nat} {w : W}
def inv (r : Q) : Q := if 0 < r.1 then (r.2, r.1) else (-r.2, -r.1)
theorem s_inverse {n : Nat} (h : 1 ≤ n) (r : Q) : fnS P L n 52 [pr r] w = .ok (pr (inv r), w) := by
  obtain ⟨m, rfl⟩ : ∃ m, n = m + 1 := ⟨n - 1, by omega⟩
  rw [fnS_at (F := f52) rfl rfl]
  by_cases hp : 0 < r.1
  · simp [f52, b52, pr, inv, evSs, evS, evT, evAll, evAny, evE, evEs, evAnd, evOr, evTg, evTgs, tgsLen, evIt, evSrc, setAll, bind_ok, bind_ex, bind_bad, env_ok, env_ex, env_bad, calm_ok, ofO, fin, opSem, opInt, opAug, cpSem, eqSem, ixSem, toP_int, toP_bl, toP_non, toP_tup, optAll, items, L2.atI, L2.ixN, flat, flats, PyData.eqv, bltSem, isiSem, tyOf, QQ.line, hp, cutW_same]
  · simp [f52, b52, pr, inv, evSs, evS, evT, evAll, evAny, evE, evEs, evAnd, evOr, evTg, evTgs, tgsLen, evIt, evSrc, setAll, bind_ok, bind_ex, bind_bad, env_ok, env_ex, env_bad, calm_ok, ofO, fin, opSem, opInt, opAug, cpSem, eqSem, ixSem, toP_int, toP_bl, toP_non, toP_tup, optAll, items, L2.atI, L2.ixN, flat, flats, PyData.eqv, bltSem, isiSem, tyOf, QQ.line, hp, cutW_same]
def rT : T := .val (.cmp .gt (.var 1) (.cst (.int 0)))
def rB1 : S := .ifs (.val (.cmp .eq (.bin .mod (.var 1) (.cst (.int 2))) (.cst (.int 1)))) (.cons (.set 2 (.tup (.cons (.bin .mul (.idx (.var 2) (.cst (.int 0))) (.idx (.var 3) (.cst (.int 0)))) (.cons (.bin .mul (.idx (.var 2) (.cst (.int 1))) (.idx (.var 3) (.cst (.int 1)))) .nil)))) (.nil)) (.nil)
def rB2 : S := .aug 1 .fdiv (.cst (.int 2))
def rB3 : S := .ifs (.val (.cmp .gt (.var 1) (.cst (.int 0)))) (.cons (.set 3 (.tup (.cons (.bin .mul (.idx (.var 3) (.cst (.int 0))) (.idx (.var 3) (.cst (.int 0)))) (.cons (.bin .mul (.idx (.var 3) (.cst (.int 1))) (.idx (.var 3) (.cst (.int 1)))) .nil)))) (.nil)) (.nil)
def rB : Ss := .cons rB1 (.cons rB2 (.cons rB3 (.nil)))
def mu (r s : Q) : Q := (r.1 * s.1, r.2 * s.2)
theorem r1 {C : QQ.Ctx} {x : Option D} {k : Nat} {f s : Q} (m1 : mulOk f.1 s.1 = true) (m2 : mulOk f.2 s.2 = true) : evS C rB1 [x, some (.int (k : Nat)), some (pr f), some (pr s)] w = .ok (.nx, [x, some (.int (k : Nat)), some (pr (if k % 2 = 1 then mu f s else f)), some (pr s)], w) := by
  have e : ((k : Int).fmod 2) = ((k % 2 : Nat) : Int) := by
    rw [Int.fmod_eq_emod_of_nonneg _ (by omega)]
    omega
  by_cases h : k % 2 = 1
  · simp [rB1, pr, mu, evSs, evS, evT, evAll, evAny, evE, evEs, evAnd, evOr, evTg, evTgs, tgsLen, evIt, evSrc, setAll, bind_ok, bind_ex, bind_bad, env_ok, env_ex, env_bad, calm_ok, ofO, fin, opSem, opInt, opAug, cpSem, eqSem, ixSem, toP_int, toP_bl, toP_non, toP_tup, optAll, items, L2.atI, L2.ixN, flat, flats, PyData.eqv, bltSem, isiSem, tyOf, QQ.line, e, h, m1, m2]
  · simp [rB1, pr, mu, evSs, evS, evT, evAll, evAny, evE, evEs, evAnd, evOr, evTg, evTgs, tgsLen, evIt, evSrc, setAll, bind_ok, bind_ex, bind_bad, env_ok, env_ex, env_bad, calm_ok, ofO, fin, opSem, opInt, opAug, cpSem, eqSem, ixSem, toP_int, toP_bl, toP_non, toP_tup, optAll, items, L2.atI, L2.ixN, flat, flats, PyData.eqv, bltSem, isiSem, tyOf, QQ.line, e, h, m1, m2]
    omega
theorem r2 {C : QQ.Ctx} {x y z : Option D} {k : Nat} : evS C rB2 [x, some (.int (k : Nat)), y, z] w = .ok (.nx, [x, some (.int (k / 2 : Nat)), y, z], w) := by
  have e : ((k : Int).fdiv 2) = ((k / 2 : Nat) : Int) := by
    rw [Int.fdiv_eq_ediv_of_nonneg _ (by omega)]
    omega
  have d : divOk (k : Int) 2 = true := divOk_of (by decide) (by unfold Bd; decide)
  simp [rB2, evSs, evS, evT, evAll, evAny, evE, evEs, evAnd, evOr, evTg, evTgs, tgsLen, evIt, evSrc, setAll, bind_ok, bind_ex, bind_bad, env_ok, env_ex, env_bad, calm_ok, ofO, fin, opSem, opInt, opAug, cpSem, eqSem, ixSem, toP_int, toP_bl, toP_non, toP_tup, optAll, items, L2.atI, L2.ixN, flat, flats, PyData.eqv, bltSem, isiSem, tyOf, QQ.line, e, d]
theorem r3 {C : QQ.Ctx} {x y : Option D} {k : Nat} {s : Q} (m1 : 0 < k → mulOk s.1 s.1 = true) (m2 : 0 < k → mulOk s.2 s.2 = true) : evS C rB3 [x, some (.int (k : Nat)), y, some (pr s)] w = .ok (.nx, [x, some (.int (k : Nat)), y, some (pr (if 0 < k then mu s s else s))], w) := by
  by_cases h : 0 < k
  · have a := m1 h
    have b := m2 h
    simp [rB3, pr, mu, evSs, evS, evT, evAll, evAny, evE, evEs, evAnd, evOr, evTg, evTgs, tgsLen, evIt, evSrc, setAll, bind_ok, bind_ex, bind_bad, env_ok, env_ex, env_bad, calm_ok, ofO, fin, opSem, opInt, opAug, cpSem, eqSem, ixSem, toP_int, toP_bl, toP_non, toP_tup, optAll, items, L2.atI, L2.ixN, flat, flats, PyData.eqv, bltSem, isiSem, tyOf, QQ.line, h, a, b]
  · simp [rB3, pr, mu, evSs, evS, evT, evAll, evAny, evE, evEs, evAnd, evOr, evTg, evTgs, tgsLen, evIt, evSrc, setAll, bind_ok, bind_ex, bind_bad, env_ok, env_ex, env_bad, calm_ok, ofO, fin, opSem, opInt, opAug, cpSem, eqSem, ixSem, toP_int, toP_bl, toP_non, toP_tup, optAll, items, L2.atI, L2.ixN, flat, flats, PyData.eqv, bltSem, isiSem, tyOf, QQ.line, h]
theorem r_turn {C : QQ.Ctx} {n : Nat} {x : Option D} {k : Nat} {f s : Q} (hk : 0 < k) (m1 : mulOk f.1 s.1 = true) (m2 : mulOk f.2 s.2 = true) (m3 : 0 < k / 2 → mulOk s.1 s.1 = true) (m4 : 0 < k / 2 → mulOk s.2 s.2 = true) : evWhile (fun ρ w => (evT C ρ rT w).env ρ) (fun ρ w => evSs C rB ρ w) (n + 1) [x, some (.int (k : Nat)), some (pr f), some (pr s)] w =
    evWhile (fun ρ w => (evT C ρ rT w).env ρ) (fun ρ w => evSs C rB ρ w) n [x, some (.int (k / 2 : Nat)), some (pr (if k % 2 = 1 then mu f s else f)), some (pr (if 0 < k / 2 then mu s s else s))] w := by
  have t : evT C [x, some (.int (k : Nat)), some (pr f), some (pr s)] rT w = .ok (true, w) := by
    simp [rT, evSs, evS, evT, evAll, evAny, evE, evEs, evAnd, evOr, evTg, evTgs, tgsLen, evIt, evSrc, setAll, bind_ok, bind_ex, bind_bad, env_ok, env_ex, env_bad, calm_ok, ofO, fin, opSem, opInt, opAug, cpSem, eqSem, ixSem, toP_int, toP_bl, toP_non, toP_tup, optAll, items, L2.atI, L2.ixN, flat, flats, PyData.eqv, bltSem, isiSem, tyOf, QQ.line, hk]
  have b : evSs C rB [x, some (.int (k : Nat)), some (pr f), some (pr s)] w = .ok (.nx, [x, some (.int (k / 2 : Nat)), some (pr (if k % 2 = 1 then mu f s else f)), some (pr (if 0 < k / 2 then mu s s else s))], w) :=
    (ss_nx (r1 m1 m2)).trans ((ss_nx r2).trans ((ss_nx (r3 m3 m4)).trans rfl))
  rw [evWhile]
  simp only [t, env_ok, bind_ok, if_true, b]
theorem mu_pow {f s : Q} {k : Nat} : (if k % 2 = 1 then mu f s else f).1 * (if 0 < k / 2 then mu s s else s).1 ^ (k / 2) = f.1 * s.1 ^ k ∧ (if k % 2 = 1 then mu f s else f).2 * (if 0 < k / 2 then mu s s else s).2 ^ (k / 2) = f.2 * s.2 ^ k := by
  have key : ∀ a b : Int, (if k % 2 = 1 then a * b else a) * (if 0 < k / 2 then b * b else b) ^ (k / 2) = a * b ^ k := by
    intro a b
    have hd := Nat.div_add_mod k 2
    by_cases h2 : 0 < k / 2
    · rw [if_pos h2]
      have e : (b * b) ^ (k / 2) = b ^ (2 * (k / 2)) := by rw [Int.pow_mul, Int.pow_succ, Int.pow_succ, Int.pow_zero, Int.one_mul]
      rw [e]
      by_cases h1 : k % 2 = 1
      · rw [if_pos h1]
        have : k = 2 * (k / 2) + 1 := by omega
        rw [Int.mul_assoc]
        congr 1
        rw [Int.mul_comm, ← Int.pow_succ]
        exact congrArg (b ^ ·) this.symm
      · rw [if_neg h1]
        have : k = 2 * (k / 2) := by omega
        rw [← this]
    · have h0 : k / 2 = 0 := by omega
      rw [h0, Int.pow_zero, Int.mul_one]
      by_cases h1 : k % 2 = 1
      · have : k = 1 := by omega
        subst this
        rw [if_pos rfl, Int.pow_succ, Int.pow_zero, Int.one_mul]
      · have : k = 0 := by omega
        subst this
        simp
  have h1 := key f.1 s.1
  have h2 := key f.2 s.2
  refine ⟨?_, ?_⟩
  · rw [← h1]
    congr 1
    · split <;> rfl
    · split <;> rfl
  · rw [← h2]
    congr 1
    · split <;> rfl
    · split <;> rfl
theorem mu_Bd {a b : Nat} {f s : Q} (h1 : Bd a f.1) (h2 : Bd a f.2) (h3 : Bd b s.1) (h4 : Bd b s.2) : Bd (a + b) (mu f s).1 ∧ Bd (a + b) (mu f s).2 := ⟨h1.mul h3, h2.mul h4⟩
theorem r_loop {C : QQ.Ctx} {x : Option D} : ∀ (k n a b : Nat) (f s : Q), k < n → Bd a f.1 → Bd a f.2 → Bd b s.1 → Bd b s.2 → a + 2 * (b * k) ≤ 100000 → ∃ s', evWhile (fun ρ w => (evT C ρ rT w).env ρ) (fun ρ w => evSs C rB ρ w) n [x, some (.int (k : Nat)), some (pr f), some (pr s)] w = .ok (.nx, [x, some (.int 0), some (pr (f.1 * s.1 ^ k, f.2 * s.2 ^ k)), s'], w) := by
  intro k
  induction k using Nat.strongRecOn with
  | _ k ih =>
    intro n a b f s hn f1 f2 s1 s2 hb
    obtain ⟨n, rfl⟩ : ∃ m, n = m + 1 := ⟨n - 1, by omega⟩
    by_cases hk : 0 < k
    · have hlt : k / 2 < k := Nat.div_lt_self hk (by decide)
      have hm := Nat.div_add_mod k 2
      have hbk : b * (k / 2) + b * (k / 2) + b * (k % 2) = b * k := by
        rw [← Nat.mul_add, ← Nat.mul_add]
        congr 1
        omega
      have hb1 : b ≤ b * k := Nat.le_mul_of_pos_right _ hk
      rw [r_turn hk (f1.mulOk s1 (by omega)) (f2.mulOk s2 (by omega)) (fun _ => s1.mulOk s1 (by omega)) (fun _ => s2.mulOk s2 (by omega))]
      have q := mu_pow (f := f) (s := s) (k := k)
      have F : ∃ a', Bd a' (if k % 2 = 1 then mu f s else f).1 ∧ Bd a' (if k % 2 = 1 then mu f s else f).2 ∧ a' ≤ a + b * (k % 2) := by
        by_cases h : k % 2 = 1
        · rw [if_pos h, h]
          exact ⟨a + b, f1.mul s1, f2.mul s2, by omega⟩
        · rw [if_neg h]
          exact ⟨a, f1, f2, by omega⟩
      have S : ∃ b', Bd b' (if 0 < k / 2 then mu s s else s).1 ∧ Bd b' (if 0 < k / 2 then mu s s else s).2 ∧ b' * (k / 2) ≤ b * (k / 2) + b * (k / 2) := by
        by_cases h : 0 < k / 2
        · rw [if_pos h]
          exact ⟨b + b, s1.mul s1, s2.mul s2, by rw [Nat.add_mul]; omega⟩
        · rw [if_neg h]
          exact ⟨b, s1, s2, by omega⟩
      obtain ⟨a', g1, g2, g3⟩ := F
      obtain ⟨b', t1, t2, t3⟩ := S
      obtain ⟨s', e⟩ := ih (k / 2) hlt n a' b' (if k % 2 = 1 then mu f s else f) (if 0 < k / 2 then mu s s else s) (by omega) g1 g2 t1 t2 (by omega)
      refine ⟨s', ?_⟩
      rw [e, q.1, q.2]
    · have : k = 0 := by omega
      subst this
      refine ⟨some (pr s), ?_⟩
      have t : evT C [x, some (.int ((0 : Nat) : Int)), some (pr f), some (pr s)] rT w = .ok (false, w) := by
        simp [rT, evSs, evS, evT, evAll, evAny, evE, evEs, evAnd, evOr, evTg, evTgs, tgsLen, evIt, evSrc, setAll, bind_ok, bind_ex, bind_bad, env_ok, env_ex, env_bad, calm_ok, ofO, fin, opSem, opInt, opAug, cpSem, eqSem, ixSem, toP_int, toP_bl, toP_non, toP_tup, optAll, items, L2.atI, L2.ixN, flat, flats, PyData.eqv, bltSem, isiSem, tyOf, QQ.line]
      rw [evWhile]
      simp only [t, env_ok, bind_ok]
      simp
theorem s_raised {n b k : Nat} (h : 1 ≤ n) (hL : 20000 ≤ L) {r : Q} (h1 : Bd b r.1) (h2 : Bd b r.2) (hk : k ≤ 10000) (hb : 1 + 2 * (b * k) ≤ 100000) : fnS P L n 51 [pr r, .int (k : Nat)] w = .ok (pr (r.1 ^ k, r.2 ^ k), w) := by
  obtain ⟨m, rfl⟩ : ∃ m, n = m + 1 := ⟨n - 1, by omega⟩
  obtain ⟨s', e⟩ := r_loop (w := ⟨w.cs, w.cs.length⟩) (C := ⟨P, fnS P L m, L⟩) (x := some (pr r)) k L 1 b (1, 1) r (by omega) (by unfold Bd; decide) (by unfold Bd; decide) h1 h2 hb
  have eb : f51.body = .cons (.par [2, 3] (.cons (.glob 6) (.cons (.var 0) .nil))) (.cons (.whl rT rB) (.cons (.ret (.var 2)) (.nil))) := rfl
  simp only [Int.one_mul] at e
  refine fn_rt0 (F := f51) rfl rfl (ρ' := [some (pr r), some (.int 0), some (pr (r.1 ^ k, r.2 ^ k)), s']) ?_ rfl
  rw [eb]
  have p1 : evS ⟨P, fnS P L m, L⟩ (.par [2, 3] (.cons (.glob 6) (.cons (.var 0) .nil))) [some (pr r), some (.int (k : Nat)), none, none] ⟨w.cs, w.cs.length⟩ = .ok (.nx, [some (pr r), some (.int (k : Nat)), some (pr (1, 1)), some (pr r)], ⟨w.cs, w.cs.length⟩) := rfl
  exact (ss_nx p1).trans ((ss_nx (show evS ⟨P, fnS P L m, L⟩ (.whl rT rB) _ _ = _ from e)).trans (ss_rt (st_ret rfl)))
end LW

set_option Elab.async false
set_option linter.all false
set_option maxRecDepth 100000
set_option maxHeartbeats 1000000
namespace LW
open QQ PySem
variable {L : Nat} {w : W}
def pw (r : Q) (k : Int) : Q := if 0 ≤ k then (r.1 ^ k.toNat, r.2 ^ k.toNat) else ((inv r).1 ^ (-k).toNat, (inv r).2 ^ (-k).toNat)
theorem inv_Bd {b : Nat} {r : Q} (h1 : Bd b r.1) (h2 : Bd b r.2) : Bd b (inv r).1 ∧ Bd b (inv r).2 := by
  unfold inv
  split
  · exact ⟨h2, h1⟩
  · exact ⟨h2.neg, h1.neg⟩
theorem s_power {n b : Nat} {k : Int} (h : 2 ≤ n) (hL : 20000 ≤ L) {r : Q} (h1 : Bd b r.1) (h2 : Bd b r.2) (hk : k.natAbs ≤ 10000) (hb : 1 + 2 * (b * k.natAbs) ≤ 100000) : fnS P L n 49 [pr r, .int k] w = .ok (pr (pw r k), w) := by
  obtain ⟨m, rfl⟩ : ∃ m, n = m + 1 := ⟨n - 1, by omega⟩
  rw [fnS_at (F := f49) rfl rfl]
  obtain ⟨i1, i2⟩ := inv_Bd h1 h2
  by_cases hp : 0 ≤ k
  · have ek : ((k.toNat : Nat) : Int) = k := Int.toNat_of_nonneg hp
    have en : k.toNat = k.natAbs := by omega
    have c1 : ∀ w', fnS P L m 51 [pr r, .int k] w' = .ok (pr (pw r k), w') := fun w' => by
      have := s_raised (n := m) (k := k.toNat) (w := w') (by omega) hL h1 h2 (by omega) (by rw [en]; exact hb)
      rw [ek] at this
      unfold pw
      rw [if_pos hp]
      exact this
    simp [f49, b49, evSs, evS, evT, evAll, evAny, evE, evEs, evAnd, evOr, evTg, evTgs, tgsLen, evIt, evSrc, setAll, bind_ok, bind_ex, bind_bad, env_ok, env_ex, env_bad, calm_ok, ofO, fin, opSem, opInt, opAug, cpSem, eqSem, ixSem, toP_int, toP_bl, toP_non, toP_tup, optAll, items, L2.atI, L2.ixN, flat, flats, PyData.eqv, bltSem, isiSem, tyOf, QQ.line, hp, c1, cutW_same, flat_pr]
  · have ek : (((-k).toNat : Nat) : Int) = -k := Int.toNat_of_nonneg (by omega)
    have en : (-k).toNat = k.natAbs := by omega
    have c0 : ∀ w', fnS P L m 52 [pr r] w' = .ok (pr (inv r), w') := fun w' => s_inverse (by omega) r
    have c1 : ∀ w', fnS P L m 51 [pr (inv r), .int (-k)] w' = .ok (pr (pw r k), w') := fun w' => by
      have := s_raised (n := m) (k := (-k).toNat) (w := w') (by omega) hL i1 i2 (by omega) (by rw [en]; exact hb)
      rw [ek] at this
      unfold pw
      rw [if_neg hp]
      exact this
    simp [f49, b49, evSs, evS, evT, evAll, evAny, evE, evEs, evAnd, evOr, evTg, evTgs, tgsLen, evIt, evSrc, setAll, bind_ok, bind_ex, bind_bad, env_ok, env_ex, env_bad, calm_ok, ofO, fin, opSem, opInt, opAug, cpSem, eqSem, ixSem, toP_int, toP_bl, toP_non, toP_tup, optAll, items, L2.atI, L2.ixN, flat, flats, PyData.eqv, bltSem, isiSem, tyOf, QQ.line, hp, c0, c1, cutW_same, flat_pr]
abbrev Tri := Int × Int × Int
def tri (t : Tri) : D := .tup [.int t.1, .int t.2.1, .int t.2.2]
def num (n k : Int) (t : Tri) : Int := t.1 * n + t.2.1 * k + t.2.2
theorem s_number {d : Nat} {n k : Int} (h : 1 ≤ d) (t : Tri) (hn : n.natAbs < 2 ^ 63) (hk : k.natAbs < 2 ^ 63) : fnS P L d 46 [tri t, .int n, .int k] w = .ok (.int (num n k t), w) := by
  obtain ⟨m, rfl⟩ : ∃ m, d = m + 1 := ⟨d - 1, by omega⟩
  rw [fnS_at (F := f46) rfl rfl]
  have m1 : mulOk t.1 n = true := mulOk_small hn
  have m2 : mulOk t.2.1 k = true := mulOk_small hk
  simp [f46, b46, tri, num, evSs, evS, evT, evAll, evAny, evE, evEs, evAnd, evOr, evTg, evTgs, tgsLen, evIt, evSrc, setAll, bind_ok, bind_ex, bind_bad, env_ok, env_ex, env_bad, calm_ok, ofO, fin, opSem, opInt, opAug, cpSem, eqSem, ixSem, toP_int, toP_bl, toP_non, toP_tup, optAll, items, L2.atI, L2.ixN, flat, flats, PyData.eqv, bltSem, isiSem, tyOf, QQ.line, m1, m2, cutW_same]
/-! ### the algebra of canonical pairs -/
theorem mulp_nf {a b c d : Int} (hb : b ≠ 0) (hd : d ≠ 0) : mulp (nf a b) (c, d) = nf (a * c) (b * d) := by
  obtain ⟨g, hg, e1, e2, hp⟩ := nf_spec (a := a) hb
  unfold mulp
  have h1 : a * c = g * ((nf a b).1 * c) := by rw [← Int.mul_assoc, ← e1]
  have h2 : b * d = g * ((nf a b).2 * d) := by rw [← Int.mul_assoc, ← e2]
  rw [h1, h2]
  exact (nf_scale hg (Int.mul_ne_zero (Int.ne_of_gt hp) hd)).symm
theorem mulp_comm (r s : Q) : mulp r s = mulp s r := by
  unfold mulp
  rw [Int.mul_comm r.1, Int.mul_comm r.2]
theorem mulp_nf2 {a b c d : Int} (hb : b ≠ 0) (hd : d ≠ 0) : mulp (nf a b) (nf c d) = nf (a * c) (b * d) := by
  obtain ⟨g, hg, e1, e2, hp⟩ := nf_spec (a := c) hd
  have h := mulp_nf (a := a) (b := b) (c := (nf c d).1) (d := (nf c d).2) hb (Int.ne_of_gt hp)
  have e : ((nf c d).1, (nf c d).2) = nf c d := rfl
  rw [e] at h
  rw [h]
  have h1 : a * c = g * (a * (nf c d).1) := by rw [Int.mul_left_comm, ← e1]
  have h2 : b * d = g * (b * (nf c d).2) := by rw [Int.mul_left_comm, ← e2]
  rw [h1, h2]
  exact (nf_scale hg (Int.mul_ne_zero hb (Int.ne_of_gt hp))).symm
theorem nf_id {r : Q} {a b : Int} (hb : b ≠ 0) (h : r = nf a b) : nf r.1 r.2 = r := by
  obtain ⟨g, hg, e1, e2, hp⟩ := nf_spec (a := a) hb
  have : nf (g * (nf a b).1) (g * (nf a b).2) = nf (nf a b).1 (nf a b).2 := nf_scale hg (Int.ne_of_gt hp)
  rw [← e1, ← e2] at this
  rw [h, ← this]
end LW

set_option Elab.async false
set_option linter.all false
set_option maxRecDepth 100000
set_option maxHeartbeats 1000000
namespace LW
open QQ PySem
variable {L : Nat} {w : W}
structure Tm where
  p : List (List Q)
  x : Q
  y : Q
  up : List Tri
  dn : List Tri
def tms (l : List Tri) : D := .tup (l.map tri)
def dtm (t : Tm) : D := .tup [bpol t.p, pr t.x, pr t.y, tms t.up, tms t.dn]
theorem intsD_map {α : Type} (f : α → Int) : ∀ l : List α, intsD (l.map fun x => D.int (f x)) = some (l.map f)
  | [] => rfl
  | x :: l => by
    show (match intsD (l.map fun x => D.int (f x)) with | some ns => some (f x :: ns) | none => none) = _
    rw [intsD_map f l]
    rfl
/-- the least, or 0 -/
def min0 (l : List Int) : Int := match l with
  | [] => 0
  | i :: r => minI i r
theorem minI_lt : ∀ (r : List Int) (i : Int), minI i r < 0 ↔ i < 0 ∨ ∃ j ∈ r, j < 0
  | [], i => by simp [minI]
  | j :: r, i => by
    have e : minI i (j :: r) = minI (if j < i then j else i) r := rfl
    rw [e, minI_lt r]
    constructor
    · rintro (h | ⟨k, hk, h⟩)
      · split at h
        · exact .inr ⟨j, List.mem_cons_self, h⟩
        · exact .inl h
      · exact .inr ⟨k, List.mem_cons_of_mem _ hk, h⟩
    · rintro (h | ⟨k, hk, h⟩)
      · left; split <;> omega
      · rcases List.mem_cons.mp hk with rfl | hk
        · left; split <;> omega
        · exact .inr ⟨k, hk, h⟩
theorem min0_lt (l : List Int) : min0 l < 0 ↔ ∃ j ∈ l, j < 0 := by
  cases l with
  | nil => simp [min0]
  | cons i r =>
    show minI i r < 0 ↔ _
    rw [minI_lt]
    simp
def nums (n k : Int) (l : List Tri) : List Int := l.map (num n k)
def cEl : E := .call 46 (.cons (.var 6) (.cons (.var 1) (.cons (.var 2) .nil)))
def cU : E := .comp cEl (.nm 6) (.seq (.idx (.var 0) (.cst (.int 3)))) [6] .nil
def cD : E := .comp cEl (.nm 6) (.seq (.idx (.var 0) (.cst (.int 4)))) [6] .nil
theorem ev_nums {m : Nat} (hm : 1 ≤ m) {T : D} {n k : Int} (hn : n.natAbs < 2 ^ 63) (hk : k.natAbs < 2 ^ 63) {a b c d : Option D} {l : List Tri} (hl : l.length ≤ 1000) {it : QQ.It} (hi : ∀ w, evIt ⟨P, fnS P L m, L⟩ [some T, some (.int n), some (.int k), a, b, c, d] it w = .ok (.fix (l.map tri), w)) :
    evE ⟨P, fnS P L m, L⟩ [some T, some (.int n), some (.int k), a, b, c, d] (.comp cEl (.nm 6) it [6] .nil) w = .ok (.ref w.cs.length, ⟨w.cs ++ [.lst ((nums n k l).map .int)], w.lo⟩) := by
  refine ev_compT (hi w) ?_
  have h := comp_map (turn := turnC ⟨P, fnS P L m, L⟩ [some T, some (.int n), some (.int k), a, b, c, d] cEl (.nm 6) [6]) (g := tri) (h := fun x => .int (num n k x)) (w := w) (xs := l) (acc := []) (fun x _ => turn_c (ρ' := [some T, some (.int n), some (.int k), a, b, c, some (tri x)]) rfl ?_) (by unfold QQ.line; simp; omega)
  · rw [h]
    unfold nums
    rw [List.map_map, List.nil_append]
    rfl
  · have c1 : fnS P L m 46 [tri x, .int n, .int k] w = .ok (.int (num n k x), w) := s_number hm x hn hk
    simp [cEl, evE, evEs, bind_ok, c1, env_ok]
theorem ev_min {C : QQ.Ctx} {ρ : QQ.Env} {i j : Nat} {l : List Int} (hi : ρ[i]? = some (some (.ref j))) (hj : w.lst j = some (l.map .int)) : evT C ρ (.val (.cmp .lt (.bltd .min1 (.cons (.var i) .nil) (.cst (.int 0))) (.cst (.int 0)))) w = .ok (decide (min0 l < 0), w) := by
  have e1 : (w.lst j).bind intsD = some l := by
    rw [hj]
    have := intsD_map id l
    simpa using this
  have e2 : evE C ρ (.bltd .min1 (.cons (.var i) .nil) (.cst (.int 0))) w = .ok (.int (min0 l), w) := by
    have ev : evE C ρ (.var i) w = .ok (.ref j, w) := by
      show (match ρ[i]? with | some (some d) => R.ok (d, w) | _ => R.bad) = _
      rw [hi]
    show ((evEs C ρ (.cons (.var i) .nil) w).bind fun r => (evE C ρ (.cst (.int 0)) r.2).bind fun q => _) = _
    have es : evEs C ρ (.cons (.var i) .nil) w = .ok ([.ref j], w) := by
      show ((evE C ρ (.var i) w).bind fun r => (R.ok (([] : List D), r.2)).bind fun q => R.ok (r.1 :: q.1, q.2)) = _
      rw [ev]
      rfl
    rw [es, bind_ok]
    show (match (w.lst j).bind intsD with
      | some [] => R.ok (D.int 0, w)
      | some (i :: ns) => R.ok (D.int (minI i ns), w)
      | none => R.bad) = _
    rw [e1]
    cases l with
    | nil => rfl
    | cons i r => rfl
  show ((evE C ρ (.cmp .lt (.bltd .min1 (.cons (.var i) .nil) (.cst (.int 0))) (.cst (.int 0))) w).bind _) = _
  have e3 : evE C ρ (.cmp .lt (.bltd .min1 (.cons (.var i) .nil) (.cst (.int 0))) (.cst (.int 0))) w = .ok (.bl (decide (min0 l < 0)), w) := by
    show ((evE C ρ (.bltd .min1 (.cons (.var i) .nil) (.cst (.int 0))) w).bind _) = _
    rw [e2]
    rfl
  rw [e3]
  rfl
/-- the value that both give -/
def tq (t : Tm) (n k : Int) : Q := mulp (mulp (bv t.p (n, 1) (k, 1)) (nf (pf 1 ((nums n k t.up).map Int.toNat) : Nat) (pf 1 ((nums n k t.dn).map Int.toNat) : Nat))) (mulp (pw t.x n) (pw t.y k))
def tv (t : Tm) (n k : Int) : D := if min0 (nums n k t.up) < 0 then .non else if min0 (nums n k t.dn) < 0 then pr (0, 1) else pr (tq t n k)
/-- a canonical pair -/
def QOk (r : Q) : Prop := 0 < r.2 ∧ gc r.1 r.2 = 1
/-- a canonical polynomial -/
def POk (q : List Q) : Prop := (∀ d ∈ q, QOk d) ∧ ∀ d, q.getLast? = some d → d ≠ (0, 1)
/-- a canonical double polynomial -/
def BOk (p : List (List Q)) : Prop := (∀ q ∈ p, POk q) ∧ ∀ q, p.getLast? = some q → q ≠ []
/-- a term as the law draws it -/
structure TmOk (t : Tm) : Prop where
  p : t.p.length ≤ 2 ∧ ∀ q ∈ t.p, q.length ≤ 2 ∧ ∀ d ∈ q, PB 6 d
  pc : t.p ≠ [] ∧ BOk t.p
  x : PB 3 t.x ∧ t.x.1 ≠ 0 ∧ QOk t.x
  y : PB 3 t.y ∧ t.y.1 ≠ 0 ∧ QOk t.y
  up : t.up.length ≤ 3 ∧ ∀ c ∈ t.up, (-2 ≤ c.1 ∧ c.1 ≤ 2) ∧ (-2 ≤ c.2.1 ∧ c.2.1 ≤ 2) ∧ -3 ≤ c.2.2 ∧ c.2.2 ≤ 3
  u0 : ∀ c ∈ t.up, 0 ≤ c.1
  dn : t.dn.length ≤ 4 ∧ ∀ c ∈ t.dn, (-2 ≤ c.1 ∧ c.1 ≤ 2) ∧ (-2 ≤ c.2.1 ∧ c.2.1 ≤ 2) ∧ -3 ≤ c.2.2 ∧ c.2.2 ≤ 3
def tU : T := .val (.cmp .lt (.bltd .min1 (.cons (.var 3) .nil) (.cst (.int 0))) (.cst (.int 0)))
def tD : T := .val (.cmp .lt (.bltd .min1 (.cons (.var 4) .nil) (.cst (.int 0))) (.cst (.int 0)))
def e5 : E := .call 45 (.cons (.call 47 (.cons (.idx (.var 0) (.cst (.int 0))) (.cons (.call 44 (.cons (.var 1) (.cons (.cst (.int 1)) .nil))) (.cons (.call 44 (.cons (.var 2) (.cons (.cst (.int 1)) .nil))) .nil)))) (.cons (.call 44 (.cons (.call 48 (.cons (.var 3) .nil)) (.cons (.call 48 (.cons (.var 4) .nil)) .nil))) .nil))
def e6 : E := .call 45 (.cons (.var 5) (.cons (.call 45 (.cons (.call 49 (.cons (.idx (.var 0) (.cst (.int 1))) (.cons (.var 1) .nil))) (.cons (.call 49 (.cons (.idx (.var 0) (.cst (.int 2))) (.cons (.var 2) .nil))) .nil))) .nil))
theorem b16_eq : f41.body = .cons (.set 3 cU) (.cons (.set 4 cD) (.cons (.ifs tU (.cons (.ret (.cst (.non))) (.nil)) (.nil)) (.cons (.ifs tD (.cons (.ret (.glob 3)) (.nil)) (.nil)) (.cons (.set 5 e5) (.cons (.ret e6) (.nil)))))) := rfl
end LW

set_option Elab.async false
set_option linter.all false
set_option maxRecDepth 100000
set_option maxHeartbeats 1000000
namespace LW
open QQ PySem
variable {L : Nat} {w : W}
theorem nat_of {l : List Int} (h : ¬ min0 l < 0) : l = (l.map Int.toNat).map fun (n : Nat) => (n : Int) := by
  rw [min0_lt] at h
  rw [List.map_map]
  refine (List.map_id' l).symm.trans (List.map_congr_left fun i hi => ?_)
  have : ¬ i < 0 := fun z => h ⟨i, hi, z⟩
  show i = ((i.toNat : Nat) : Int)
  omega
theorem nums_le {t : List Tri} {n k : Int} (hn : 0 ≤ n ∧ n ≤ 12) (hk : -20 ≤ k ∧ k ≤ 20) (h : ∀ c ∈ t, (-2 ≤ c.1 ∧ c.1 ≤ 2) ∧ (-2 ≤ c.2.1 ∧ c.2.1 ≤ 2) ∧ -3 ≤ c.2.2 ∧ c.2.2 ≤ 3) : ∀ m ∈ (nums n k t).map Int.toNat, m ≤ 100 := by
  intro m hm
  obtain ⟨i, hi, rfl⟩ := List.mem_map.mp hm
  obtain ⟨c, hc, rfl⟩ := List.mem_map.mp hi
  obtain ⟨⟨h1, h2⟩, ⟨h3, h4⟩, h5, h6⟩ := h c hc
  unfold num
  have a1 : c.1 * n ≤ 2 * n := Int.mul_le_mul_of_nonneg_right h2 hn.1
  have a2 : c.2.1 * k ≤ 40 := by
    have e := Int.natAbs_mul c.2.1 k
    have e1 : c.2.1.natAbs ≤ 2 := by omega
    have e2 : k.natAbs ≤ 20 := by omega
    have e3 : c.2.1.natAbs * k.natAbs ≤ 2 * 20 := Nat.mul_le_mul e1 e2
    omega
  omega
theorem hbL_PB {a c z : Nat} {s r : Q} (hs : PB c s) : ∀ {ps : List (List Q)} {acc : Q}, PB a acc → (∀ q ∈ ps, PB z (hv r q)) → PB (a + ps.length * (c + z + 1)) (hbL s r acc ps)
  | [], acc, ha, _ => by simpa [hbL] using ha
  | q :: ps, acc, ha, hd => by
    have h1 : PB (a + c + z + 1) (addp (mulp acc s) (hv r q)) := add_PB (mul_PB ha hs) (hd q List.mem_cons_self)
    have h2 := hbL_PB hs (ps := ps) h1 fun e he => hd e (List.mem_cons_of_mem _ he)
    refine PB.mono h2 ?_
    rw [List.length_cons, Nat.add_mul]
    omega
theorem one_PB {n : Int} (h : n.natAbs < 64) : PB 6 (n, 1) := ⟨h, show (1 : Int).natAbs < 2 ^ 6 by decide, show (0 : Int) < 1 by decide⟩
theorem Bd_pow {b : Nat} {i : Int} (h : Bd b i) : ∀ k : Nat, Bd (b * k + 1) (i ^ k)
  | 0 => by rw [Int.pow_zero]; exact Bd.mono (b := 1) (show (1 : Int).natAbs < 2 ^ 1 by decide) (by omega)
  | k + 1 => by
    rw [Int.pow_succ]
    exact ((Bd_pow h k).mul h).mono (by rw [Nat.mul_succ]; omega)
theorem inv_pos {r : Q} (h : 0 < r.2) (h0 : r.1 ≠ 0) : 0 < (inv r).2 := by
  unfold inv
  split
  · assumption
  · show 0 < -r.1
    omega
theorem pw_PB {b K : Nat} {r : Q} {k : Int} (h : PB b r) (h0 : r.1 ≠ 0) (hk : k.natAbs ≤ K) : PB (b * K + 1) (pw r k) := by
  obtain ⟨i1, i2⟩ := inv_Bd h.n h.d
  have m : b * k.natAbs + 1 ≤ b * K + 1 := Nat.succ_le_succ (Nat.mul_le_mul_left _ hk)
  unfold pw
  by_cases hp : 0 ≤ k
  · rw [if_pos hp]
    have en : k.toNat = k.natAbs := by omega
    rw [en]
    exact ⟨(Bd_pow h.n _).mono m, (Bd_pow h.d _).mono m, Int.pow_pos h.p⟩
  · rw [if_neg hp]
    have en : (-k).toNat = k.natAbs := by omega
    rw [en]
    exact ⟨(Bd_pow i1 _).mono m, (Bd_pow i2 _).mono m, Int.pow_pos (inv_pos h.p h0)⟩
theorem s_term {d : Nat} (h : 10 ≤ d) (hL : 20000 ≤ L) {t : Tm} (ht : TmOk t) {n k : Int} (hn : 0 ≤ n ∧ n ≤ 12) (hk : -20 ≤ k ∧ k ≤ 20) : fnS P L d 41 [dtm t, .int n, .int k] w = .ok (tv t n k, w) := by
  obtain ⟨m, rfl⟩ : ∃ m, d = m + 1 := ⟨d - 1, by omega⟩
  have hn' : n.natAbs < 2 ^ 63 := by omega
  have hk' : k.natAbs < 2 ^ 63 := by omega
  have u1 : ∀ w' a b c e, evE ⟨P, fnS P L m, L⟩ [some (dtm t), some (.int n), some (.int k), a, b, c, e] cU w' = .ok (.ref w'.cs.length, ⟨w'.cs ++ [.lst ((nums n k t.up).map .int)], w'.lo⟩) := fun w' a b c e => ev_nums (by omega) hn' hk' (by have := ht.up.1; omega) fun w => it_seqT rfl
  have u2 : ∀ w' a b c e, evE ⟨P, fnS P L m, L⟩ [some (dtm t), some (.int n), some (.int k), a, b, c, e] cD w' = .ok (.ref w'.cs.length, ⟨w'.cs ++ [.lst ((nums n k t.dn).map .int)], w'.lo⟩) := fun w' a b c e => ev_nums (by omega) hn' hk' (by have := ht.dn.1; omega) fun w => it_seqT rfl
  generalize hw2 : (⟨w.cs ++ [.lst ((nums n k t.up).map .int)] ++ [.lst ((nums n k t.dn).map .int)], w.cs.length⟩ : W) = w2
  have ew : w2 = ⟨w.cs ++ [.lst ((nums n k t.up).map .int), .lst ((nums n k t.dn).map .int)], w.cs.length⟩ := by rw [← hw2]; simp
  have j1 : w2.lst w.cs.length = some ((nums n k t.up).map .int) := by rw [ew]; simp [W.lst]
  have j2 : w2.lst (w.cs.length + 1) = some ((nums n k t.dn).map .int) := by rw [ew]; simp [W.lst]
  have fin : ∀ (ρ' : QQ.Env) (v : D), evSs ⟨P, fnS P L m, L⟩ (.cons (.ifs tU (.cons (.ret (.cst (.non))) (.nil)) (.nil)) (.cons (.ifs tD (.cons (.ret (.glob 3)) (.nil)) (.nil)) (.cons (.set 5 e5) (.cons (.ret e6) (.nil))))) [some (dtm t), some (.int n), some (.int k), some (.ref w.cs.length), some (.ref (w.cs.length + 1)), none, none] w2 = .ok (.rt v, ρ', w2) → flat v = true → fnS P L (m + 1) 41 [dtm t, .int n, .int k] w = .ok (v, w) := by
    intro ρ' v e hv
    refine fn_rt (F := f41) (lo := w.cs.length) (t := [.lst ((nums n k t.up).map .int), .lst ((nums n k t.dn).map .int)]) rfl rfl (ρ' := ρ') ?_ (Nat.le_refl _) hv
    rw [b16_eq, ← ew]
    refine (ss_nx (st_set (u1 _ _ _ _ _))).trans ((ss_nx (st_set (u2 _ _ _ _ _))).trans ?_)
    rw [show (⟨(⟨w.cs ++ [.lst ((nums n k t.up).map .int)], w.cs.length⟩ : W).cs ++ [.lst ((nums n k t.dn).map .int)], (⟨w.cs ++ [.lst ((nums n k t.up).map .int)], w.cs.length⟩ : W).lo⟩ : W) = w2 from hw2]
    have el : (w.cs ++ [Cell.lst ((nums n k t.up).map .int)]).length = w.cs.length + 1 := by simp
    show evSs _ _ [some (dtm t), some (.int n), some (.int k), some (.ref w.cs.length), some (.ref (w.cs ++ [Cell.lst ((nums n k t.up).map .int)]).length), none, none] w2 = _
    rw [el]
    exact e
  have t1 : evT ⟨P, fnS P L m, L⟩ [some (dtm t), some (.int n), some (.int k), some (.ref w.cs.length), some (.ref (w.cs.length + 1)), none, none] tU w2 = .ok (decide (min0 (nums n k t.up) < 0), w2) := ev_min rfl j1
  have t2 : evT ⟨P, fnS P L m, L⟩ [some (dtm t), some (.int n), some (.int k), some (.ref w.cs.length), some (.ref (w.cs.length + 1)), none, none] tD w2 = .ok (decide (min0 (nums n k t.dn) < 0), w2) := ev_min rfl j2
  unfold tv
  by_cases hu : min0 (nums n k t.up) < 0
  · rw [if_pos hu]
    rw [decide_eq_true hu] at t1
    exact fin _ .non (ss_rt ((st_ifT t1).trans (ss_rt (st_ret rfl)))) rfl
  rw [if_neg hu]
  rw [decide_eq_false hu] at t1
  by_cases hd : min0 (nums n k t.dn) < 0
  · rw [if_pos hd]
    rw [decide_eq_true hd] at t2
    exact fin _ (pr (0, 1)) ((ss_nx (st_ifF t1)).trans (ss_rt ((st_ifT t2).trans (ss_rt (st_ret rfl))))) rfl
  rw [if_neg hd]
  rw [decide_eq_false hd] at t2
  have n1 := nums_le hn hk ht.up.2
  have n2 := nums_le hn hk ht.dn.2
  have l1 : ((nums n k t.up).map Int.toNat).length ≤ 3 := by unfold nums; simp; exact ht.up.1
  have l2 : ((nums n k t.dn).map Int.toNat).length ≤ 4 := by unfold nums; simp; exact ht.dn.1
  have q1 : w2.lst w.cs.length = some (((nums n k t.up).map Int.toNat).map fun (n : Nat) => D.int n) := by
    rw [j1]
    conv => lhs; rw [nat_of hu]
    rw [List.map_map]
    rfl
  have q2 : w2.lst (w.cs.length + 1) = some (((nums n k t.dn).map Int.toNat).map fun (n : Nat) => D.int n) := by
    rw [j2]
    conv => lhs; rw [nat_of hd]
    rw [List.map_map]
    rfl
  have etq : tq t n k = mulp (mulp (bv t.p (n, 1) (k, 1)) (nf (pf 1 ((nums n k t.up).map Int.toNat) : Nat) (pf 1 ((nums n k t.dn).map Int.toNat) : Nat))) (mulp (pw t.x n) (pw t.y k)) := rfl
  generalize (nums n k t.up).map Int.toNat = U at *
  generalize (nums n k t.dn).map Int.toNat = V at *
  have pn := one_PB (n := n) (by omega)
  have pk := one_PB (n := k) (by omega)
  have c1 : fnS P L m 44 [.int n, .int 1] w2 = .ok (pr (n, 1), w2) := by
    have := s_lowest (L := L) (w := w2) (n := m) (by omega) (a := n) (b := 1) (by decide) (Bd.mono (b := 1) (show (1 : Int).natAbs < 2 ^ 1 by decide) (by omega))
    rwa [nf_one] at this
  have c2 : fnS P L m 44 [.int k, .int 1] w2 = .ok (pr (k, 1), w2) := by
    have := s_lowest (L := L) (w := w2) (n := m) (by omega) (a := k) (b := 1) (by decide) (Bd.mono (b := 1) (show (1 : Int).natAbs < 2 ^ 1 by decide) (by omega))
    rwa [nf_one] at this
  have hp1 := ht.p.1
  have c3 : fnS P L m 47 [bpol t.p, pr (n, 1), pr (k, 1)] w2 = .ok (pr (bv t.p (n, 1) (k, 1)), w2) := s_bvalue (b := 6) (c := 6) (k := 2) (by omega) pn pk ht.p.2 (by omega)
  have vb : PB 200 (bv t.p (n, 1) (k, 1)) := by
    refine (hbL_PB (z := 27) pk z01 (ps := t.p.reverse) fun q hq => ?_).mono (by simp; omega)
    obtain ⟨a1, a2⟩ := ht.p.2 q (by simpa using hq)
    exact (hv_PB pn a2 a1).mono (by omega)
  have c4 : fnS P L m 48 [.ref w.cs.length] w2 = .ok (.int (pf 1 U : Nat), w2) := s_facts (by omega) hL q1 n1 (by omega)
  have c5 : fnS P L m 48 [.ref (w.cs.length + 1)] w2 = .ok (.int (pf 1 V : Nat), w2) := s_facts (by omega) hL q2 n2 (by omega)
  have o1 : Bd 1 ((1 : Nat) : Int) := show ((1 : Nat) : Int).natAbs < 2 ^ 1 by decide
  have f1 : Bd 2900 (pf 1 U : Nat) := (pf_bd n1 o1).mono (by omega)
  have f2 : Bd 2900 (pf 1 V : Nat) := (pf_bd n2 o1).mono (by omega)
  have z2 : ((pf 1 V : Nat) : Int) ≠ 0 := by
    have := pf_pos (ns := V) (a := 1) (by decide)
    omega
  have c6 : fnS P L m 44 [.int (pf 1 U : Nat), .int (pf 1 V : Nat)] w2 = .ok (pr (nf (pf 1 U : Nat) (pf 1 V : Nat)), w2) := s_lowest (by omega) z2 (f2.mono (by omega))
  have fb := nf_PB z2 f1 f2
  have c7 : fnS P L m 45 [pr (bv t.p (n, 1) (k, 1)), pr (nf (pf 1 U : Nat) (pf 1 V : Nat))] w2 = .ok (pr (mulp (bv t.p (n, 1) (k, 1)) (nf (pf 1 U : Nat) (pf 1 V : Nat))), w2) := s_mul (by omega) vb fb (by omega)
  have v5 : evE ⟨P, fnS P L m, L⟩ [some (dtm t), some (.int n), some (.int k), some (.ref w.cs.length), some (.ref (w.cs.length + 1)), none, none] e5 w2 = .ok (pr (mulp (bv t.p (n, 1) (k, 1)) (nf (pf 1 U : Nat) (pf 1 V : Nat))), w2) :=
    call_ev (es_cons (call_ev (es_cons rfl (es_cons (call_ev rfl c1) (es_cons (call_ev rfl c2) es_nil))) c3) (es_cons (call_ev (es_cons (call_ev rfl c4) (es_cons (call_ev rfl c5) es_nil)) c6) es_nil)) c7
  have mb := mul_PB vb fb
  have px := pw_PB (K := 12) (k := n) ht.x.1 ht.x.2.1 (by omega)
  have py := pw_PB (K := 20) (k := k) ht.y.1 ht.y.2.1 (by omega)
  have c8 : fnS P L m 49 [pr t.x, .int n] w2 = .ok (pr (pw t.x n), w2) := s_power (b := 3) (by omega) hL ht.x.1.n ht.x.1.d (by omega) (by omega)
  have c9 : fnS P L m 49 [pr t.y, .int k] w2 = .ok (pr (pw t.y k), w2) := s_power (b := 3) (by omega) hL ht.y.1.n ht.y.1.d (by omega) (by omega)
  have c10 : fnS P L m 45 [pr (pw t.x n), pr (pw t.y k)] w2 = .ok (pr (mulp (pw t.x n) (pw t.y k)), w2) := s_mul (by omega) px py (by omega)
  have c11 : ∀ r : Q, PB 3200 r → fnS P L m 45 [pr r, pr (mulp (pw t.x n) (pw t.y k))] w2 = .ok (pr (mulp r (mulp (pw t.x n) (pw t.y k))), w2) := fun r hr => s_mul (by omega) hr (mul_PB px py) (by omega)
  have v6 : ∀ r : Q, PB 3200 r → evE ⟨P, fnS P L m, L⟩ [some (dtm t), some (.int n), some (.int k), some (.ref w.cs.length), some (.ref (w.cs.length + 1)), some (pr r), none] e6 w2 = .ok (pr (mulp r (mulp (pw t.x n) (pw t.y k))), w2) := fun r hr =>
    call_ev (es_cons rfl (es_cons (call_ev (es_cons (call_ev rfl c8) (es_cons (call_ev rfl c9) es_nil)) c10) es_nil)) (c11 r hr)
  rw [etq]
  exact fin _ (pr _) ((ss_nx (st_ifF t1)).trans ((ss_nx (st_ifF t2)).trans ((ss_nx (st_set v5)).trans (ss_rt (st_ret (v6 _ (mb.mono (by omega)))))))) rfl
end LW

set_option Elab.async false
set_option linter.all false
set_option maxRecDepth 100000
set_option maxHeartbeats 1000000
namespace LW
open QQ PySem
variable {L : Nat} {w : W}
/-! _law_at -/
def aEl : E := .bin .add (.bin .add (.bin .mul (.var 15) (.var 1)) (.bin .mul (.var 16) (.var 2))) (.var 17)
def aTg : Tg := .tup (.cons (.nm 15) (.cons (.nm 16) (.cons (.nm 17) (.nil))))
theorem ev_anums {C : QQ.Ctx} {n k : Int} (hn : n.natAbs < 2 ^ 63) (hk : k.natAbs < 2 ^ 63) {a0 a3 a4 a5 a6 a7 a8 a9 a10 a11 a12 a13 a14 a15 a16 a17 : Option D} {l : List Tri} (hl : l.length ≤ 1000) {it : QQ.It} (hi : ∀ w, evIt C [a0, some (.int n), some (.int k), a3, a4, a5, a6, a7, a8, a9, a10, a11, a12, a13, a14, a15, a16, a17] it w = .ok (.fix (l.map tri), w)) :
    evE C [a0, some (.int n), some (.int k), a3, a4, a5, a6, a7, a8, a9, a10, a11, a12, a13, a14, a15, a16, a17] (.comp aEl aTg it [15, 16, 17] .nil) w = .ok (.ref w.cs.length, ⟨w.cs ++ [.lst ((nums n k l).map .int)], w.lo⟩) := by
  refine ev_compT (hi w) ?_
  have h := comp_map (turn := turnC C [a0, some (.int n), some (.int k), a3, a4, a5, a6, a7, a8, a9, a10, a11, a12, a13, a14, a15, a16, a17] aEl aTg [15, 16, 17]) (g := tri) (h := fun x => .int (num n k x)) (w := w) (xs := l) (acc := []) (fun x _ => turn_c (ρ' := [a0, some (.int n), some (.int k), a3, a4, a5, a6, a7, a8, a9, a10, a11, a12, a13, a14, some (.int x.1), some (.int x.2.1), some (.int x.2.2)]) rfl ?_) (by unfold QQ.line; simp; omega)
  · rw [h]
    unfold nums
    rw [List.map_map, List.nil_append]
    rfl
  · exact ev_bin (ev_bin (ev_bin (ev_var rfl) (ev_var rfl) (op_mul (mulOk_small hn))) (ev_bin (ev_var rfl) (ev_var rfl) (op_mul (mulOk_small hk))) op_add) (ev_var rfl) op_add
theorem min0_snoc (l : List Int) : (min0 (l ++ [0]) < 0) ↔ min0 l < 0 := by
  rw [min0_lt, min0_lt]
  constructor
  · rintro ⟨j, hj, h⟩
    rcases List.mem_append.mp hj with hj | hj
    · exact ⟨j, hj, h⟩
    · rw [List.mem_singleton.mp hj] at h
      omega
  · rintro ⟨j, hj, h⟩
    exact ⟨j, List.mem_append_left _ hj, h⟩
def aMin (i : Nat) : T := .val (.cmp .lt (.blt .min1 (.cons (.bin .add (.var i) (.lst (.cons (.cst (.int 0)) .nil))) .nil)) (.cst (.int 0)))
theorem ev_amin {C : QQ.Ctx} {ρ : QQ.Env} {i j : Nat} {l : List Int} (hi : ρ[i]? = some (some (.ref j))) (hj : w.lst j = some (l.map .int)) (hl : l.length ≤ 1000) : evT C ρ (aMin i) w = .ok (decide (min0 l < 0), ⟨w.cs ++ [.lst [.int 0], .lst ((l ++ [0]).map .int)], w.lo⟩) := by
  have e1 : evE C ρ (.lst (.cons (.cst (.int 0)) .nil)) w = .ok (.ref w.cs.length, ⟨w.cs ++ [.lst [.int 0]], w.lo⟩) := rfl
  have h1 : W.lst ⟨w.cs ++ [.lst [.int 0]], w.lo⟩ j = some (l.map .int) := lst_app hj
  have h2 : W.lst ⟨w.cs ++ [.lst [.int 0]], w.lo⟩ w.cs.length = some [.int 0] := by simp [W.lst]
  have e2 : opSem .add (.ref j) (.ref w.cs.length) ⟨w.cs ++ [.lst [.int 0]], w.lo⟩ = some (.ref (w.cs.length + 1), ⟨w.cs ++ [.lst [.int 0], .lst ((l ++ [0]).map .int)], w.lo⟩) := by
    rw [op_addL h1 h2 (by unfold line; simp; omega)]
    simp
  have e3 : bltSem .min1 [.ref (w.cs.length + 1)] ⟨w.cs ++ [.lst [.int 0], .lst ((l ++ [0]).map .int)], w.lo⟩ = some (.int (min0 (l ++ [0])), ⟨w.cs ++ [.lst [.int 0], .lst ((l ++ [0]).map .int)], w.lo⟩) := by
    have h3 : W.lst ⟨w.cs ++ [.lst [.int 0], .lst ((l ++ [0]).map .int)], w.lo⟩ (w.cs.length + 1) = some ((l ++ [0]).map .int) := by simp [W.lst]
    have h4 := intsD_map id (l ++ [0])
    simp only [id, List.map_id'] at h4
    show (match (W.lst ⟨w.cs ++ [.lst [.int 0], .lst ((l ++ [0]).map .int)], w.lo⟩ (w.cs.length + 1)).bind intsD with
      | some (i :: ns) => some (D.int (minI i ns), _)
      | _ => none) = _
    rw [h3]
    show (match intsD ((l ++ [0]).map D.int) with
      | some (i :: ns) => some (D.int (minI i ns), _)
      | _ => none) = _
    have h5 : intsD ((l ++ [0]).map D.int) = some (l ++ [0]) := by simpa using h4
    rw [h5]
    cases l with
    | nil => rfl
    | cons a l => rfl
  have e4 : decide (min0 l < 0) = decide (min0 (l ++ [0]) < 0) := by rw [decide_eq_decide]; exact (min0_snoc l).symm
  rw [e4]
  exact t_val (ev_cmp (ev_blt (es_cons (ev_bin (ev_var hi) e1 e2) es_nil) e3) ev_cst rfl)
/-- the product of the factorials of a list of the store -/
def aB (i : Nat) : Ss := .cons (.set i (.bin .mul (.var i) (.call 27 (.cons (.var 12) .nil)))) (.nil)
theorem a_loop {m : Nat} (hm : 1 ≤ m) {i j b0 : Nat} (hi0 : i < 12) {ns : List Nat} (hj : w.lst j = some (ns.map fun (n : Nat) => D.int n)) (h : ∀ n ∈ ns, n ≤ 100) (hl : ns.length ≤ 10) (hL : 20000 ≤ L) {ρ : QQ.Env} (h12 : 12 < ρ.length) (hi : ρ[i]? = some (some (.int 1))) :
    ∃ x, evLive (turnOf ⟨P, fnS P L m, L⟩ (.nm 12) (aB i)) (fun w => w.lst j) L 0 ρ w = .ok (.nx, (ρ.set 12 x).set i (some (.int (pf 1 ns : Nat))), w) := by
  obtain ⟨ρ', w', e, ⟨ew, hx, hb⟩⟩ := live_inv (turn := turnOf ⟨P, fnS P L m, L⟩ (.nm 12) (aB i)) (f := fun w => w.lst j) (ds := ns.map fun (n : Nat) => D.int n)
    (fun k ρ' w' => w' = w ∧ (∃ x, ρ' = (ρ.set 12 x).set i (some (.int (pf 1 (ns.take k) : Nat)))) ∧ Bd (1 + k * 701) (pf 1 (ns.take k) : Nat))
    (fun k ρ' w' ⟨ew, _, _⟩ => by rw [ew]; exact hj)
    (fun k hk ρ' w' ⟨ew, ⟨x, ex⟩, hb⟩ => by
      subst ew ex
      simp only [List.length_map] at hk
      have hn := h ns[k] (List.getElem_mem hk)
      have hf := fac_bd hn
      have ef : pf 1 (ns.take (k + 1)) = pf 1 (ns.take k) * fac ns[k] := by
        rw [List.take_succ_eq_append_getElem hk]
        unfold pf
        rw [List.foldl_append]
        rfl
      have hk10 : k * 701 ≤ 10 * 701 := Nat.mul_le_mul_right _ (by omega)
      have mo : mulOk (pf 1 (ns.take k) : Nat) (fac ns[k] : Nat) = true := hb.mulOk hf (by omega)
      refine ⟨_, w', ss_nx (st_set (d := .int (pf 1 (ns.take (k + 1)) : Nat)) (ev_bin (x := .int (pf 1 (ns.take k) : Nat)) (y := .int (fac ns[k] : Nat)) (ev_var ?_) (call_ev (es_cons (ev_var ?_) es_nil) (s_lfact hm (k := ns[k]) (by omega))) ?_)), rfl, ⟨some (.int (ns[k] : Nat)), ?_⟩, ?_⟩
      · show (((ρ.set 12 x).set i (some (.int (pf 1 (ns.take k) : Nat)))).set 12 _)[i]? = _
        rw [List.getElem?_set_ne (by omega), List.getElem?_set_self (by simp; omega)]
      · show (((ρ.set 12 x).set i (some (.int (pf 1 (ns.take k) : Nat)))).set 12 _)[12]? = _
        rw [List.getElem?_set_self (by simp; omega)]
        simp
      · rw [op_mul mo, ef]
        push_cast
        rfl
      · have hne : 12 ≠ i := by omega
        simp
        rw [List.set_comm _ _ hne.symm]
        simp
      · rw [ef]
        refine Bd.mono (b := (1 + k * 701) + (7 * ns[k] + 1)) ?_ (by rw [Nat.add_mul]; omega)
        have := hb.mul hf
        push_cast
        exact this)
    L 0 ρ w ⟨rfl, ⟨ρ[12], by
      rw [List.set_getElem_self]
      simp [pf]
      rw [List.getElem?_eq_some_iff] at hi
      obtain ⟨h1, h2⟩ := hi
      rw [← h2, List.set_getElem_self]⟩, by simp [pf]; exact Bd.mono (b := 1) (show (1 : Int).natAbs < 2 ^ 1 by decide) (by omega)⟩ (by simp) (by simp; omega)
  obtain ⟨x, ex⟩ := hx
  subst ew ex
  simp only [List.length_map, List.take_length] at e
  exact ⟨x, e⟩
end LW

set_option Elab.async false
set_option linter.all false
set_option maxRecDepth 100000
set_option maxHeartbeats 1000000
namespace LW
open QQ PySem
variable {L : Nat} {w : W}
def itm (x : Q) : Nat → Q → Q
  | 0, a => a
  | n + 1, a => itm x n (mulp a x)
theorem itm_PB {a c : Nat} {x : Q} (hx : PB c x) : ∀ (n : Nat) {f : Q}, PB a f → ∃ b, b ≤ a + n * c ∧ PB b (itm x n f)
  | 0, f, h => ⟨a, by omega, h⟩
  | n + 1, f, h => by
    obtain ⟨b, hb, hp⟩ := itm_PB hx n (mul_PB h hx)
    exact ⟨b, by rw [Nat.add_mul]; omega, hp⟩
def iB (e : E) : Ss := .cons (.set 13 (.call 24 (.cons (.var 13) (.cons e .nil)))) (.nil)
theorem i_loop {m c : Nat} (hm : 3 ≤ m) (hL : 20000 ≤ L) {x : Q} (hx : PB c x) {e : E} (st : Q → Option D → QQ.Env) (h1 : ∀ f s d, (st f s).set 14 d = st f d) (h2 : ∀ f s g, (st f s).set 13 (some (pr g)) = st g s) (h3 : ∀ f s, (st f s)[13]? = some (some (pr f))) (he : ∀ f s, evE ⟨P, fnS P L m, L⟩ (st f s) e w = .ok (pr x, w)) : ∀ (ds : List D) (f : Q) (s : Option D) (a : Nat), PB a f → a + ds.length * c + c ≤ 8000 → ∃ s', evFor (turnOf ⟨P, fnS P L m, L⟩ (.nm 14) (iB e)) ds (st f s) w = .ok (.nx, st (itm x ds.length f) s', w)
  | [], f, s, a, _, _ => ⟨s, rfl⟩
  | d :: ds, f, s, a, ha, hs => by
    rw [List.length_cons, Nat.add_mul] at hs
    obtain ⟨s', e'⟩ := i_loop hm hL hx st h1 h2 h3 he ds (mulp f x) (some d) (a + c) (mul_PB ha hx) (by omega)
    refine ⟨s', (for_nx (ρ' := st (mulp f x) (some d)) (w' := w) ?_).trans e'⟩
    show evSs ⟨P, fnS P L m, L⟩ (iB e) ((st f s).set 14 (some d)) w = _
    rw [h1]
    refine ss_nx (ρ' := st (mulp f x) (some d)) (w' := w) ?_
    have q := st_set (C := ⟨P, fnS P L m, L⟩) (ρ := st f (some d)) (w := w) (i := 13) (call_ev (es_cons (ev_var (h3 _ _)) (es_cons (he _ _) es_nil)) (s_times hm hL ha hx (by omega)))
    rw [h2] at q
    exact q
theorem itm_nf {c d : Int} (hd : d ≠ 0) : ∀ (n : Nat) {a b : Int}, b ≠ 0 → itm (c, d) n (nf a b) = nf (a * c ^ n) (b * d ^ n)
  | 0, a, b, hb => by simp [itm]
  | n + 1, a, b, hb => by
    show itm (c, d) n (mulp (nf a b) (c, d)) = _
    rw [mulp_nf hb hd, itm_nf hd n (Int.mul_ne_zero hb hd), Int.pow_succ', Int.pow_succ', Int.mul_assoc, Int.mul_assoc]
theorem itm_nf2 {c d : Int} (hd : d ≠ 0) : ∀ (n : Nat) {a b : Int}, b ≠ 0 → itm (nf c d) n (nf a b) = nf (a * c ^ n) (b * d ^ n)
  | 0, a, b, hb => by simp [itm]
  | n + 1, a, b, hb => by
    show itm (nf c d) n (mulp (nf a b) (nf c d)) = _
    rw [mulp_nf2 hb hd, itm_nf2 hd n (Int.mul_ne_zero hb hd), Int.pow_succ', Int.pow_succ', Int.mul_assoc, Int.mul_assoc]
/-- the law's second factor -/
def yy (y : Q) (k : Int) : Q := if 0 < k then y else nf y.2 y.1
theorem tq_eq {F x y : Q} {a b n k : Int} (hb : b ≠ 0) (hF : F = nf a b) (hx : 0 < x.2) (hy : 0 < y.2) (hy1 : y.1 ≠ 0) (hn : 0 ≤ n) :
    itm (yy y k) k.natAbs (itm x n.toNat F) = mulp F (mulp (pw x n) (pw y k)) := by
  subst hF
  have hx0 : x.2 ^ n.toNat ≠ 0 := Int.pow_ne_zero (Int.ne_of_gt hx)
  have ex : pw x n = (x.1 ^ n.toNat, x.2 ^ n.toNat) := by unfold pw; rw [if_pos hn]
  have e1 : itm x n.toNat (nf a b) = nf (a * x.1 ^ n.toNat) (b * x.2 ^ n.toNat) := itm_nf (Int.ne_of_gt hx) n.toNat hb
  have hb2 : b * x.2 ^ n.toNat ≠ 0 := Int.mul_ne_zero hb hx0
  rw [e1, ex]
  by_cases hk : 0 < k
  · have ek : k.natAbs = k.toNat := by omega
    have hy0 : y.2 ^ k.toNat ≠ 0 := Int.pow_ne_zero (Int.ne_of_gt hy)
    unfold yy
    rw [if_pos hk, ek]
    have e2 : itm y k.toNat (nf (a * x.1 ^ n.toNat) (b * x.2 ^ n.toNat)) = _ := itm_nf (c := y.1) (d := y.2) (Int.ne_of_gt hy) k.toNat hb2
    rw [e2]
    unfold pw
    rw [if_pos (by omega : 0 ≤ k)]
    show _ = mulp (nf a b) (nf _ _)
    rw [mulp_nf2 hb (Int.mul_ne_zero hx0 hy0), Int.mul_assoc, Int.mul_assoc]
  · unfold yy
    rw [if_neg hk]
    have e2 := itm_nf2 (c := y.2) (d := y.1) hy1 k.natAbs (a := a * x.1 ^ n.toNat) hb2
    rw [e2]
    have ep : ∃ s : Int, s ≠ 0 ∧ pw y k = (s * y.2 ^ k.natAbs, s * y.1 ^ k.natAbs) := by
      by_cases h0 : 0 ≤ k
      · have : k = 0 := by omega
        subst this
        exact ⟨1, by decide, by simp [pw]⟩
      · have en : (-k).toNat = k.natAbs := by omega
        unfold pw
        rw [if_neg h0, en]
        unfold inv
        by_cases hp : 0 < y.1
        · rw [if_pos hp]
          exact ⟨1, by decide, by simp⟩
        · rw [if_neg hp]
          refine ⟨(-1) ^ k.natAbs, Int.pow_ne_zero (by decide), ?_⟩
          have hm : ∀ i : Int, (-i) ^ k.natAbs = (-1) ^ k.natAbs * i ^ k.natAbs := fun i => by
            rw [← Int.mul_pow]
            congr 1
            omega
          exact Prod.ext (hm y.2) (hm y.1)
    obtain ⟨s, hs, ep⟩ := ep
    have hy0 : y.1 ^ k.natAbs ≠ 0 := Int.pow_ne_zero hy1
    rw [ep]
    show _ = mulp (nf a b) (nf _ _)
    have r1 : x.1 ^ n.toNat * (s * y.2 ^ k.natAbs) = s * (x.1 ^ n.toNat * y.2 ^ k.natAbs) := by rw [Int.mul_left_comm]
    have r2 : x.2 ^ n.toNat * (s * y.1 ^ k.natAbs) = s * (x.2 ^ n.toNat * y.1 ^ k.natAbs) := by rw [Int.mul_left_comm]
    show _ = mulp (nf a b) (nf (x.1 ^ n.toNat * (s * y.2 ^ k.natAbs)) (x.2 ^ n.toNat * (s * y.1 ^ k.natAbs)))
    rw [r1, r2, nf_scale hs (Int.mul_ne_zero hx0 hy0), mulp_nf2 hb (Int.mul_ne_zero hx0 hy0), Int.mul_assoc, Int.mul_assoc]
def a5 : Ss := .cons (.asg (.tup (.cons (.nm 10) (.cons (.nm 11) (.nil)))) (.tup (.cons (.cst (.int 1)) (.cons (.cst (.int 1)) .nil)))) (.cons (.for (.nm 12) (.seq (.var 8)) (aB 10)) (.cons (.for (.nm 12) (.seq (.var 9)) (aB 11)) (.cons (.set 13 (.call 24 (.cons (.call 25 (.cons (.var 3) (.cons (.tup (.cons (.var 1) (.cons (.cst (.int 1)) .nil))) (.cons (.tup (.cons (.var 2) (.cons (.cst (.int 1)) .nil))) .nil)))) (.cons (.call 26 (.cons (.var 10) (.cons (.var 11) .nil))) .nil)))) (.cons (.for (.nm 14) (.rng1 (.var 1)) (iB (.var 4))) (.cons (.for (.nm 14) (.rng1 (.blt .abs (.cons (.var 2) .nil))) (iB (.ifx (.val (.cmp .gt (.var 2) (.cst (.int 0)))) (.var 5) (.call 26 (.cons (.idx (.var 5) (.cst (.int 1))) (.cons (.idx (.var 5) (.cst (.int 0))) .nil)))))) (.cons (.ret (.var 13)) (.nil)))))))
def aT5 : Tg := .tup (.cons (.nm 3) (.cons (.nm 4) (.cons (.nm 5) (.cons (.nm 6) (.cons (.nm 7) (.nil))))))
theorem bat_eq : f13.body = .cons (.asg aT5 (.var 0)) (.cons (.par [8, 9] (.cons (.comp aEl aTg (.seq (.var 6)) [15, 16, 17] (.nil)) (.cons (.comp aEl aTg (.seq (.var 7)) [15, 16, 17] (.nil)) .nil))) (.cons (.ifs (aMin 8) (.cons (.ret (.cst (.non))) (.nil)) (.nil)) (.cons (.ifs (aMin 9) (.cons (.ret (.tup (.cons (.cst (.int 0)) (.cons (.cst (.int 1)) .nil)))) (.nil)) (.nil)) a5))) := rfl
theorem len_rangeD (lo : Int) (n : Nat) : (rangeD lo n).length = n := by simp [rangeD]
theorem QOk.nf {r : Q} (h : QOk r) : nf r.1 r.2 = r := by
  obtain ⟨h1, h2⟩ := h
  unfold LW.nf
  rw [if_neg (by omega), h2]
  simp
theorem s_lat5 {d : Nat} (h : 10 ≤ d) (hL : 20000 ≤ L) {t : Tm} (ht : TmOk t) {n k : Int} (hn : 0 ≤ n ∧ n ≤ 12) (hk : -20 ≤ k ∧ k ≤ 20) {ju jd : Nat} {U V : List Nat} (hu : w.lst ju = some (U.map fun (n : Nat) => D.int n)) (hd : w.lst jd = some (V.map fun (n : Nat) => D.int n)) (n1 : ∀ m ∈ U, m ≤ 100) (n2 : ∀ m ∈ V, m ≤ 100) (l1 : U.length ≤ 3) (l2 : V.length ≤ 4) :
    ∃ ρ', evSs ⟨P, fnS P L d, L⟩ a5 [some (dtm t), some (.int n), some (.int k), some (bpol t.p), some (pr t.x), some (pr t.y), some (tms t.up), some (tms t.dn), some (.ref ju), some (.ref jd), none, none, none, none, none, none, none, none] w = .ok (.rt (pr (mulp (mulp (bv t.p (n, 1) (k, 1)) (nf (pf 1 U : Nat) (pf 1 V : Nat))) (mulp (pw t.x n) (pw t.y k)))), ρ', w) := by
  obtain ⟨x1, q1⟩ := a_loop (m := d) (by omega) (i := 10) (b0 := 0) (by decide) hu n1 (by omega) hL (ρ := [some (dtm t), some (.int n), some (.int k), some (bpol t.p), some (pr t.x), some (pr t.y), some (tms t.up), some (tms t.dn), some (.ref ju), some (.ref jd), some (.int 1), some (.int 1), none, none, none, none, none, none]) (by simp) rfl
  obtain ⟨x2, q2⟩ := a_loop (m := d) (by omega) (i := 11) (b0 := 0) (by decide) hd n2 (by omega) hL (ρ := [some (dtm t), some (.int n), some (.int k), some (bpol t.p), some (pr t.x), some (pr t.y), some (tms t.up), some (tms t.dn), some (.ref ju), some (.ref jd), some (.int (pf 1 U : Nat)), some (.int 1), x1, none, none, none, none, none]) (by simp) rfl
  have pn := one_PB (n := n) (by omega)
  have pk := one_PB (n := k) (by omega)
  have hp1 := ht.p.1
  have vb : PB 200 (bv t.p (n, 1) (k, 1)) := by
    refine (hbL_PB (z := 27) pk z01 (ps := t.p.reverse) fun q hq => ?_).mono (by simp; omega)
    obtain ⟨a1, a2⟩ := ht.p.2 q (by simpa using hq)
    exact (hv_PB pn a2 a1).mono (by omega)
  have o1 : Bd 1 ((1 : Nat) : Int) := show ((1 : Nat) : Int).natAbs < 2 ^ 1 by decide
  have f1 : Bd 2900 (pf 1 U : Nat) := (pf_bd n1 o1).mono (by omega)
  have f2 : Bd 2900 (pf 1 V : Nat) := (pf_bd n2 o1).mono (by omega)
  have z2 : ((pf 1 V : Nat) : Int) ≠ 0 := by
    have := pf_pos (ns := V) (a := 1) (by decide)
    omega
  have fb := nf_PB z2 f1 f2
  have c1 : fnS P L d 25 [bpol t.p, pr (n, 1), pr (k, 1)] w = .ok (pr (bv t.p (n, 1) (k, 1)), w) := s_lbvalue (b := 6) (c := 6) (z := 2) (by omega) hL pn pk (by omega) (by omega) ht.p.2 (by omega)
  have c2 : fnS P L d 26 [.int (pf 1 U : Nat), .int (pf 1 V : Nat)] w = .ok (pr (nf (pf 1 U : Nat) (pf 1 V : Nat)), w) := s_lratio (by omega) hL z2 (f2.mono (by omega))
  have c3 : fnS P L d 24 [pr (bv t.p (n, 1) (k, 1)), pr (nf (pf 1 U : Nat) (pf 1 V : Nat))] w = .ok (pr (mulp (bv t.p (n, 1) (k, 1)) (nf (pf 1 U : Nat) (pf 1 V : Nat))), w) := s_times (by omega) hL vb fb (by omega)
  have mb := mul_PB vb fb
  generalize hF : mulp (bv t.p (n, 1) (k, 1)) (nf (pf 1 U : Nat) (pf 1 V : Nat)) = F at *
  have ex : ∃ a b, b ≠ 0 ∧ F = nf a b := by
    refine ⟨_, _, ?_, hF.symm⟩
    exact Int.mul_ne_zero (Int.ne_of_gt vb.p) (Int.ne_of_gt fb.p)
  have eN : n.natAbs = n.toNat := by omega
  obtain ⟨s1, q3⟩ := i_loop (w := w) (m := d) (by omega) hL ht.x.1 (e := .var 4) (fun f s => [some (dtm t), some (.int n), some (.int k), some (bpol t.p), some (pr t.x), some (pr t.y), some (tms t.up), some (tms t.dn), some (.ref ju), some (.ref jd), some (.int (pf 1 U : Nat)), some (.int (pf 1 V : Nat)), x2, some (pr f), s, none, none, none]) (fun _ _ _ => rfl) (fun _ _ _ => rfl) (fun _ _ => rfl) (fun _ _ => rfl) (rangeD 0 n.toNat) F none 3200 (mb.mono (by omega)) (by rw [len_rangeD]; omega)
  rw [len_rangeD] at q3
  obtain ⟨bb, hb1, hb2⟩ := itm_PB ht.x.1 n.toNat (mb.mono (show 200 + 2900 ≤ 3200 by decide))
  have yb : PB 3 (yy t.y k) := by
    unfold yy
    split
    · exact ht.y.1
    · exact nf_PB ht.y.2.1 ht.y.1.d ht.y.1.n
  obtain ⟨s2, q4⟩ := i_loop (w := w) (m := d) (by omega) hL yb (e := .ifx (.val (.cmp .gt (.var 2) (.cst (.int 0)))) (.var 5) (.call 26 (.cons (.idx (.var 5) (.cst (.int 1))) (.cons (.idx (.var 5) (.cst (.int 0))) .nil)))) (fun f s => [some (dtm t), some (.int n), some (.int k), some (bpol t.p), some (pr t.x), some (pr t.y), some (tms t.up), some (tms t.dn), some (.ref ju), some (.ref jd), some (.int (pf 1 U : Nat)), some (.int (pf 1 V : Nat)), x2, some (pr f), s, none, none, none]) (fun _ _ _ => rfl) (fun _ _ _ => rfl) (fun _ _ => rfl) (fun f s => by
    unfold yy
    by_cases hk0 : 0 < k
    · rw [if_pos hk0]
      refine ev_ifT (t_val (ev_cmp (x := .int k) (y := .int 0) (ev_var rfl) ev_cst ?_)) (ev_var rfl)
      show some (decide (0 < k)) = _
      rw [decide_eq_true hk0]
    · rw [if_neg hk0]
      refine ev_ifF (w1 := w) (t_val (ev_cmp (x := .int k) (y := .int 0) (ev_var rfl) ev_cst ?_)) (call_ev (es_cons (ev_idx (ev_var rfl) ev_cst rfl) (es_cons (ev_idx (ev_var rfl) ev_cst rfl) es_nil)) (s_lratio (by omega) hL ht.y.2.1 (ht.y.1.n.mono (by omega))))
      show some (decide (0 < k)) = _
      rw [decide_eq_false hk0]) (rangeD 0 k.natAbs) (itm t.x n.toNat F) s1 bb hb2 (by rw [len_rangeD]; omega)
  rw [len_rangeD] at q4
  obtain ⟨a, b, hb0, hF2⟩ := ex
  rw [tq_eq hb0 hF2 ht.x.1.p ht.y.1.p ht.y.2.1 hn.1] at q4
  have r1 : evIt ⟨P, fnS P L d, L⟩ [some (dtm t), some (.int n), some (.int k), some (bpol t.p), some (pr t.x), some (pr t.y), some (tms t.up), some (tms t.dn), some (.ref ju), some (.ref jd), some (.int (pf 1 U : Nat)), some (.int (pf 1 V : Nat)), x2, some (pr F), none, none, none, none] (.rng1 (.var 1)) w = .ok (.fix (rangeD 0 n.toNat), w) := it_rng1 (ev_var rfl) (big_small (by omega) (by omega))
  have r2 : evIt ⟨P, fnS P L d, L⟩ [some (dtm t), some (.int n), some (.int k), some (bpol t.p), some (pr t.x), some (pr t.y), some (tms t.up), some (tms t.dn), some (.ref ju), some (.ref jd), some (.int (pf 1 U : Nat)), some (.int (pf 1 V : Nat)), x2, some (pr (itm t.x n.toNat F)), s1, none, none, none] (.rng1 (.blt .abs (.cons (.var 2) .nil))) w = .ok (.fix (rangeD 0 k.natAbs), w) := by
    have := it_rng1 (C := ⟨P, fnS P L d, L⟩) (w := w) (w1 := w) (ρ := [some (dtm t), some (.int n), some (.int k), some (bpol t.p), some (pr t.x), some (pr t.y), some (tms t.up), some (tms t.dn), some (.ref ju), some (.ref jd), some (.int (pf 1 U : Nat)), some (.int (pf 1 V : Nat)), x2, some (pr (itm t.x n.toNat F)), s1, none, none, none]) (a := .blt .abs (.cons (.var 2) .nil)) (j := if k < 0 then -k else k) (ev_blt (es_cons (ev_var rfl) es_nil) rfl) (big_small (by split <;> omega) (by split <;> omega))
    rw [this]
    congr 4
    split <;> omega
  refine ⟨_, (ss_nx (st_asg rfl rfl)).trans ((ss_nx (st_forL (it_seqL (n := ju) rfl hu) q1)).trans ((ss_nx (st_forL (it_seqL (n := jd) rfl hd) q2)).trans ((ss_nx (st_set (d := pr F) (call_ev (es_cons (call_ev (es_cons (ev_var rfl) (es_cons (d := pr (n, 1)) rfl (es_cons (d := pr (k, 1)) rfl es_nil))) c1) (es_cons (call_ev (es_cons (ev_var rfl) (es_cons (ev_var rfl) es_nil)) c2) es_nil)) c3))).trans ((ss_nx (st_for r1 q3)).trans ((ss_nx (st_for r2 q4)).trans (ss_rt (st_ret (ev_var rfl))))))))⟩
end LW

set_option Elab.async false
set_option linter.all false
set_option maxRecDepth 100000
set_option maxHeartbeats 1000000
namespace LW
open QQ PySem
variable {L : Nat} {w : W}
theorem s_lat {d : Nat} (h : 11 ≤ d) (hL : 20000 ≤ L) {t : Tm} (ht : TmOk t) {n k : Int} (hn : 0 ≤ n ∧ n ≤ 12) (hk : -20 ≤ k ∧ k ≤ 20) : fnS P L d 13 [dtm t, .int n, .int k] w = .ok (tv t n k, w) := by
  obtain ⟨m, rfl⟩ : ∃ m, d = m + 1 := ⟨d - 1, by omega⟩
  have hn' : n.natAbs < 2 ^ 63 := by omega
  have hk' : k.natAbs < 2 ^ 63 := by omega
  have lu := ht.up.1
  have ld := ht.dn.1
  generalize hA : Cell.lst ((nums n k t.up).map .int) = A
  generalize hB : Cell.lst ((nums n k t.dn).map .int) = B
  have u1 : ∀ w' a8 a9 a10 a11 a12 a13 a14 a15 a16 a17, evE ⟨P, fnS P L m, L⟩ [some (dtm t), some (.int n), some (.int k), some (bpol t.p), some (pr t.x), some (pr t.y), some (tms t.up), some (tms t.dn), a8, a9, a10, a11, a12, a13, a14, a15, a16, a17] (.comp aEl aTg (.seq (.var 6)) [15, 16, 17] (.nil)) w' = .ok (.ref w'.cs.length, ⟨w'.cs ++ [A], w'.lo⟩) := fun w' _ _ _ _ _ _ _ _ _ _ => by
    rw [← hA]; exact ev_anums hn' hk' (by omega) fun w => it_seqT rfl
  have u2 : ∀ w' a8 a9 a10 a11 a12 a13 a14 a15 a16 a17, evE ⟨P, fnS P L m, L⟩ [some (dtm t), some (.int n), some (.int k), some (bpol t.p), some (pr t.x), some (pr t.y), some (tms t.up), some (tms t.dn), a8, a9, a10, a11, a12, a13, a14, a15, a16, a17] (.comp aEl aTg (.seq (.var 7)) [15, 16, 17] (.nil)) w' = .ok (.ref w'.cs.length, ⟨w'.cs ++ [B], w'.lo⟩) := fun w' _ _ _ _ _ _ _ _ _ _ => by
    rw [← hB]; exact ev_anums hn' hk' (by omega) fun w => it_seqT rfl
  have p1 : ∃ ρ2, evSs ⟨P, fnS P L m, L⟩ (.cons (.asg aT5 (.var 0)) (.cons (.par [8, 9] (.cons (.comp aEl aTg (.seq (.var 6)) [15, 16, 17] (.nil)) (.cons (.comp aEl aTg (.seq (.var 7)) [15, 16, 17] (.nil)) .nil))) .nil)) [some (dtm t), some (.int n), some (.int k), none, none, none, none, none, none, none, none, none, none, none, none, none, none, none] ⟨w.cs, w.cs.length⟩ = ρ2 := ⟨_, rfl⟩
  generalize hw2 : (⟨w.cs ++ [A, B], w.cs.length⟩ : W) = w2
  have j1 : w2.lst w.cs.length = some ((nums n k t.up).map .int) := by rw [← hw2, ← hA]; simp [W.lst]
  have j2 : w2.lst (w.cs.length + 1) = some ((nums n k t.dn).map .int) := by rw [← hw2, ← hB]; simp [W.lst]
  have m1 : ∀ ρ : QQ.Env, ρ[8]? = some (some (.ref w.cs.length)) → evT ⟨P, fnS P L m, L⟩ ρ (aMin 8) w2 = .ok (decide (min0 (nums n k t.up) < 0), ⟨w2.cs ++ [.lst [.int 0], .lst (((nums n k t.up) ++ [0]).map .int)], w2.lo⟩) := fun ρ h => ev_amin h j1 (by unfold nums; simp; omega)
  generalize hC : [Cell.lst [.int 0], Cell.lst (((nums n k t.up) ++ [0]).map .int)] = TC at m1
  generalize hD : [Cell.lst [.int 0], Cell.lst (((nums n k t.dn) ++ [0]).map .int)] = TD
  have k1 : W.lst ⟨w2.cs ++ TC, w2.lo⟩ (w.cs.length + 1) = some ((nums n k t.dn).map .int) := lst_app j2
  have m2 : ∀ ρ : QQ.Env, ρ[9]? = some (some (.ref (w.cs.length + 1))) → evT ⟨P, fnS P L m, L⟩ ρ (aMin 9) ⟨w2.cs ++ TC, w2.lo⟩ = .ok (decide (min0 (nums n k t.dn) < 0), ⟨(w2.cs ++ TC) ++ TD, w2.lo⟩) := fun ρ h => by
    rw [← hD]; exact ev_amin h k1 (by unfold nums; simp; omega)
  have fin : ∀ (ρ' : QQ.Env) (v : D) (T : List Cell), evSs ⟨P, fnS P L m, L⟩ (.cons (.ifs (aMin 8) (.cons (.ret (.cst (.non))) (.nil)) (.nil)) (.cons (.ifs (aMin 9) (.cons (.ret (.tup (.cons (.cst (.int 0)) (.cons (.cst (.int 1)) .nil)))) (.nil)) (.nil)) a5)) [some (dtm t), some (.int n), some (.int k), some (bpol t.p), some (pr t.x), some (pr t.y), some (tms t.up), some (tms t.dn), some (.ref w.cs.length), some (.ref (w.cs.length + 1)), none, none, none, none, none, none, none, none] w2 = .ok (.rt v, ρ', ⟨w2.cs ++ T, w2.lo⟩) → flat v = true → fnS P L (m + 1) 13 [dtm t, .int n, .int k] w = .ok (v, w) := by
    intro ρ' v T e hv
    subst hw2
    refine fn_rt (F := f13) (lo := w.cs.length) (t := [A, B] ++ T) rfl rfl (ρ' := ρ') ?_ (Nat.le_refl _) hv
    rw [bat_eq, ← List.append_assoc]
    refine (ss_nx (ρ' := [some (dtm t), some (.int n), some (.int k), some (bpol t.p), some (pr t.x), some (pr t.y), some (tms t.up), some (tms t.dn), none, none, none, none, none, none, none, none, none, none]) (st_asg rfl rfl)).trans ((ss_nx (st_par (es_cons (u1 _ _ _ _ _ _ _ _ _ _ _) (es_cons (u2 _ _ _ _ _ _ _ _ _ _ _) es_nil)) rfl)).trans ?_)
    have el : (w.cs ++ [A]).length = w.cs.length + 1 := by simp
    show evSs _ _ [some (dtm t), some (.int n), some (.int k), some (bpol t.p), some (pr t.x), some (pr t.y), some (tms t.up), some (tms t.dn), some (.ref w.cs.length), some (.ref (w.cs ++ [A]).length), none, none, none, none, none, none, none, none] ⟨w.cs ++ [A] ++ [B], w.cs.length⟩ = _
    rw [el, List.append_assoc]
    exact e
  unfold tv
  by_cases hu : min0 (nums n k t.up) < 0
  · rw [if_pos hu]
    rw [decide_eq_true hu] at m1
    exact fin _ .non _ (ss_rt ((st_ifT (m1 _ rfl)).trans (ss_rt (st_ret rfl)))) rfl
  rw [if_neg hu]
  rw [decide_eq_false hu] at m1
  by_cases hd : min0 (nums n k t.dn) < 0
  · rw [if_pos hd]
    rw [decide_eq_true hd, List.append_assoc] at m2
    exact fin _ (pr (0, 1)) _ ((ss_nx (st_ifF (m1 _ rfl))).trans (ss_rt ((st_ifT (m2 _ rfl)).trans (ss_rt (st_ret rfl))))) rfl
  rw [if_neg hd]
  rw [decide_eq_false hd, List.append_assoc] at m2
  have n1 := nums_le hn hk ht.up.2
  have n2 := nums_le hn hk ht.dn.2
  have l1 : ((nums n k t.up).map Int.toNat).length ≤ 3 := by unfold nums; simp; exact ht.up.1
  have l2 : ((nums n k t.dn).map Int.toNat).length ≤ 4 := by unfold nums; simp; exact ht.dn.1
  have q1 : W.lst ⟨w2.cs ++ (TC ++ TD), w2.lo⟩ w.cs.length = some (((nums n k t.up).map Int.toNat).map fun (n : Nat) => D.int n) := by
    refine (lst_app j1).trans ?_
    conv => lhs; rw [nat_of hu]
    rw [List.map_map]
    rfl
  have q2 : W.lst ⟨w2.cs ++ (TC ++ TD), w2.lo⟩ (w.cs.length + 1) = some (((nums n k t.dn).map Int.toNat).map fun (n : Nat) => D.int n) := by
    refine (lst_app j2).trans ?_
    conv => lhs; rw [nat_of hd]
    rw [List.map_map]
    rfl
  obtain ⟨ρ', e⟩ := s_lat5 (d := m) (by omega) hL ht hn hk q1 q2 n1 n2 l1 l2
  exact fin _ (pr _) _ ((ss_nx (st_ifF (m1 _ rfl))).trans ((ss_nx (st_ifF (m2 _ rfl))).trans e)) rfl
end LW

set_option Elab.async false
set_option linter.all false
set_option maxRecDepth 100000
set_option maxHeartbeats 1000000
namespace LW
open QQ PySem
variable {L : Nat} {w : W}
/-! the tests of the program -/
def isI : D → Bool
  | .int _ => true
  | _ => false
def isB : D → Bool
  | .bl _ => true
  | _ => false
def isT : D → Bool
  | .tup _ => true
  | _ => false
def inR (x : D) (lo hi : Int) : Bool := match x with
  | .int i => decide (lo ≤ i) && decide (i ≤ hi)
  | _ => false
def rowB (x : D) (lo hi : Int) : Bool := match x with
  | .tup ds => decide (lo ≤ ds.length) && decide ((ds.length : Int) ≤ hi)
  | _ => false
theorem isi_of {x : D} (h : Pl w x) : isiSem .int x w = some (isI x || isB x) ∧ isiSem .bool x w = some (isB x) ∧ isiSem .tuple x w = some (isT x) := by
  rcases h with rfl | ⟨u, hu⟩
  · exact ⟨rfl, rfl, rfl⟩
  · cases x with
    | ref j =>
      cases e : w.cs[j]? with
      | none => simp [tyOf, e] at hu
      | some c =>
        cases c with
        | ins a b => simp [tyOf, e] at hu
        | lst ds => simp [isiSem, tyOf, e, isI, isB, isT]
    | _ => first | exact ⟨rfl, rfl, rfl⟩ | (simp [tyOf] at hu)
theorem s_isint {n : Nat} (h : 1 ≤ n) {x : D} (hp : Pl w x) : fnS P L n 30 [x] w = .ok (.bl (isI x), w) := by
  obtain ⟨m, rfl⟩ : ∃ m, n = m + 1 := ⟨n - 1, by omega⟩
  have e : isI x = ((isI x || isB x) && !isB x) := by cases x <;> rfl
  rw [e]
  refine fn_G (F := f30) rfl rfl (SG.ret ?_) rfl
  exact EG.and2 (EG.isi (EG.var rfl) fun w' g => (isi_of (g.pl hp)).1) fun _ w' g => EG.and1 (EG.not (EG.isi (EG.var rfl) fun w'' g' => (isi_of ((g.trans g').pl hp)).2.1))
theorem s_within {n : Nat} (h : 2 ≤ n) {x : D} (hp : Pl w x) (lo hi : Int) : fnS P L n 15 [x, .int lo, .int hi] w = .ok (.bl (inR x lo hi), w) := by
  obtain ⟨m, rfl⟩ : ∃ m, n = m + 1 := ⟨n - 1, by omega⟩
  have e : inR x lo hi = (isI x && inR x lo hi) := by cases x <;> rfl
  rw [e]
  refine fn_G (F := f15) rfl rfl (SG.ret ?_) rfl
  refine EG.and2 (EG.call (EsG.one (EG.var rfl)) fun w' g => s_isint (by omega) (g.pl hp)) fun hi' w' g => EG.and1 ?_
  cases x with
  | int i =>
    by_cases h1 : lo ≤ i
    · by_cases h2 : i ≤ hi
      · exact ⟨w', by simp [evSs, evS, evT, evAll, evAny, evE, evEs, evAnd, evOr, evTg, evTgs, tgsLen, evIt, evSrc, setAll, bind_ok, bind_ex, bind_bad, env_ok, env_ex, env_bad, calm_ok, ofO, fin, opSem, opInt, opAug, cpSem, eqSem, ixSem, toP_int, toP_bl, toP_non, toP_tup, optAll, items, L2.atI, L2.ixN, flat, flats, PyData.eqv, bltSem, isiSem, tyOf, QQ.line, inR, h1, h2], .refl _⟩
      · exact ⟨w', by simp [evSs, evS, evT, evAll, evAny, evE, evEs, evAnd, evOr, evTg, evTgs, tgsLen, evIt, evSrc, setAll, bind_ok, bind_ex, bind_bad, env_ok, env_ex, env_bad, calm_ok, ofO, fin, opSem, opInt, opAug, cpSem, eqSem, ixSem, toP_int, toP_bl, toP_non, toP_tup, optAll, items, L2.atI, L2.ixN, flat, flats, PyData.eqv, bltSem, isiSem, tyOf, QQ.line, inR, h1, h2], .refl _⟩
    · exact ⟨w', by simp [evSs, evS, evT, evAll, evAny, evE, evEs, evAnd, evOr, evTg, evTgs, tgsLen, evIt, evSrc, setAll, bind_ok, bind_ex, bind_bad, env_ok, env_ex, env_bad, calm_ok, ofO, fin, opSem, opInt, opAug, cpSem, eqSem, ixSem, toP_int, toP_bl, toP_non, toP_tup, optAll, items, L2.atI, L2.ixN, flat, flats, PyData.eqv, bltSem, isiSem, tyOf, QQ.line, inR, h1], .refl _⟩
  | _ => simp [isI] at hi'
theorem s_isrow {n : Nat} (h : 1 ≤ n) {x : D} (hp : Pl w x) (lo hi : Int) : fnS P L n 16 [x, .int lo, .int hi] w = .ok (.bl (rowB x lo hi), w) := by
  obtain ⟨m, rfl⟩ : ∃ m, n = m + 1 := ⟨n - 1, by omega⟩
  have e : rowB x lo hi = (isT x && rowB x lo hi) := by cases x <;> rfl
  rw [e]
  refine fn_G (F := f16) rfl rfl (SG.ret ?_) rfl
  refine EG.and2 (EG.isi (EG.var rfl) fun w' g => (isi_of (g.pl hp)).2.2) fun hi' w' g => EG.and1 ?_
  cases x with
  | tup ds =>
    by_cases h1 : lo ≤ ds.length
    · by_cases h2 : (ds.length : Int) ≤ hi
      · exact ⟨w', by simp [evSs, evS, evT, evAll, evAny, evE, evEs, evAnd, evOr, evTg, evTgs, tgsLen, evIt, evSrc, setAll, bind_ok, bind_ex, bind_bad, env_ok, env_ex, env_bad, calm_ok, ofO, fin, opSem, opInt, opAug, cpSem, eqSem, ixSem, toP_int, toP_bl, toP_non, toP_tup, optAll, items, L2.atI, L2.ixN, flat, flats, PyData.eqv, bltSem, isiSem, tyOf, QQ.line, rowB, h1, h2], .refl _⟩
      · exact ⟨w', by simp [evSs, evS, evT, evAll, evAny, evE, evEs, evAnd, evOr, evTg, evTgs, tgsLen, evIt, evSrc, setAll, bind_ok, bind_ex, bind_bad, env_ok, env_ex, env_bad, calm_ok, ofO, fin, opSem, opInt, opAug, cpSem, eqSem, ixSem, toP_int, toP_bl, toP_non, toP_tup, optAll, items, L2.atI, L2.ixN, flat, flats, PyData.eqv, bltSem, isiSem, tyOf, QQ.line, rowB, h1, h2], .refl _⟩
    · exact ⟨w', by simp [evSs, evS, evT, evAll, evAny, evE, evEs, evAnd, evOr, evTg, evTgs, tgsLen, evIt, evSrc, setAll, bind_ok, bind_ex, bind_bad, env_ok, env_ex, env_bad, calm_ok, ofO, fin, opSem, opInt, opAug, cpSem, eqSem, ixSem, toP_int, toP_bl, toP_non, toP_tup, optAll, items, L2.atI, L2.ixN, flat, flats, PyData.eqv, bltSem, isiSem, tyOf, QQ.line, rowB, h1], .refl _⟩
  | _ => simp [isT] at hi'
/-- what the tests can look at, n deep -/
def PlN : Nat → W → D → Prop
  | 0, w, x => Pl w x
  | n + 1, w, x => Pl w x ∧ ∀ ds, x = .tup ds → ds.length ≤ 1000 ∧ ∀ d ∈ ds, PlN n w d
theorem PlN.pl {x : D} : ∀ {n : Nat}, PlN n w x → Pl w x
  | 0, h => h
  | _ + 1, h => h.1
theorem PlN.gr {w' : W} (g : Gr w w') : ∀ {n : Nat} {x : D}, PlN n w x → PlN n w' x
  | 0, x, h => g.pl h
  | n + 1, x, h => ⟨g.pl h.1, fun ds e => ⟨(h.2 ds e).1, fun d hd => PlN.gr g ((h.2 ds e).2 d hd)⟩⟩
theorem PlN.same {w w' : W} (hc : w.cs = w'.cs) : ∀ {n : Nat} {x : D}, PlN n w x → PlN n w' x := by
  intro n x h
  obtain ⟨cs, lo⟩ := w
  obtain ⟨cs', lo'⟩ := w'
  simp only at hc
  subst hc
  induction n generalizing x with
  | zero => exact h
  | succ n ih => exact ⟨h.1, fun ds e => ⟨(h.2 ds e).1, fun d hd => ih ((h.2 ds e).2 d hd)⟩⟩
theorem or_ret {C : QQ.Ctx} {ρ : QQ.Env} {ts : Ts} {ss : Ss} {p q r : Bool} (h : TG C ρ (.or ts) w p) (e : p = true → r = false) (h2 : p = false → ∀ w', Gr w w' → SG C ρ ss w' (.bl r)) : SG C ρ (.cons (.ifs (.or ts) (.cons (.ret (.cst (.bl false))) .nil) .nil) ss) w (.bl r) :=
  SG.ifr h (fun hp w' g => by rw [e hp]; exact EG.cst) h2
def ratB : D → Bool
  | .tup [.int a, .int b] => decide (0 < b) && (gc a b == 1)
  | _ => false
theorem s_isratio {n : Nat} (h : 2 ≤ n) {x : D} (hp : PlN 1 w x) : fnS P L n 39 [x] w = .ok (.bl (ratB x), w) := by
  obtain ⟨m, rfl⟩ : ∃ m, n = m + 1 := ⟨n - 1, by omega⟩
  refine fn_G (F := f39) rfl rfl ?_ rfl
  by_cases hr : rowB x 2 2 = true
  · have : ∃ a b, x = .tup [a, b] := by
      cases x with
      | tup ds =>
        match ds, hr with
        | [a, b], _ => exact ⟨a, b, rfl⟩
        | [], h => simp [rowB] at h
        | [a], h => simp [rowB] at h
        | a :: b :: c :: l, h => simp [rowB] at h; omega
      | _ => simp [rowB] at hr
    obtain ⟨a, b, rfl⟩ := this
    obtain ⟨_, hq⟩ := (hp.2 _ rfl)
    have pa : Pl w a := hq a (by simp)
    have pb : Pl w b := hq b (by simp)
    refine or_ret (p := (false || (!isI a || (!isI b || false)))) (q := false) (TG.or (TG.nt (p := true) (TG.val (EG.call (EsG.cons (EG.var rfl) fun _ _ => EsG.cons EG.cst fun _ _ => EsG.one EG.cst) fun w' g => by rw [← hr]; exact s_isrow (by omega) (g.pl hp.pl) 2 2))) fun _ w' g => TG.or (TG.nt (TG.val (EG.call (EsG.one (EG.idx (EG.var rfl) (fun _ _ => EG.cst) fun _ _ => rfl)) fun w'' g' => s_isint (by omega) ((g.trans g').pl pa)))) fun _ w' g' => TG.or (TG.nt (TG.val (EG.call (EsG.one (EG.idx (EG.var rfl) (fun _ _ => EG.cst) fun _ _ => rfl)) fun w'' g'' => s_isint (by omega) (((g.trans g').trans g'').pl pb)))) fun _ _ _ => TG.or0) ?_ ?_
    · intro h
      cases a <;> cases b <;> first | rfl | (simp [isI] at h)
    · intro h w' g
      cases a with
      | int a =>
        cases b with
        | int b =>
          have e : ratB (.tup [.int a, .int b]) = (decide (0 < b) && (gc a b == 1)) := rfl
          rw [e]
          refine SG.ret (EG.and2 (EG.cmp (EG.idx (EG.var rfl) (fun _ _ => EG.cst) fun _ _ => rfl) (fun _ _ => EG.cst) fun _ _ => rfl) fun _ w'' g' => EG.and1 ?_)
          refine EG.cmp (x := .int (gc a b)) (y := .int 1) (EG.blt (EsG.cons (EG.idx (EG.var rfl) (fun _ _ => EG.cst) fun _ _ => rfl) fun _ _ => EsG.one (EG.idx (EG.var rfl) (fun _ _ => EG.cst) fun _ _ => rfl)) fun w' _ => ⟨w', rfl, .refl _⟩) (fun _ _ => EG.cst) fun w' _ => ?_
          simp [cpSem, eqSem, toP_int, PyData.eqv]
        | _ => simp [isI] at h
      | _ => simp [isI] at h
  · have hr' : rowB x 2 2 = false := by simpa using hr
    refine or_ret (p := (true || false)) (q := false) (TG.or (TG.nt (p := false) (TG.val (EG.call (EsG.cons (EG.var rfl) fun _ _ => EsG.cons EG.cst fun _ _ => EsG.one EG.cst) fun w' g => by rw [← hr']; exact s_isrow (by omega) (g.pl hp.pl) 2 2))) fun h => by cases h) ?_ (fun h => by cases h)
    intro _
    unfold ratB
    split
    · exact absurd rfl hr
    · rfl
end LW

set_option Elab.async false
set_option linter.all false
set_option maxRecDepth 100000
set_option maxHeartbeats 1000000
namespace LW
open QQ PySem
variable {L : Nat} {w : W}
theorem atI_last {α : Type} (l : List α) (h : l ≠ []) : L2.atI l (-1) = l.getLast? := by
  have hl : 0 < l.length := List.length_pos_iff.mpr h
  unfold L2.atI L2.ixN
  rw [List.getLast?_eq_getElem?]
  have h1 : ¬ (0 : Int) ≤ -1 := by decide
  simp
  have e : (-1 + (l.length : Int)).toNat = l.length - 1 := by omega
  rw [if_pos (by omega), e]
  rfl
def lastB (isz : D → Bool) (ds : List D) : Bool := match ds.getLast? with
  | none => true
  | some d => !isz d
def listB (f isz : D → Bool) : D → Bool
  | .tup ds => ds.all f && lastB isz ds
  | _ => false
def lpB (fi : Nat) (Z : E) : Ss := .cons (.ifs (.or (.cons (.nt (.val (.isi .tuple (.var 0)))) (.cons (.nt (.val (.blt .all1 (.cons (.comp (.call fi (.cons (.var 1) .nil)) (.nm 1) (.seq (.var 0)) [1] (.nil)) .nil)))) (.nil)))) (.cons (.ret (.cst (.bl false))) (.nil)) (.nil)) (.cons (.ret (.orv (.cons (.cmp .eq (.var 0) (.tup (.nil))) (.cons (.cmp .ne (.idx (.var 0) (.neg (.cst (.int 1)))) Z) .nil)))) (.nil))
theorem poly_like {C : QQ.Ctx} {fi : Nat} {Z : E} {zd x : D} {f isz : D → Bool} (hx : Pl w x) (hf : ∀ ds, x = .tup ds → ds.length ≤ QQ.line ∧ ∀ d ∈ ds, ∀ w', Gr w w' → C.call fi [d] w' = .ok (.bl (f d), w')) (hz : ∀ ρ w, EG C ρ Z w zd) (hzt : tree 5 zd = true) (ht : ∀ d, f d = true → tree 5 d = true) (hi : ∀ d, isz d = true ↔ d = zd) :
    SG C [some x, none] (lpB fi Z) w (.bl (listB f isz x)) := by
  cases x with
  | tup ds =>
    obtain ⟨hl, hc⟩ := hf ds rfl
    refine or_ret (q := false) (p := (!true || (!(ds.all f) || false))) (TG.or (TG.nt (TG.val (EG.isi (EG.var rfl) fun w' g => (isi_of (g.pl hx)).2.2))) fun _ w' g => TG.or (TG.nt (TG.val (EG.all (EG.var rfl) hl fun d hd w'' g' => EG.call (EsG.one (EG.var rfl)) fun w3 g3 => hc d hd w3 ((g.trans g').trans g3)))) fun _ _ _ => TG.or0) ?_ ?_
    · intro h
      have : ds.all f = false := by simpa using h
      simp [listB, this]
    · intro h w' g
      have ha : ds.all f = true := by simpa using h
      have ht' : trees 5 ds = true := (trees_iff 5 ds).mpr fun d hd => ht d (List.all_eq_true.mp ha d hd)
      refine SG.ret ?_
      by_cases he : ds = []
      · subst he
        have : listB f isz (.tup []) = (true || true) := rfl
        rw [this]
        exact EG.or2 (EG.cmp (EG.var rfl) (fun w' _ => EG.of rfl) fun w' _ => eq_T (n := 1) rfl (by decide) w') fun h => by cases h
      · have hne : ds.getLast? ≠ none := by simpa using he
        obtain ⟨z, hz'⟩ := Option.ne_none_iff_exists'.mp hne
        have hzm : z ∈ ds := List.mem_of_getLast? hz'
        have e : listB f isz (.tup ds) = (false || !isz z) := by
          simp [listB, ha, lastB, hz']
        rw [e]
        refine EG.or2 (EG.cmp (x := .tup ds) (y := .tup []) (EG.var rfl) (fun w' _ => EG.of rfl) fun w' _ => eq_F (n := 6) (m := 1) (by simpa [tree] using ht') rfl (by decide) (by decide) (fun e => he (by injection e)) w') fun _ w' g => EG.or1 (EG.cmp (x := z) (y := zd) (EG.idx (EG.var rfl) (fun w' _ => EG.of rfl) fun w' _ => ?_) (fun w' _ => hz _ w') fun w' _ => ?_)
        · show L2.atI ds (-1) = some z
          rw [atI_last ds he, hz']
        · show (eqSem z zd w').map (!·) = some (!isz z)
          by_cases h : isz z = true
          · rw [h, (hi z).mp h, eq_T hzt (by decide)]
            rfl
          · have h' : isz z = false := by simpa using h
            rw [h', eq_F ((trees_iff 5 ds).mp ht' z hzm) hzt (by decide) (by decide) (fun e => h ((hi z).mpr e))]
            rfl
  | _ => exact or_ret (q := false) (p := (!false || false)) (TG.or (TG.nt (TG.val (EG.isi (EG.var rfl) fun w' g => (isi_of (g.pl hx)).2.2))) fun h => by cases h) (fun _ => rfl) (fun h => by cases h)
def isZ : D → Bool
  | .tup [.int 0, .int 1] => true
  | _ => false
theorem isZ_iff (d : D) : isZ d = true ↔ d = .tup [.int 0, .int 1] := by
  unfold isZ
  split
  · simp
  · next h => exact ⟨fun h => (by cases h), fun e => absurd e (fun e => h e)⟩
def isE : D → Bool
  | .tup [] => true
  | _ => false
theorem isE_iff (d : D) : isE d = true ↔ d = .tup [] := by
  unfold isE
  split
  · simp
  · next h => exact ⟨fun h => (by cases h), fun e => absurd e (fun e => h e)⟩
theorem ratB_of {x : D} (h : ratB x = true) : ∃ r : Q, x = pr r ∧ QOk r := by
  unfold ratB at h
  split at h
  · next a b =>
    simp at h
    exact ⟨(a, b), rfl, h⟩
  · cases h
theorem ratB_pr (r : Q) : ratB (pr r) = true ↔ QOk r := by
  unfold QOk
  simp [ratB, pr]
theorem tree_pr (r : Q) : tree 1 (pr r) = true := rfl
def polB (x : D) : Bool := listB ratB isZ x
def dblB (x : D) : Bool := listB polB isE x
theorem listB_of {f isz : D → Bool} {x : D} (h : listB f isz x = true) : ∃ ds, x = .tup ds ∧ (∀ d ∈ ds, f d = true) ∧ ∀ d, ds.getLast? = some d → isz d = false := by
  cases x with
  | tup ds =>
    simp only [listB, Bool.and_eq_true, List.all_eq_true] at h
    refine ⟨ds, rfl, h.1, fun d hd => ?_⟩
    have := h.2
    unfold lastB at this
    rw [hd] at this
    simpa using this
  | _ => simp [listB] at h
theorem map_of {α : Type} {f : D → Bool} {g : α → D} {p : α → Prop} (h : ∀ d, f d = true → ∃ a, d = g a ∧ p a) : ∀ ds : List D, (∀ d ∈ ds, f d = true) → ∃ l : List α, ds = l.map g ∧ ∀ a ∈ l, p a
  | [], _ => ⟨[], rfl, by simp⟩
  | d :: ds, hd => by
    obtain ⟨a, rfl, ha⟩ := h d (hd d List.mem_cons_self)
    obtain ⟨l, rfl, hl⟩ := map_of h ds fun d h => hd d (List.mem_cons_of_mem _ h)
    refine ⟨a :: l, rfl, fun b hb => ?_⟩
    rcases List.mem_cons.mp hb with rfl | hb
    · exact ha
    · exact hl b hb
theorem polB_of {x : D} (h : polB x = true) : ∃ q : List Q, x = pol q ∧ POk q := by
  obtain ⟨ds, rfl, h1, h2⟩ := listB_of h
  obtain ⟨q, rfl, hq⟩ := map_of (fun d => ratB_of) ds h1
  refine ⟨q, rfl, hq, fun d hd e => ?_⟩
  have := h2 (pr d) (by simp [List.getLast?_map, hd])
  rw [e] at this
  cases this
theorem pr_inj {r s : Q} (h : pr r = pr s) : r = s := by
  unfold pr at h
  simp at h
  exact Prod.ext h.1 h.2
theorem polB_pol {q : List Q} (h : POk q) : polB (pol q) = true := by
  show ((q.map pr).all ratB && lastB isZ (q.map pr)) = true
  rw [Bool.and_eq_true]
  refine ⟨?_, ?_⟩
  · rw [List.all_map, List.all_eq_true]
    exact fun r hr => (ratB_pr r).mpr (h.1 r hr)
  · unfold lastB
    rw [List.getLast?_map]
    cases e : q.getLast? with
    | none => rfl
    | some r =>
      show (!isZ (pr r)) = true
      have := h.2 r e
      have : ¬ isZ (pr r) = true := fun z => this (pr_inj ((isZ_iff _).mp z))
      simpa using this
theorem tree_pol (q : List Q) : tree 2 (pol q) = true := by
  show trees 1 (q.map pr) = true
  rw [trees_iff]
  intro d hd
  obtain ⟨r, _, rfl⟩ := List.mem_map.mp hd
  rfl
theorem tree_bpol (p : List (List Q)) : tree 3 (bpol p) = true := by
  show trees 2 (p.map pol) = true
  rw [trees_iff]
  intro d hd
  obtain ⟨r, _, rfl⟩ := List.mem_map.mp hd
  exact tree_pol r
theorem dblB_of {x : D} (h : dblB x = true) : ∃ p : List (List Q), x = bpol p ∧ BOk p := by
  obtain ⟨ds, rfl, h1, h2⟩ := listB_of h
  obtain ⟨q, rfl, hq⟩ := map_of (fun d => polB_of) ds h1
  refine ⟨q, rfl, hq, fun d hd e => ?_⟩
  have := h2 (pol d) (by simp [List.getLast?_map, hd])
  rw [e] at this
  cases this
theorem dblB_bpol {p : List (List Q)} (h : BOk p) : dblB (bpol p) = true := by
  show ((p.map pol).all polB && lastB isE (p.map pol)) = true
  rw [Bool.and_eq_true]
  refine ⟨?_, ?_⟩
  · rw [List.all_map, List.all_eq_true]
    exact fun r hr => polB_pol (h.1 r hr)
  · unfold lastB
    rw [List.getLast?_map]
    cases e : p.getLast? with
    | none => rfl
    | some r =>
      show (!isE (pol r)) = true
      have h1 := h.2 r e
      have : ¬ isE (pol r) = true := fun z => by
        have := (isE_iff _).mp z
        unfold pol at this
        simp at this
        exact h1 this
      simpa using this
theorem s_ispol {n : Nat} (h : 3 ≤ n) {x : D} (hp : PlN 2 w x) : fnS P L n 43 [x] w = .ok (.bl (polB x), w) := by
  obtain ⟨m, rfl⟩ : ∃ m, n = m + 1 := ⟨n - 1, by omega⟩
  refine fn_G (F := f43) rfl rfl ?_ rfl
  have hp' : PlN 2 ⟨w.cs, w.cs.length⟩ x := hp.same rfl
  exact poly_like (Z := .glob 3) (zd := .tup [.int 0, .int 1]) hp'.pl (fun ds e => ⟨by have := (hp.2 ds e).1; unfold QQ.line; omega, fun d hd w' g => s_isratio (by omega) (((hp'.2 ds e).2 d hd).gr g)⟩) (fun ρ w => EG.of rfl) rfl (fun d h => by obtain ⟨r, rfl, _⟩ := ratB_of h; rfl) isZ_iff
theorem s_isdbl {n : Nat} (h : 4 ≤ n) {x : D} (hp : PlN 3 w x) : fnS P L n 38 [x] w = .ok (.bl (dblB x), w) := by
  obtain ⟨m, rfl⟩ : ∃ m, n = m + 1 := ⟨n - 1, by omega⟩
  refine fn_G (F := f38) rfl rfl ?_ rfl
  have hp' : PlN 3 ⟨w.cs, w.cs.length⟩ x := hp.same rfl
  exact poly_like (Z := .tup .nil) (zd := .tup []) hp'.pl (fun ds e => ⟨by have := (hp.2 ds e).1; unfold QQ.line; omega, fun d hd w' g => s_ispol (by omega) (((hp'.2 ds e).2 d hd).gr g)⟩) (fun ρ w => EG.of rfl) rfl (fun d h => by obtain ⟨r, rfl, _⟩ := polB_of h; exact tree_mono _ 2 5 (by decide) (tree_pol r)) isE_iff
end LW

set_option Elab.async false
set_option linter.all false
set_option maxRecDepth 100000
set_option maxHeartbeats 1000000
namespace LW
open QQ PySem
variable {L : Nat} {w : W}
def triB (least : Int) : D → Bool
  | .tup [a, b, c] => inR a least 3 && (inR b (-3) 3 && inR c (-20) 20)
  | _ => false
theorem rowB_three {x : D} (h : rowB x 3 3 = true) : ∃ a b c, x = .tup [a, b, c] := by
  cases x with
  | tup ds =>
    match ds, h with
    | [a, b, c], _ => exact ⟨a, b, c, rfl⟩
    | [], h => simp [rowB] at h
    | [a], h => simp [rowB] at h
    | [a, b], h => simp [rowB] at h
    | a :: b :: c :: d :: l, h => simp [rowB] at h; omega
  | _ => simp [rowB] at h
theorem rowB_five {x : D} (h : rowB x 5 5 = true) : ∃ a b c d e, x = .tup [a, b, c, d, e] := by
  cases x with
  | tup ds =>
    match ds, h with
    | [a, b, c, d, e], _ => exact ⟨a, b, c, d, e, rfl⟩
    | [], h => simp [rowB] at h
    | [a], h => simp [rowB] at h
    | [a, b], h => simp [rowB] at h
    | [a, b, c], h => simp [rowB] at h
    | [a, b, c, d], h => simp [rowB] at h
    | a :: b :: c :: d :: e :: f :: l, h => simp [rowB] at h; omega
  | _ => simp [rowB] at h
theorem s_istri {n : Nat} (h : 3 ≤ n) {x : D} (hp : PlN 1 w x) (least : Int) : fnS P L n 42 [x, .int least] w = .ok (.bl (triB least x), w) := by
  obtain ⟨m, rfl⟩ : ∃ m, n = m + 1 := ⟨n - 1, by omega⟩
  refine fn_G (F := f42) rfl rfl ?_ rfl
  by_cases hr : rowB x 3 3 = true
  · obtain ⟨a, b, c, rfl⟩ := rowB_three hr
    obtain ⟨_, hq⟩ := hp.2 _ rfl
    have pa : Pl w a := hq a (by simp)
    have pb : Pl w b := hq b (by simp)
    have pc : Pl w c := hq c (by simp)
    refine or_ret (q := false) (p := (!true || (!(inR a least 3) || false))) (TG.or (TG.nt (TG.val (EG.call (EsG.cons (EG.var rfl) fun _ _ => EsG.cons EG.cst fun _ _ => EsG.one EG.cst) fun w' g => by rw [← hr]; exact s_isrow (by omega) (g.pl hp.pl) 3 3))) fun _ w' g => TG.or (TG.nt (TG.val (EG.call (EsG.cons (EG.idx (EG.var rfl) (fun _ _ => EG.cst) fun _ _ => rfl) fun _ _ => EsG.cons (EG.var rfl) fun _ _ => EsG.one (EG.of rfl)) fun w'' g' => s_within (by omega) ((g.trans g').pl pa) least 3))) fun _ _ _ => TG.or0) ?_ ?_
    · intro h
      have : inR a least 3 = false := by simpa using h
      simp [triB, this]
    · intro h w' g
      have : inR a least 3 = true := by simpa using h
      have e : triB least (.tup [a, b, c]) = (inR b (-3) 3 && inR c (-20) 20) := by simp [triB, this]
      rw [e]
      exact SG.ret (EG.and2 (EG.call (EsG.cons (EG.idx (EG.var rfl) (fun _ _ => EG.cst) fun _ _ => rfl) fun _ _ => EsG.cons (EG.of rfl) fun _ _ => EsG.one (EG.of rfl)) fun w'' g' => s_within (by omega) ((g.trans g').pl pb) (-3) 3) fun _ w'' g' => EG.and1 (EG.call (EsG.cons (EG.idx (EG.var rfl) (fun _ _ => EG.cst) fun _ _ => rfl) fun _ _ => EsG.cons (EG.of rfl) fun _ _ => EsG.one (EG.of rfl)) fun w3 g3 => s_within (by omega) (((g.trans g').trans g3).pl pc) (-20) 20))
  · have hr' : rowB x 3 3 = false := by simpa using hr
    refine or_ret (p := (!false || false)) (q := false) (TG.or (TG.nt (p := false) (TG.val (EG.call (EsG.cons (EG.var rfl) fun _ _ => EsG.cons EG.cst fun _ _ => EsG.one EG.cst) fun w' g => by rw [← hr']; exact s_isrow (by omega) (g.pl hp.pl) 3 3))) fun h => by cases h) ?_ (fun h => by cases h)
    intro _
    unfold triB
    split
    · exact absurd rfl hr
    · rfl
def trisB (least : Int) : D → Bool
  | .tup ds => decide (ds.length ≤ 6) && ds.all (triB least)
  | _ => false
theorem s_aretris {n : Nat} (h : 4 ≤ n) {x : D} (hp : PlN 2 w x) (least : Int) : fnS P L n 37 [x, .int least] w = .ok (.bl (trisB least x), w) := by
  obtain ⟨m, rfl⟩ : ∃ m, n = m + 1 := ⟨n - 1, by omega⟩
  refine fn_G (F := f37) rfl rfl (SG.ret ?_) rfl
  have e : trisB least x = (rowB x 0 6 && trisB least x) := by
    cases x with
    | tup ds =>
      simp [trisB, rowB]
      intro h _
      omega
    | _ => rfl
  rw [e]
  refine EG.and2 (EG.call (EsG.cons (EG.var rfl) fun _ _ => EsG.cons EG.cst fun _ _ => EsG.one (EG.of rfl)) fun w' g => s_isrow (by omega) (g.pl hp.pl) 0 6) fun hr w' g => EG.and1 ?_
  cases x with
  | tup ds =>
    obtain ⟨hl, hq⟩ := hp.2 ds rfl
    have hq' : ∀ d ∈ ds, PlN 1 w d := hq
    have e2 : trisB least (.tup ds) = ds.all (triB least) := by
      have : ds.length ≤ 6 := by simp [rowB] at hr; omega
      simp [trisB, this]
    rw [e2]
    exact EG.all (EG.var rfl) (by unfold QQ.line; omega) fun d hd w'' g' => EG.call (EsG.cons (EG.var rfl) fun _ _ => EsG.one (EG.var rfl)) fun w3 g3 => s_istri (by omega) (((hq' d hd).same (w' := ⟨w.cs, w.cs.length⟩) rfl).gr ((g.trans g').trans g3)) least
  | _ => simp [rowB] at hr
def rzB (x : D) : Bool := ratB x && !isZ x
def dtB : D → Bool
  | .tup [p, a, b, t, u] => dblB p && !isE p && (rzB a && rzB b) && (trisB 0 t && trisB (-3) u)
  | _ => false
theorem ev_slc13 {C : QQ.Ctx} {ρ : QQ.Env} {p a b t u : D} (h : ρ[0]? = some (some (.tup [p, a, b, t, u]))) : EG C ρ (.slc3 (.var 0) (.cst (.int 1)) (.cst (.int 3))) w (.tup [a, b]) := by
  refine ⟨w, ?_, .refl _⟩
  simp [evE, h, bind_ok, slSem, cutA, HT.sIx, ofO]
theorem s_isdt {n : Nat} (h : 5 ≤ n) {x : D} (hp : PlN 4 w x) : fnS P L n 31 [x] w = .ok (.bl (dtB x), w) := by
  obtain ⟨m, rfl⟩ : ∃ m, n = m + 1 := ⟨n - 1, by omega⟩
  refine fn_G (F := f31) rfl rfl ?_ rfl
  by_cases hr : rowB x 5 5 = true
  · obtain ⟨p, a, b, t, u, rfl⟩ := rowB_five hr
    obtain ⟨_, hq⟩ := hp.2 _ rfl
    have pp : PlN 3 w p := hq p (by simp)
    have pa : PlN 3 w a := hq a (by simp)
    have pb : PlN 3 w b := hq b (by simp)
    have pt : PlN 3 w t := hq t (by simp)
    have pu : PlN 3 w u := hq u (by simp)
    have down : ∀ {k : Nat} {y : D} {w : W}, PlN (k + 1) w y → PlN k w y := by
      intro k
      induction k with
      | zero => exact fun h => h.1
      | succ k ih => exact fun h => ⟨h.1, fun ds e => ⟨(h.2 ds e).1, fun d hd => ih ((h.2 ds e).2 d hd)⟩⟩
    refine or_ret (q := false) (p := (!true || (!(dblB p) || (isE p || false)))) (TG.or (TG.nt (TG.val (EG.call (EsG.cons (EG.var rfl) fun _ _ => EsG.cons EG.cst fun _ _ => EsG.one EG.cst) fun w' g => by rw [← hr]; exact s_isrow (by omega) (g.pl hp.pl) 5 5))) fun _ w' g => TG.or (TG.nt (TG.val (EG.call (EsG.one (EG.idx (EG.var rfl) (fun _ _ => EG.cst) fun _ _ => rfl)) fun w'' g' => s_isdbl (by omega) ((pp.same (w' := ⟨w.cs, w.cs.length⟩) rfl).gr (g.trans g'))))) fun hd w'' g' => TG.or (TG.val (EG.cmp (x := p) (y := .tup []) (EG.idx (EG.var rfl) (fun _ _ => EG.cst) fun _ _ => rfl) (fun w' _ => EG.of rfl) fun w' _ => ?_)) fun _ _ _ => TG.or0) ?_ ?_
    · have hd' : dblB p = true := by simpa using hd
      obtain ⟨q, rfl, _⟩ := dblB_of hd'
      by_cases he : isE (bpol q) = true
      · rw [he, (isE_iff _).mp he]
        exact eq_T (x := .tup []) (n := 1) rfl (by decide) w'
      · have he' : isE (bpol q) = false := by simpa using he
        rw [he']
        exact eq_F (tree_bpol q) (m := 1) rfl (by decide) (by decide) (fun e => he ((isE_iff _).mpr e)) w'
    · intro h
      simp at h
      simp only [dtB]
      rcases h with h | h
      · rw [h]; rfl
      · rw [h]; simp
    · intro h w1 g1
      simp at h
      have e0 : dtB (.tup [p, a, b, t, u]) = ((rzB a && rzB b) && (trisB 0 t && trisB (-3) u)) := by
        simp [dtB, h]
      rw [e0]
      refine SG.ifr (p := !([a, b].all rzB)) (TG.nt (TG.val (EG.all (f := rzB) (ev_slc13 rfl) (by unfold QQ.line; simp) ?_))) ?_ ?_
      · intro d hd w' g
        have pd' : PlN 3 w d := by
          rcases List.mem_cons.mp hd with rfl | hd
          · exact pa
          · rw [List.mem_singleton.mp hd]; exact pb
        refine EG.and2 (EG.call (EsG.one (EG.var rfl)) fun w'' g' => s_isratio (by omega) (((down (down pd')).same (w' := ⟨w.cs, w.cs.length⟩) rfl).gr ((g1.trans g).trans g'))) fun hr w'' g' => EG.and1 (EG.cmp (x := d) (y := .tup [.int 0, .int 1]) (EG.var rfl) (fun w' _ => EG.of rfl) fun w' _ => ?_)
        obtain ⟨r, rfl, _⟩ := ratB_of hr
        show (eqSem (pr r) (.tup [.int 0, .int 1]) w').map (!·) = some (!isZ (pr r))
        by_cases h : isZ (pr r) = true
        · rw [h, (isZ_iff _).mp h, eq_T (n := 1) rfl (by decide)]
          rfl
        · have h' : isZ (pr r) = false := by simpa using h
          rw [h', eq_F (n := 1) (m := 1) rfl rfl (by decide) (by decide) (fun e => h ((isZ_iff _).mpr e))]
          rfl
      · intro hF w' g
        have : (rzB a && rzB b) = false := by
          cases h1 : rzB a <;> cases h2 : rzB b <;> simp [h1, h2] at hF ⊢
        rw [this]
        exact EG.cst
      · intro hT w' g
        have : (rzB a && rzB b) = true := by
          cases h1 : rzB a <;> cases h2 : rzB b <;> simp [h1, h2] at hT ⊢
        rw [this, Bool.true_and]
        exact SG.ret (EG.and2 (EG.call (EsG.cons (EG.idx (EG.var rfl) (fun _ _ => EG.cst) fun _ _ => rfl) fun _ _ => EsG.one EG.cst) fun w'' g' => s_aretris (by omega) (((down pt).same (w' := ⟨w.cs, w.cs.length⟩) rfl).gr ((g1.trans g).trans g')) 0) fun _ w'' g' => EG.and1 (EG.call (EsG.cons (EG.idx (EG.var rfl) (fun _ _ => EG.cst) fun _ _ => rfl) fun _ _ => EsG.one (EG.of rfl)) fun w3 g3 => s_aretris (by omega) (((down pu).same (w' := ⟨w.cs, w.cs.length⟩) rfl).gr (((g1.trans g).trans g').trans g3)) (-3)))
  · have hr' : rowB x 5 5 = false := by simpa using hr
    refine or_ret (p := (!false || false)) (q := false) (TG.or (TG.nt (p := false) (TG.val (EG.call (EsG.cons (EG.var rfl) fun _ _ => EsG.cons EG.cst fun _ _ => EsG.one EG.cst) fun w' g => by rw [← hr']; exact s_isrow (by omega) (g.pl hp.pl) 5 5))) fun h => by cases h) ?_ (fun h => by cases h)
    intro _
    unfold dtB
    split
    · exact absurd rfl hr
    · rfl
end LW

set_option Elab.async false
set_option linter.all false
set_option maxRecDepth 100000
set_option maxHeartbeats 1000000
namespace LW
open QQ PySem
variable {L : Nat} {w : W}
theorem s_needdt {n : Nat} (h : 6 ≤ n) {x : D} (hp : PlN 4 w x) : fnS P L n 18 [x] w = if dtB x = true then .ok (.non, w) else .ex 0 .non [] w := by
  obtain ⟨m, rfl⟩ : ∃ m, n = m + 1 := ⟨n - 1, by omega⟩
  have := fn_need (w := w) (L := L) (k := m) (F := f18) (vs := [x]) (f := 18) (q := !dtB x) rfl rfl rfl (TG.nt (TG.val (EG.call (EsG.one (EG.var rfl)) fun w' g => s_isdt (by omega) ((hp.same (w' := ⟨w.cs, w.cs.length⟩) rfl).gr g))))
  rw [this]
  cases dtB x <;> rfl
theorem flat_tv (t : Tm) (n k : Int) : flat (tv t n k) = true := by
  unfold tv
  split
  · rfl
  · split <;> rfl
theorem PlN_tree {x : D} : ∀ (n : Nat) {m : Nat}, tree m x = true → (∀ ds, x = .tup ds → True) → (n = 0 → True) → Pl w x := by
  intro n m h _ _
  cases x with
  | int i => exact .inr ⟨_, rfl⟩
  | tup ds => exact .inr ⟨_, rfl⟩
  | non => exact .inl rfl
  | _ => cases m <;> simp [tree] at h
theorem tree_Pl {x : D} {m : Nat} (h : tree m x = true) : Pl w x := PlN_tree 0 h (fun _ _ => trivial) fun _ => trivial
theorem PlN_pr (r : Q) (n : Nat) : PlN n w (pr r) := by
  cases n with
  | zero => exact .inr ⟨_, rfl⟩
  | succ n =>
    refine ⟨.inr ⟨_, rfl⟩, fun ds e => ?_⟩
    injection e with e
    subst e
    refine ⟨by simp, fun d hd => ?_⟩
    rcases List.mem_cons.mp hd with rfl | hd
    · cases n with
      | zero => exact .inr ⟨_, rfl⟩
      | succ n => exact ⟨.inr ⟨_, rfl⟩, fun ds e => by cases e⟩
    · rw [List.mem_singleton.mp hd]
      cases n with
      | zero => exact .inr ⟨_, rfl⟩
      | succ n => exact ⟨.inr ⟨_, rfl⟩, fun ds e => by cases e⟩
theorem PlN_int (i : Int) (n : Nat) : PlN n w (.int i) := by
  cases n with
  | zero => exact .inr ⟨_, rfl⟩
  | succ n => exact ⟨.inr ⟨_, rfl⟩, fun ds e => by cases e⟩
theorem PlN_non (n : Nat) : PlN n w .non := by
  cases n with
  | zero => exact .inl rfl
  | succ n => exact ⟨.inl rfl, fun ds e => by cases e⟩
theorem PlN_bl (b : Bool) (n : Nat) : PlN n w (.bl b) := by
  cases n with
  | zero => exact .inr ⟨_, rfl⟩
  | succ n => exact ⟨.inr ⟨_, rfl⟩, fun ds e => by cases e⟩
theorem PlN_tup {ds : List D} (n : Nat) (hl : ds.length ≤ 1000) (h : ∀ d ∈ ds, PlN n w d) : PlN (n + 1) w (.tup ds) :=
  ⟨.inr ⟨_, rfl⟩, fun ds' e => by injection e with e; subst e; exact ⟨hl, h⟩⟩
theorem PlN_tup' {ds : List D} {n : Nat} (hl : ds.length ≤ 1000) (h : ∀ m d, d ∈ ds → PlN m w d) : PlN n w (.tup ds) := by
  cases n with
  | zero => exact .inr ⟨_, rfl⟩
  | succ n => exact PlN_tup n hl fun d hd => h n d hd
theorem PlN_ref {j : Nat} {ds : List D} (h : w.lst j = some ds) (n : Nat) : PlN n w (.ref j) := by
  have : Pl w (.ref j) := by
    refine .inr ⟨.list, ?_⟩
    unfold W.lst at h
    split at h
    · next e => simp [tyOf, e]
    · cases h
  cases n with
  | zero => exact this
  | succ n => exact ⟨this, fun ds e => by cases e⟩
theorem PlN_tri (t : Tri) (n : Nat) : PlN n w (tri t) := PlN_tup' (by simp) fun m d hd => by
  simp at hd
  rcases hd with rfl | rfl | rfl <;> exact PlN_int _ _
theorem PlN_pol {q : List Q} (h : q.length ≤ 1000) (n : Nat) : PlN n w (pol q) := PlN_tup' (by simpa using h) fun m d hd => by
  obtain ⟨r, _, rfl⟩ := List.mem_map.mp hd
  exact PlN_pr r m
theorem PlN_bpol {p : List (List Q)} (h : p.length ≤ 1000 ∧ ∀ q ∈ p, q.length ≤ 1000) (n : Nat) : PlN n w (bpol p) := PlN_tup' (by simpa using h.1) fun m d hd => by
  obtain ⟨r, hr, rfl⟩ := List.mem_map.mp hd
  exact PlN_pol (h.2 r hr) m
theorem PlN_tms {l : List Tri} (h : l.length ≤ 1000) (n : Nat) : PlN n w (tms l) := PlN_tup' (by simpa using h) fun m d hd => by
  obtain ⟨r, _, rfl⟩ := List.mem_map.mp hd
  exact PlN_tri r m
theorem TmOk.lens {t : Tm} (h : TmOk t) : t.p.length ≤ 1000 ∧ ∀ q ∈ t.p, q.length ≤ 1000 := ⟨by have := h.p.1; omega, fun q hq => by have := (h.p.2 q hq).1; omega⟩
theorem PlN_dtm {t : Tm} (h : TmOk t) (n : Nat) : PlN n w (dtm t) := PlN_tup' (by simp) fun m d hd => by
  simp at hd
  rcases hd with rfl | rfl | rfl | rfl | rfl
  · exact PlN_bpol h.lens m
  · exact PlN_pr _ m
  · exact PlN_pr _ m
  · exact PlN_tms (by have := h.up.1; omega) m
  · exact PlN_tms (by have := h.dn.1; omega) m
theorem rzB_pr {r : Q} (h : QOk r) (h0 : r.1 ≠ 0) : rzB (pr r) = true := by
  unfold rzB
  rw [(ratB_pr r).mpr h]
  have : ¬ isZ (pr r) = true := fun z => by
    have := pr_inj (show pr r = pr (0, 1) from (isZ_iff _).mp z)
    rw [this] at h0
    exact h0 rfl
  simpa using this
theorem triB_tri {t : Tri} {least : Int} (h0 : least ≤ t.1 ∧ t.1 ≤ 3) (h1 : -3 ≤ t.2.1 ∧ t.2.1 ≤ 3) (h2 : -20 ≤ t.2.2 ∧ t.2.2 ≤ 20) : triB least (tri t) = true := by
  simp [triB, tri, inR, h0, h1, h2]
theorem trisB_tms {l : List Tri} {least : Int} (hl : l.length ≤ 6) (h : ∀ t ∈ l, triB least (tri t) = true) : trisB least (tms l) = true := by
  simp only [trisB, tms, List.length_map, decide_eq_true hl, Bool.true_and, List.all_map, List.all_eq_true]
  exact h
theorem isE_bpol {p : List (List Q)} (h : p ≠ []) : isE (bpol p) = false := by
  cases p with
  | nil => exact absurd rfl h
  | cons a l => rfl
theorem dtB_dtm {t : Tm} (h : TmOk t) : dtB (dtm t) = true := by
  have h1 := dblB_bpol h.pc.2
  have h2 := isE_bpol h.pc.1
  have h3 := rzB_pr h.x.2.2 h.x.2.1
  have h4 := rzB_pr h.y.2.2 h.y.2.1
  have h5 : trisB 0 (tms t.up) = true := trisB_tms (by have := h.up.1; omega) fun c hc => by
    obtain ⟨a1, a2, a3⟩ := h.up.2 c hc
    have := h.u0 c hc
    exact triB_tri (by omega) (by omega) (by omega)
  have h6 : trisB (-3) (tms t.dn) = true := trisB_tms (by have := h.dn.1; omega) fun c hc => by
    obtain ⟨a1, a2, a3⟩ := h.dn.2 c hc
    exact triB_tri (by omega) (by omega) (by omega)
  simp [dtB, dtm, h1, h2, h3, h4, h5, h6]
end LW

set_option Elab.async false
set_option linter.all false
set_option maxRecDepth 100000
set_option maxHeartbeats 1000000
namespace LW
open QQ PySem
variable {L : Nat} {w : W}
/-! the well -/
structure WlP (j : Nat) (w : W) (a : Nat) (ns : List Int) (u v : Int) : Prop where
  at_ : w.cs[j]? = some (.lst [.ref a, .int u, .int v])
  it : w.cs[a]? = some (.lst (ns.map .int))
  ne : a ≠ j
def Wl (j : Nat) (w : W) : Prop := ∃ a ns u v, WlP j w a ns u v
/-- all but j is kept -/
def Kp (j : Nat) (w w' : W) : Prop := ∀ i c, i ≠ j → w.cs[i]? = some c → w'.cs[i]? = some c
theorem Kp.refl (j : Nat) (w : W) : Kp j w w := fun _ _ _ h => h
theorem Kp.trans {j : Nat} {a b c : W} (h : Kp j a b) (k : Kp j b c) : Kp j a c := fun i x hi hx => k i x hi (h i x hi hx)
theorem _root_.QQ.Gr.kp {j : Nat} {w w' : W} (g : Gr w w') : Kp j w w' := fun i c _ h => g.at h
theorem Kp.lst {j i : Nat} {w w' : W} (h : Kp j w w') (hi : i ≠ j) {ds : List D} (k : w.lst i = some ds) : w'.lst i = some ds := by
  unfold W.lst at k ⊢
  split at k
  · next e => rw [h i _ hi e]; exact k
  · cases k
theorem WlP.lt {j : Nat} {w : W} {a : Nat} {ns : List Int} {u v : Int} (h : WlP j w a ns u v) : j < w.cs.length := by
  rcases Nat.lt_or_ge j w.cs.length with h' | h'
  · exact h'
  · have := h.at_
    rw [List.getElem?_eq_none h'] at this
    cases this
theorem WlP.gr {j : Nat} {w w' : W} {a : Nat} {ns : List Int} {u v : Int} (h : WlP j w a ns u v) (g : Gr w w') : WlP j w' a ns u v := ⟨g.at h.at_, g.at h.it, h.ne⟩
theorem Wl.gr {j : Nat} {w w' : W} (h : Wl j w) (g : Gr w w') : Wl j w' := by
  obtain ⟨a, ns, u, v, h⟩ := h
  exact ⟨a, ns, u, v, h.gr g⟩
theorem WlP.same {j : Nat} {w w' : W} {a : Nat} {ns : List Int} {u v : Int} (h : WlP j w a ns u v) (e : w.cs = w'.cs) : WlP j w' a ns u v := ⟨e ▸ h.at_, e ▸ h.it, h.ne⟩
theorem Wl.same {j : Nat} {w w' : W} (h : Wl j w) (e : w.cs = w'.cs) : Wl j w' := by
  obtain ⟨a, ns, u, v, h⟩ := h
  exact ⟨a, ns, u, v, h.same e⟩
theorem Kp.same {j : Nat} {w w1 w2 : W} (h : Kp j w w1) (e : w1.cs = w2.cs) : Kp j w w2 := fun i c hi hc => e ▸ h i c hi hc
theorem WlP.lst {j : Nat} {w : W} {a : Nat} {ns : List Int} {u v : Int} (h : WlP j w a ns u v) : w.lst j = some [.ref a, .int u, .int v] := by
  unfold W.lst
  rw [h.at_]
theorem WlP.lst2 {j : Nat} {w : W} {a : Nat} {ns : List Int} {u v : Int} (h : WlP j w a ns u v) : w.lst a = some (ns.map .int) := by
  unfold W.lst
  rw [h.it]
theorem WlP.ix {j : Nat} {w : W} {a : Nat} {ns : List Int} {u v : Int} (h : WlP j w a ns u v) : ixSem (.ref j) (.int 0) w = some (.ref a) ∧ ixSem (.ref j) (.int 1) w = some (.int u) ∧ ixSem (.ref j) (.int 2) w = some (.int v) := by
  have e : ∀ k : Int, ixSem (.ref j) (.int k) w = L2.atI [.ref a, .int u, .int v] k := fun k => by
    show (match w.lst j with | some ds => L2.atI ds k | none => none) = _
    rw [h.lst]
  exact ⟨e 0, e 1, e 2⟩
theorem kp_put {j : Nat} {c : Cell} : Kp j w (w.put j c) := fun i x hi hx => by
  show (w.cs.set j c)[i]? = _
  rw [List.getElem?_set_ne (Ne.symm hi)]
  exact hx
theorem WlP.set {j : Nat} {w : W} {a : Nat} {ns : List Int} {u v : Int} (h : WlP j w a ns u v) {a' : Nat} {ns' : List Int} {u' v' : Int} {k : Int} {x : D} {m : Nat} (hk : L2.ixN 3 k = some m) (hx : [D.ref a, .int u, .int v].set m x = [.ref a', .int u', .int v']) (ha : w.cs[a']? = some (.lst (ns'.map .int))) (hn : a' ≠ j) :
    ∃ w', setSem (.ref j) (.int k) x w = some w' ∧ WlP j w' a' ns' u' v' ∧ Kp j w w' ∧ w'.lo ≤ j := by
  refine ⟨w.put j (.lst [.ref a', .int u', .int v']), ?_, ⟨?_, ?_, hn⟩, kp_put, Nat.min_le_right _ _⟩
  · show (match w.lst j with
      | some ds => match L2.ixN ds.length k with
        | some j' => some (w.put j (.lst (ds.set j' x)))
        | none => none
      | none => none) = _
    rw [h.lst]
    show (match L2.ixN 3 k with
        | some j' => some (w.put j (.lst ([D.ref a, .int u, .int v].set j' x)))
        | none => none) = _
    rw [hk]
    show some (w.put j (.lst ([D.ref a, .int u, .int v].set m x))) = _
    rw [hx]
  · show (w.cs.set j _)[j]? = _
    rw [List.getElem?_set_self h.lt]
  · exact kp_put a' _ hn ha
theorem ge_T {i j : Int} (h : j ≤ i) : cpSem .ge (.int i) (.int j) w = some true := congrArg some (decide_eq_true h)
theorem ge_F {i j : Int} (h : ¬ j ≤ i) : cpSem .ge (.int i) (.int j) w = some false := congrArg some (decide_eq_false h)
theorem lt_T {i j : Int} (h : i < j) : cpSem .lt (.int i) (.int j) w = some true := congrArg some (decide_eq_true h)
theorem lt_F {i j : Int} (h : ¬ i < j) : cpSem .lt (.int i) (.int j) w = some false := congrArg some (decide_eq_false h)
theorem ten9 {C : QQ.Ctx} {ρ : QQ.Env} {w : W} : evE C ρ (.bin .pow (.cst (.int 10)) (.cst (.int 9))) w = .ok (.int 1000000000, w) := by
  simp [evE, bind_ok, opSem, opInt, ofO]
theorem ten18 {C : QQ.Ctx} {ρ : QQ.Env} {w : W} : evE C ρ (.bin .pow (.cst (.int 10)) (.cst (.int 18))) w = .ok (.int 1000000000000000000, w) := by
  simp [evE, bind_ok, opSem, opInt, ofO]
def dwA : S := .ifs (.an (.cons (.val (.cmp .lt (.idx (.var 0) (.cst (.int 1))) (.bin .pow (.cst (.int 10)) (.cst (.int 9))))) (.cons (.val (.cmp .ne (.idx (.var 0) (.cst (.int 0))) (.lst (.nil)))) (.nil)))) (.cons (.set 2 (.idx (.idx (.var 0) (.cst (.int 0))) (.cst (.int 0)))) (.cons (.asg (.sub (.var 0) (.cst (.int 0))) (.slc1 (.idx (.var 0) (.cst (.int 0))) (.cst (.int 1)))) (.cons (.set 3 (.bin .add (.bin .mul (.cst (.int 2)) (.blt .abs (.cons (.var 2) .nil))) (.blt .int1 (.cons (.cmp .lt (.var 2) (.cst (.int 0))) .nil)))) (.cons (.ifs (.val (.cmp .ge (.var 3) (.bin .pow (.cst (.int 10)) (.cst (.int 18))))) (.cons (.asg (.sub (.var 0) (.cst (.int 1))) (.var 3)) (.nil)) (.cons (.asg (.sub (.var 0) (.cst (.int 2))) (.bin .mod (.blt .int1 (.cons (.bin .add (.bin .add (.bin .mul (.idx (.var 0) (.cst (.int 2))) (.cst (.int 48271))) (.bin .mul (.var 3) (.cst (.int 69621)))) (.cst (.int 17))) .nil)) (.cst (.int 2147483647)))) (.nil))) (.nil))))) (.nil)
def dwB : Ss := .cons (.ifs (.val (.cmp .ge (.idx (.var 0) (.cst (.int 1))) (.bin .pow (.cst (.int 10)) (.cst (.int 9))))) (.cons (.set 4 (.bin .mod (.blt .int1 (.cons (.idx (.var 0) (.cst (.int 1))) .nil)) (.var 1))) (.cons (.asg (.sub (.var 0) (.cst (.int 1))) (.bin .fdiv (.idx (.var 0) (.cst (.int 1))) (.var 1))) (.cons (.ret (.var 4)) (.nil)))) (.nil)) (.cons (.asg (.sub (.var 0) (.cst (.int 2))) (.bin .mod (.blt .int1 (.cons (.bin .add (.bin .mul (.idx (.var 0) (.cst (.int 2))) (.cst (.int 39373))) (.cst (.int 101))) .nil)) (.cst (.int 2147483647)))) (.cons (.ret (.bin .mod (.blt .int1 (.cons (.bin .fdiv (.idx (.var 0) (.cst (.int 2))) (.cst (.int 89))) .nil)) (.var 1))) (.nil)))
theorem bdraw_eq : f2.body = .cons dwA dwB := rfl
theorem fmod_range {i j : Int} (h : 0 < j) : 0 ≤ i.fmod j ∧ i.fmod j < j := ⟨Int.fmod_nonneg_of_pos _ h, Int.fmod_lt_of_pos _ h⟩
theorem drB {C : QQ.Ctx} {j : Nat} {many : Int} {x y z : Option D} (h : Wl j w) (hm : 0 < many) (hs : many.natAbs < 2 ^ 63) : ∃ d ρ' w', evSs C dwB [some (.ref j), some (.int many), x, y, z] w = .ok (.rt (.int d), ρ', w') ∧ 0 ≤ d ∧ d < many ∧ Wl j w' ∧ Kp j w w' ∧ w'.lo ≤ j := by
  obtain ⟨a, ns, u, v, h⟩ := h
  obtain ⟨i0, i1, i2⟩ := h.ix
  have dv : ∀ i : Int, divOk i many = true := fun i => divOk_of (by omega) (Bd.mono (b := 63) hs (by decide))
  by_cases hu : 1000000000 ≤ u
  · obtain ⟨w', e, h', k, hl⟩ := h.set (k := 1) (x := .int (u.fdiv many)) (a' := a) (ns' := ns) (u' := u.fdiv many) (v' := v) (m := 1) rfl rfl h.it h.ne
    obtain ⟨r1, r2⟩ := fmod_range (i := u) hm
    refine ⟨u.fmod many, _, w', ss_rt ((st_ifT (t_val (ev_cmp (ev_idx (ev_var rfl) ev_cst i1) ten9 (ge_T hu)))).trans ((ss_nx (st_set (ev_bin (ev_blt (es_cons (ev_idx (ev_var rfl) ev_cst i1) es_nil) rfl) (ev_var rfl) (op_mod (by omega))))).trans ((ss_nx (st_asg (ev_bin (ev_idx (ev_var rfl) ev_cst i1) (ev_var rfl) (op_fdiv (dv u))) (tg_sub (ev_var rfl) ev_cst e))).trans (ss_rt (st_ret (ev_var rfl)))))), r1, r2, ⟨a, ns, _, v, h'⟩, k, hl⟩
  · obtain ⟨w', e, h', k, hl⟩ := h.set (k := 2) (x := .int ((v * 39373 + 101).fmod 2147483647)) (a' := a) (ns' := ns) (u' := u) (v' := (v * 39373 + 101).fmod 2147483647) (m := 2) rfl rfl h.it h.ne
    obtain ⟨_, _, i2'⟩ := h'.ix
    obtain ⟨r1, r2⟩ := fmod_range (i := ((v * 39373 + 101).fmod 2147483647).fdiv 89) hm
    have m1 : mulOk v 39373 = true := mulOk_small (by decide)
    have d1 : divOk ((v * 39373 + 101).fmod 2147483647) 89 = true := divOk_of (by decide) (Bd.mono (b := 7) (show (89 : Int).natAbs < 2 ^ 7 by decide) (by decide))
    refine ⟨_, _, w', (ss_nx (st_ifF (t_val (ev_cmp (ev_idx (ev_var rfl) ev_cst i1) ten9 (ge_F hu))))).trans ((ss_nx (st_asg (ev_bin (ev_blt (es_cons (ev_bin (ev_bin (ev_idx (ev_var rfl) ev_cst i2) ev_cst (op_mul m1)) ev_cst op_add) es_nil) rfl) ev_cst (op_mod (by decide))) (tg_sub (ev_var rfl) ev_cst e))).trans (ss_rt (st_ret (ev_bin (ev_blt (es_cons (ev_bin (ev_idx (ev_var rfl) ev_cst i2') ev_cst (op_fdiv d1)) es_nil) rfl) (ev_var rfl) (op_mod (by omega)))))), r1, r2, ⟨a, ns, u, _, h'⟩, k, hl⟩
theorem drA {C : QQ.Ctx} {j : Nat} {many : Int} (h : Wl j w) : ∃ x y w', evS C dwA [some (.ref j), some (.int many), none, none, none] w = .ok (.nx, [some (.ref j), some (.int many), x, y, none], w') ∧ Wl j w' ∧ Kp j w w' := by
  obtain ⟨a, ns, u, v, h⟩ := h
  obtain ⟨i0, i1, i2⟩ := h.ix
  by_cases hu : u < 1000000000
  · have l1 : evE C [some (.ref j), some (.int many), none, none, none] (.lst .nil) w = .ok (.ref w.cs.length, ⟨w.cs ++ [.lst []], w.lo⟩) := rfl
    have g1 : Gr w ⟨w.cs ++ [.lst []], w.lo⟩ := .one _ _
    obtain ⟨b, e1, e2⟩ := eqL_iff (n := 1) (m := 1) (g1.lst h.lst2) (show W.lst ⟨w.cs ++ [.lst []], w.lo⟩ w.cs.length = some [] by simp [W.lst]) ((trees_iff 1 _).mpr fun d hd => by obtain ⟨i, _, rfl⟩ := List.mem_map.mp hd; rfl) rfl (by decide) (by decide)
    have c0 : cpSem .ne (.ref a) (.ref w.cs.length) ⟨w.cs ++ [.lst []], w.lo⟩ = some (!b) := by
      show (eqSem _ _ _).map (!·) = _
      rw [e1]
      rfl
    have t1 : evT C [some (.ref j), some (.int many), none, none, none] (.val (.cmp .ne (.idx (.var 0) (.cst (.int 0))) (.lst (.nil)))) w = .ok (!b, ⟨w.cs ++ [.lst []], w.lo⟩) := t_val (ev_cmp (ev_idx (ev_var rfl) ev_cst i0) l1 c0)
    have t0 : evT C [some (.ref j), some (.int many), none, none, none] (.val (.cmp .lt (.idx (.var 0) (.cst (.int 1))) (.bin .pow (.cst (.int 10)) (.cst (.int 9))))) w = .ok (true, w) := t_val (ev_cmp (ev_idx (ev_var rfl) ev_cst i1) ten9 (lt_T hu))
    cases hb : b with
    | true =>
      rw [hb] at t1
      exact ⟨none, none, _, st_ifF (t_anT t0 (t_anF t1)), ⟨a, ns, u, v, h.gr g1⟩, g1.kp⟩
    | false =>
      rw [hb] at t1
      have hne : ns ≠ [] := fun e => by
        rw [e] at e2
        have := e2.mpr rfl
        rw [hb] at this
        cases this
      obtain ⟨c, cs, rfl⟩ := List.exists_cons_of_ne_nil hne
      generalize hw1 : (⟨w.cs ++ [.lst []], w.lo⟩ : W) = w1 at *
      have h1 := h.gr g1
      obtain ⟨j0, j1, j2⟩ := h1.ix
      have x0 : ixSem (.ref a) (.int 0) w1 = some (.int c) := by
        show (match w1.lst a with | some ds => L2.atI ds 0 | none => none) = _
        rw [h1.lst2]
        show L2.atI _ ((0 : Nat) : Int) = _
        rw [atI_nat]
        rfl
      have s0 : slSem (.ref a) (some 1) none w1 = some (.ref w1.cs.length, ⟨w1.cs ++ [.lst (cs.map .int)], w1.lo⟩) := by
        show (match w1.lst a with | some ds => some (w1.mkl (cutA ds (some 1) none)) | none => none) = _
        rw [h1.lst2]
        show some (w1.mkl (cutA ((c :: cs).map D.int) (some 1) none)) = _
        have : cutA ((c :: cs).map D.int) (some 1) none = cs.map .int := by
          unfold cutA HT.sIx
          simp
          exact List.take_of_length_le (by simp)
        rw [this]
        rfl
      have g2 : Gr w1 ⟨w1.cs ++ [.lst (cs.map .int)], w1.lo⟩ := .one _ _
      obtain ⟨w2, e2', h2, k2, _⟩ := (h1.gr g2).set (k := 0) (x := .ref w1.cs.length) (a' := w1.cs.length) (ns' := cs) (u' := u) (v' := v) (m := 0) rfl rfl (by simp) (by have := h1.lt; omega)
      obtain ⟨q0, q1, q2⟩ := h2.ix
      have m1 : mulOk 2 (if c < 0 then -c else c) = true := by
        have := mulOk_small (i := (if c < 0 then -c else c)) (j := 2) (by decide)
        unfold mulOk at this ⊢
        simpa [Nat.add_comm, Bool.or_comm] using this
      generalize hwt : 2 * (if c < 0 then -c else c) + (if decide (c < 0) = true then 1 else 0) = wt
      have v3 : ∀ ρ0 : QQ.Env, ρ0[2]? = some (some (.int c)) → evE C ρ0 (.bin .add (.bin .mul (.cst (.int 2)) (.blt .abs (.cons (.var 2) .nil))) (.blt .int1 (.cons (.cmp .lt (.var 2) (.cst (.int 0))) .nil))) w2 = .ok (.int wt, w2) := fun ρ0 hr => by
        rw [← hwt]
        exact ev_bin (ev_bin ev_cst (ev_blt (es_cons (ev_var hr) es_nil) rfl) (op_mul m1)) (ev_blt (es_cons (ev_cmp (ev_var hr) ev_cst rfl) es_nil) rfl) op_add
      have tt := st_ifT (C := C) (ρ := [some (.ref j), some (.int many), none, none, none]) (t := .an (.cons (.val (.cmp .lt (.idx (.var 0) (.cst (.int 1))) (.bin .pow (.cst (.int 10)) (.cst (.int 9))))) (.cons (.val (.cmp .ne (.idx (.var 0) (.cst (.int 0))) (.lst (.nil)))) (.nil)))) (b := .nil) (a := (.cons (.set 2 (.idx (.idx (.var 0) (.cst (.int 0))) (.cst (.int 0)))) (.cons (.asg (.sub (.var 0) (.cst (.int 0))) (.slc1 (.idx (.var 0) (.cst (.int 0))) (.cst (.int 1)))) (.cons (.set 3 (.bin .add (.bin .mul (.cst (.int 2)) (.blt .abs (.cons (.var 2) .nil))) (.blt .int1 (.cons (.cmp .lt (.var 2) (.cst (.int 0))) .nil)))) (.cons (.ifs (.val (.cmp .ge (.var 3) (.bin .pow (.cst (.int 10)) (.cst (.int 18))))) (.cons (.asg (.sub (.var 0) (.cst (.int 1))) (.var 3)) (.nil)) (.cons (.asg (.sub (.var 0) (.cst (.int 2))) (.bin .mod (.blt .int1 (.cons (.bin .add (.bin .add (.bin .mul (.idx (.var 0) (.cst (.int 2))) (.cst (.int 48271))) (.bin .mul (.var 3) (.cst (.int 69621)))) (.cst (.int 17))) .nil)) (.cst (.int 2147483647)))) (.nil))) (.nil)))))) (t_anT t0 (t_anT t1 t_an0))
      by_cases hw : 1000000000000000000 ≤ wt
      · obtain ⟨w3, e3, h3, k3, _⟩ := h2.set (k := 1) (x := .int wt) (a' := w1.cs.length) (ns' := cs) (u' := wt) (v' := v) (m := 1) rfl rfl h2.it h2.ne
        refine ⟨some (.int c), some (.int wt), w3, tt.trans ((ss_nx (st_set (ev_idx (ev_idx (ev_var rfl) ev_cst j0) ev_cst x0))).trans ((ss_nx (st_asg (ev_slc1 (ev_idx (ev_var rfl) ev_cst j0) ev_cst s0) (tg_sub (ev_var rfl) ev_cst e2'))).trans ((ss_nx (st_set (v3 _ rfl))).trans ((ss_nx ((st_ifT (t_val (ev_cmp (ev_var rfl) ten18 (ge_T hw)))).trans ((ss_nx (st_asg (ev_var rfl) (tg_sub (ev_var rfl) ev_cst e3))).trans rfl))).trans rfl)))), ⟨_, _, _, _, h3⟩, ((g1.kp.trans g2.kp).trans k2).trans k3⟩
      · obtain ⟨w3, e3, h3, k3, _⟩ := h2.set (k := 2) (x := .int ((v * 48271 + wt * 69621 + 17).fmod 2147483647)) (a' := w1.cs.length) (ns' := cs) (u' := u) (v' := (v * 48271 + wt * 69621 + 17).fmod 2147483647) (m := 2) rfl rfl h2.it h2.ne
        refine ⟨some (.int c), some (.int wt), w3, tt.trans ((ss_nx (st_set (ev_idx (ev_idx (ev_var rfl) ev_cst j0) ev_cst x0))).trans ((ss_nx (st_asg (ev_slc1 (ev_idx (ev_var rfl) ev_cst j0) ev_cst s0) (tg_sub (ev_var rfl) ev_cst e2'))).trans ((ss_nx (st_set (v3 _ rfl))).trans ((ss_nx ((st_ifF (t_val (ev_cmp (ev_var rfl) ten18 (ge_F hw)))).trans ((ss_nx (st_asg (ev_bin (ev_blt (es_cons (ev_bin (ev_bin (ev_bin (ev_idx (ev_var rfl) ev_cst q2) ev_cst (op_mul (mulOk_small (by decide)))) (ev_bin (ev_var rfl) ev_cst (op_mul (mulOk_small (by decide)))) op_add) ev_cst op_add) es_nil) rfl) ev_cst (op_mod (by decide))) (tg_sub (ev_var rfl) ev_cst e3))).trans rfl))).trans rfl)))), ⟨_, _, _, _, h3⟩, ((g1.kp.trans g2.kp).trans k2).trans k3⟩
  · have t0 : evT C [some (.ref j), some (.int many), none, none, none] (.val (.cmp .lt (.idx (.var 0) (.cst (.int 1))) (.bin .pow (.cst (.int 10)) (.cst (.int 9))))) w = .ok (false, w) := t_val (ev_cmp (ev_idx (ev_var rfl) ev_cst i1) ten9 (lt_F hu))
    exact ⟨none, none, w, st_ifF (t_anF t0), ⟨a, ns, u, v, h⟩, .refl _ _⟩
theorem cutW_no {w w' : W} {f : Bool} (h : w'.lo < w.cs.length) : (cutW w w' f).cs = w'.cs := by
  unfold cutW
  rw [if_neg (by omega)]
/-- what a draw does -/
structure Dr (j : Nat) (w w' : W) : Prop where
  wl : Wl j w'
  kp : Kp j w w'
  lo : w'.lo ≤ j
theorem Dr.gr {j : Nat} {w w1 w2 : W} (h : Dr j w w1) (g : Gr w1 w2) : Dr j w w2 := ⟨h.wl.gr g, h.kp.trans g.kp, by obtain ⟨t, rfl⟩ := g; exact h.lo⟩
theorem Dr.trans {j : Nat} {w w1 w2 : W} (h : Dr j w w1) (g : Dr j w1 w2) : Dr j w w2 := ⟨g.wl, h.kp.trans g.kp, g.lo⟩
theorem Gr.dr {j : Nat} {w w1 w2 : W} (g : Gr w w1) (h : Dr j w1 w2) : Dr j w w2 := ⟨h.wl, (QQ.Gr.kp g).trans h.kp, h.lo⟩
theorem Wl.lt {j : Nat} {w : W} (h : Wl j w) : j < w.cs.length := by obtain ⟨a, ns, u, v, h⟩ := h; exact h.lt
theorem Dr.cut {j : Nat} {w w' : W} {f : Bool} (hw : Wl j w) (h : Dr j ⟨w.cs, w.cs.length⟩ w') : Dr j w (cutW w w' f) := by
  have hlt := hw.lt
  have hl := h.lo
  have e : cutW w w' f = ⟨w'.cs, min w.lo w'.lo⟩ := by
    unfold cutW
    rw [if_neg (by omega)]
  rw [e]
  exact ⟨h.wl.same rfl, h.kp, by show min _ _ ≤ j; omega⟩
theorem s_draw {n j : Nat} {many : Int} (hn : 1 ≤ n) (h : Wl j w) (hm : 0 < many) (hs : many.natAbs < 2 ^ 63) : ∃ d w', fnS P L n 2 [.ref j, .int many] w = .ok (.int d, w') ∧ 0 ≤ d ∧ d < many ∧ Dr j w w' := by
  obtain ⟨m, rfl⟩ : ∃ m, n = m + 1 := ⟨n - 1, by omega⟩
  have hlt : j < w.cs.length := by obtain ⟨a, ns, u, v, h⟩ := h; exact h.lt
  obtain ⟨x, y, w1, e1, h1, k1⟩ := drA (C := ⟨P, fnS P L m, L⟩) (many := many) (h.same (w' := ⟨w.cs, w.cs.length⟩) rfl)
  obtain ⟨d, ρ', w2, e2, d0, d1, h2, k2, l2⟩ := drB (C := ⟨P, fnS P L m, L⟩) (x := x) (y := y) (z := none) h1 hm hs
  exact ⟨d, cutW w w2 true, fn_rtw (F := f2) rfl rfl ((ss_nx e1).trans e2), d0, d1, Dr.cut h ⟨h2, k1.trans k2, l2⟩⟩
end LW

set_option Elab.async false
set_option linter.all false
set_option maxRecDepth 100000
set_option maxHeartbeats 1000000
namespace LW
open QQ PySem
variable {L : Nat} {w : W}
/-! what the law draws -/
theorem compL_map {turn : D → W → R (Option D × W)} {f : W → Option (List D)} {ds : List D} {h : D → D} (hf : f w = some ds) (ht : ∀ d ∈ ds, turn d w = .ok (some (h d), w)) : ∀ (m i : Nat) (acc : List D), i ≤ ds.length → ds.length - i < m → acc.length + (ds.length - i) ≤ QQ.line → evCompL turn f m i acc w = .ok (acc ++ (ds.drop i).map h, w)
  | 0, i, acc, _, hm, _ => by omega
  | m + 1, i, acc, hi, hm, hl => by
    show (match f w with
      | none => R.bad
      | some ds => match ds[i]? with
        | none => .ok (acc, w)
        | some d => (turn d w).bind fun r => match r.1 with
          | some x => if acc.length < QQ.line then evCompL turn f m (i + 1) (acc ++ [x]) r.2 else .bad
          | none => evCompL turn f m (i + 1) acc r.2) = _
    rw [hf]
    by_cases hlt : i < ds.length
    · have e : ds[i]? = some ds[i] := by simp [hlt]
      simp only [e, ht ds[i] (List.getElem_mem hlt), bind_ok]
      rw [if_pos (by omega), compL_map hf ht m (i + 1) (acc ++ [h ds[i]]) (by omega) (by omega) (by simp; omega)]
      rw [List.drop_eq_getElem_cons hlt, List.map_cons, List.append_assoc]
      rfl
    · have e : ds[i]? = none := by simp; omega
      have e2 : ds.drop i = [] := List.drop_eq_nil_of_le (by omega)
      simp only [e, e2]
      simp
theorem s_lwell {n : Nat} (h : 1 ≤ n) (hL : 20000 ≤ L) {ns : List Int} (hn : ns.length ≤ 63) : ∃ j w', fnS P L n 1 [.frz (ns.map .int)] w = .ok (.ref j, w') ∧ Wl j w' ∧ w'.lo ≤ w.lo := by
  obtain ⟨m, rfl⟩ : ∃ m, n = m + 1 := ⟨n - 1, by omega⟩
  have e1 : ∀ ρ : QQ.Env, ρ[0]? = some (some (.frz (ns.map .int))) → evE ⟨P, fnS P L m, L⟩ ρ (.slc2 (.var 0) (.cst (.int 63))) ⟨w.cs, w.cs.length⟩ = .ok (.ref w.cs.length, ⟨w.cs ++ [.lst (ns.map .int)], w.cs.length⟩) := fun ρ hr => by
    refine ev_slc2 (ev_var hr) ev_cst ?_
    show some (W.mkl _ (cutA (ns.map D.int) none (some 63))) = _
    have : cutA (ns.map D.int) none (some 63) = ns.map .int := by
      unfold cutA HT.sIx
      simp
      exact List.take_of_length_le (by simp; omega)
    rw [this]
    rfl
  have l1 : W.lst ⟨w.cs ++ [.lst (ns.map .int)], w.cs.length⟩ w.cs.length = some (ns.map .int) := by simp [W.lst]
  have e2 : evE ⟨P, fnS P L m, L⟩ [some (.frz (ns.map .int)), none] (.comp (.blt .int1 (.cons (.var 1) .nil)) (.nm 1) (.seq (.slc2 (.var 0) (.cst (.int 63)))) [1] (.nil)) ⟨w.cs, w.cs.length⟩ = .ok (.ref (w.cs.length + 1), ⟨w.cs ++ [.lst (ns.map .int), .lst (ns.map .int)], w.cs.length⟩) := by
    have i1 := it_seqL (C := ⟨P, fnS P L m, L⟩) (e1 [some (.frz (ns.map .int)), none] rfl) l1
    have q := compL_map (w := ⟨w.cs ++ [.lst (ns.map .int)], w.cs.length⟩) (turn := turnC ⟨P, fnS P L m, L⟩ [some (.frz (ns.map .int)), none] (.blt .int1 (.cons (.var 1) .nil)) (.nm 1) [1]) (f := fun w' => w'.lst w.cs.length) (h := id) l1 (fun d hd => by
      obtain ⟨i, _, rfl⟩ := List.mem_map.mp hd
      exact turn_c (ρ' := [some (.frz (ns.map .int)), some (.int i)]) rfl (ev_blt (es_cons (ev_var rfl) es_nil) rfl)) L 0 [] (by omega) (by simp; omega) (by unfold QQ.line; simp; omega)
    simp only [List.drop_zero, List.map_id, List.nil_append] at q
    show (evIt _ _ _ _).bind _ = _
    rw [i1, bind_ok]
    show (R.calm (evCompL _ _ L 0 [] _)).bind _ = _
    have q' := q
    unfold turnC at q'
    rw [q', calm_ok, bind_ok]
    simp [W.mkl, W.new]
  have b : f1.body = .cons (.ret (.lst (.cons (.comp (.blt .int1 (.cons (.var 1) .nil)) (.nm 1) (.seq (.slc2 (.var 0) (.cst (.int 63)))) [1] (.nil)) (.cons (.cst (.int 0)) (.cons (.cst (.int 40507)) .nil))))) (.nil) := rfl
  have e3 := fn_rtw (P := P) (L := L) (k := m) (w := w) (vs := [.frz (ns.map .int)]) (F := f1) (f := 1) rfl rfl (by rw [b]; exact ss_rt (st_ret (ev_lst (es_cons e2 (es_cons ev_cst (es_cons ev_cst es_nil))) (by unfold QQ.line; simp))))
  refine ⟨_, _, e3, ⟨w.cs.length + 1, ns, 0, 40507, ?_, ?_, by simp⟩, ?_⟩
  · simp [cutW, flat]
  · simp [cutW, flat]
  · simp [cutW, flat]
    omega
/-- cutting the bad end off -/
def ctB (T1 : T) : Ss := .cons (.set 1 (.blt .len (.cons (.var 0) .nil))) (.cons (.for (.nm 2) (.rng1 (.blt .len (.cons (.var 0) .nil))) (.cons (.ifs (.an (.cons (.val (.cmp .gt (.var 1) (.cst (.int 0)))) (.cons T1 (.nil)))) (.cons (.set 1 (.bin .sub (.var 1) (.cst (.int 1)))) (.nil)) (.nil)) (.nil))) (.cons (.ret (.blt .tuple1 (.cons (.slc2 (.var 0) (.var 1)) .nil))) (.nil)))
theorem gt_T {i j : Int} (h : j < i) : cpSem .gt (.int i) (.int j) w = some true := congrArg some (decide_eq_true h)
theorem gt_F {i j : Int} (h : ¬ j < i) : cpSem .gt (.int i) (.int j) w = some false := congrArg some (decide_eq_false h)
theorem ct_like {C : QQ.Ctx} {T1 : T} {i : Nat} {ds : List D} {bad : D → Bool} (hi : w.lst i = some ds) (hl : ds.length ≤ 1000) (ht : ∀ s (h : s < ds.length) (k : Option D), evT C [some (.ref i), some (.int ((s : Int) + 1)), k] T1 w = .ok (bad ds[s], w)) :
    ∃ s ρ' w', s ≤ ds.length ∧ (∀ d, (ds.take s).getLast? = some d → bad d = false) ∧ evSs C (ctB T1) [some (.ref i), none, none] w = .ok (.rt (.tup (ds.take s)), ρ', w') ∧ Gr w w' := by
  have el : ∀ ρ : QQ.Env, ρ[0]? = some (some (.ref i)) → evE C ρ (.blt .len (.cons (.var 0) .nil)) w = .ok (.int ds.length, w) := fun ρ hr => by
    refine ev_blt (es_cons (ev_var hr) es_nil) ?_
    show (match w.lst i with | some ds => some (D.int ds.length, w) | none => none) = _
    rw [hi]
  obtain ⟨ρ1, w1, e1, rfl, k, s, rfl, hs, hb⟩ := for_inv (turn := turnOf C (.nm 2) (.cons (.ifs (.an (.cons (.val (.cmp .gt (.var 1) (.cst (.int 0)))) (.cons T1 (.nil)))) (.cons (.set 1 (.bin .sub (.var 1) (.cst (.int 1)))) (.nil)) (.nil)) (.nil)))
    (fun rest ρ w' => w' = w ∧ ∃ (k : Option D) (s : Nat), ρ = [some (.ref i), some (.int (s : Nat)), k] ∧ s ≤ ds.length ∧ (s ≤ rest.length ∨ ∃ h : s - 1 < ds.length, 0 < s ∧ bad ds[s - 1] = false))
    (fun d rest ρ w' ⟨ew, k, s, eρ, hs, hb⟩ => by
      subst ew eρ
      simp only [List.length_cons] at hb
      by_cases h0 : 0 < s
      · obtain ⟨z, rfl⟩ : ∃ z, s = z + 1 := ⟨s - 1, by omega⟩
        have hz : z < ds.length := by omega
        have t1 := ht z hz (some d)
        have a1 : evT C [some (.ref i), some (.int ((z + 1 : Nat) : Int)), some d] (.val (.cmp .gt (.var 1) (.cst (.int 0)))) w' = .ok (true, w') := t_val (ev_cmp (ev_var rfl) ev_cst (gt_T (by omega)))
        cases hbad : bad ds[z] with
        | true =>
          rw [hbad] at t1
          refine ⟨[some (.ref i), some (.int (z : Nat)), some d], w', ss_nx ((st_ifT (t_anT a1 (t_anT t1 t_an0))).trans ((ss_nx (st_set (ev_bin (x := .int ((z + 1 : Nat) : Int)) (y := .int 1) (z := .int (z : Nat)) (w3 := w') (ev_var rfl) ev_cst ?_))).trans rfl)), rfl, some d, z, rfl, by omega, ?_⟩
          · rw [op_sub]
            congr 3
            omega
          · rcases hb with hb | ⟨_, _, hb⟩
            · exact .inl (by omega)
            · simp only [Nat.add_sub_cancel] at hb
              rw [hbad] at hb
              cases hb
        | false =>
          rw [hbad] at t1
          have q : evS C (.ifs (.an (.cons (.val (.cmp .gt (.var 1) (.cst (.int 0)))) (.cons T1 (.nil)))) (.cons (.set 1 (.bin .sub (.var 1) (.cst (.int 1)))) (.nil)) (.nil)) [some (.ref i), some (.int ((z + 1 : Nat) : Int)), some d] w' = .ok (.nx, [some (.ref i), some (.int ((z + 1 : Nat) : Int)), some d], w') := (st_ifF (t_anT a1 (t_anF t1))).trans rfl
          exact ⟨[some (.ref i), some (.int ((z + 1 : Nat) : Int)), some d], w', (ss_nx q).trans rfl, rfl, some d, z + 1, rfl, hs, .inr ⟨by omega, by omega, by simpa using hbad⟩⟩
      · have : s = 0 := by omega
        subst this
        have a1 : evT C [some (.ref i), some (.int ((0 : Nat) : Int)), some d] (.val (.cmp .gt (.var 1) (.cst (.int 0)))) w' = .ok (false, w') := t_val (ev_cmp (ev_var rfl) ev_cst (gt_F (by omega)))
        have q : evS C (.ifs (.an (.cons (.val (.cmp .gt (.var 1) (.cst (.int 0)))) (.cons T1 (.nil)))) (.cons (.set 1 (.bin .sub (.var 1) (.cst (.int 1)))) (.nil)) (.nil)) [some (.ref i), some (.int ((0 : Nat) : Int)), some d] w' = .ok (.nx, [some (.ref i), some (.int ((0 : Nat) : Int)), some d], w') := (st_ifF (t_anF a1)).trans rfl
        exact ⟨[some (.ref i), some (.int ((0 : Nat) : Int)), some d], w', (ss_nx q).trans rfl, rfl, some d, 0, rfl, by omega, .inl (by omega)⟩)
    (rangeD 0 ds.length) [some (.ref i), some (.int (ds.length : Nat)), none] w ⟨rfl, none, ds.length, rfl, Nat.le_refl _, .inl (by rw [len_rangeD]; omega)⟩
  have r1 : evIt C [some (.ref i), some (.int (ds.length : Nat)), none] (.rng1 (.blt .len (.cons (.var 0) .nil))) w1 = .ok (.fix (rangeD 0 ds.length), w1) := by
    have := it_rng1 (el [some (.ref i), some (.int (ds.length : Nat)), none] rfl) (big_small (by omega) (by omega))
    rw [this, Int.toNat_natCast]
  refine ⟨s, [some (.ref i), some (.int (s : Nat)), k], ⟨w1.cs ++ [.lst (ds.take s)], w1.lo⟩, hs, ?_, ?_, .one _ _⟩
  · intro d hd
    rcases hb with hb | ⟨h1, h2, h3⟩
    · have : s = 0 := by simpa using hb
      subst this
      simp at hd
    · have : (ds.take s).getLast? = some ds[s - 1] := by
        rw [List.getLast?_eq_getElem?]
        have e : (ds.take s).length = s := by simp; omega
        rw [e]
        simp [List.getElem?_take]
        omega
      rw [this] at hd
      cases hd
      exact h3
  · have s1 : slSem (.ref i) none (some (s : Nat)) w1 = some (.ref w1.cs.length, ⟨w1.cs ++ [.lst (ds.take s)], w1.lo⟩) := by
      show (match w1.lst i with | some ds => some (w1.mkl (cutA ds none (some (s : Nat)))) | none => none) = _
      rw [hi]
      have : cutA ds none (some (s : Nat)) = ds.take s := by
        unfold cutA
        rw [HT.sIx_none, HT.sIx_nat, Nat.min_eq_left hs]
        simp
      show some (w1.mkl (cutA ds none (some (s : Nat)))) = _
      rw [this]
      rfl
    have b1 : bltSem .tuple1 [.ref w1.cs.length] ⟨w1.cs ++ [.lst (ds.take s)], w1.lo⟩ = some (.tup (ds.take s), ⟨w1.cs ++ [.lst (ds.take s)], w1.lo⟩) := by
      have l1 : W.lst ⟨w1.cs ++ [.lst (ds.take s)], w1.lo⟩ w1.cs.length = some (ds.take s) := by simp [W.lst]
      show (match W.lst ⟨w1.cs ++ [.lst (ds.take s)], w1.lo⟩ w1.cs.length with | some ds => some (D.tup ds, _) | none => none) = _
      rw [l1]
    exact (ss_nx (st_set (el _ rfl))).trans ((ss_nx (st_for r1 e1)).trans (ss_rt (st_ret (ev_blt (es_cons (ev_slc2 (ev_var rfl) (ev_var rfl) s1) es_nil) b1))))
theorem flats_pr (l : List Q) : flats (l.map pr) = true := by
  induction l with
  | nil => rfl
  | cons a l ih => simp [flats, flat_pr, ih]
theorem flat_pol (l : List Q) : flat (pol l) = true := flats_pr l
theorem flat_bpol (p : List (List Q)) : flat (bpol p) = true := by
  show flats (p.map pol) = true
  induction p with
  | nil => rfl
  | cons a l ih => simp [flats, flat_pol, ih]
theorem s_lcut {n i : Nat} {l : List Q} (h : 1 ≤ n) (hi : w.lst i = some (l.map pr)) (hl : l.length ≤ 1000) : ∃ s, s ≤ l.length ∧ fnS P L n 35 [.ref i] w = .ok (pol (l.take s), w) ∧ ∀ d, (l.take s).getLast? = some d → d.1 ≠ 0 := by
  obtain ⟨m, rfl⟩ : ∃ m, n = m + 1 := ⟨n - 1, by omega⟩
  have hi' : W.lst ⟨w.cs, w.cs.length⟩ i = some (l.map pr) := hi
  obtain ⟨s, ρ', w', hs, hb, e, t, rfl⟩ := ct_like (C := ⟨P, fnS P L m, L⟩) (T1 := .val (.cmp .eq (.idx (.idx (.var 0) (.bin .sub (.var 1) (.cst (.int 1)))) (.cst (.int 0))) (.cst (.int 0)))) (bad := fun d => match d with | .tup (.int x :: _) => x == 0 | _ => false) hi' (by simpa using hl) (fun s h k => by
    simp only [List.length_map] at h
    have e1 : evE ⟨P, fnS P L m, L⟩ [some (.ref i), some (.int ((s : Int) + 1)), k] (.bin .sub (.var 1) (.cst (.int 1))) ⟨w.cs, w.cs.length⟩ = .ok (.int (s : Nat), ⟨w.cs, w.cs.length⟩) := by
      refine ev_bin (ev_var rfl) ev_cst ?_
      rw [op_sub]
      congr 3
      omega
    have e2 : ixSem (.ref i) (.int (s : Nat)) ⟨w.cs, w.cs.length⟩ = some (pr l[s]) := by
      show (match W.lst ⟨w.cs, w.cs.length⟩ i with | some ds => L2.atI ds (s : Int) | none => none) = _
      rw [hi']
      show L2.atI _ _ = _
      rw [atI_nat]
      simp [h]
    simp only [List.getElem_map]
    refine t_val (ev_cmp (x := .int l[s].1) (y := .int 0) (ev_idx (ev_idx (ev_var rfl) e1 e2) ev_cst rfl) ev_cst ?_)
    simp [cpSem, eqSem, toP_int, PyData.eqv, pr])
  simp only [List.length_map, ← List.map_take] at hs hb e
  refine ⟨s, hs, fn_rt (F := f35) rfl rfl e (Nat.le_refl _) (flats_pr _), fun d hd h0 => ?_⟩
  have := hb (pr d) (by rw [List.getLast?_map, hd]; rfl)
  simp [pr, h0] at this
theorem s_lbcut {n i : Nat} {l : List (List Q)} (h : 1 ≤ n) (hi : w.lst i = some (l.map pol)) (hl : l.length ≤ 1000) : ∃ s, s ≤ l.length ∧ fnS P L n 28 [.ref i] w = .ok (bpol (l.take s), w) ∧ ∀ d, (l.take s).getLast? = some d → d ≠ [] := by
  obtain ⟨m, rfl⟩ : ∃ m, n = m + 1 := ⟨n - 1, by omega⟩
  have hi' : W.lst ⟨w.cs, w.cs.length⟩ i = some (l.map pol) := hi
  obtain ⟨s, ρ', w', hs, hb, e, t, rfl⟩ := ct_like (C := ⟨P, fnS P L m, L⟩) (T1 := .val (.cmp .eq (.idx (.var 0) (.bin .sub (.var 1) (.cst (.int 1)))) (.tup (.nil)))) (bad := isE) hi' (by simpa using hl) (fun s h k => by
    simp only [List.length_map] at h
    have e1 : evE ⟨P, fnS P L m, L⟩ [some (.ref i), some (.int ((s : Int) + 1)), k] (.bin .sub (.var 1) (.cst (.int 1))) ⟨w.cs, w.cs.length⟩ = .ok (.int (s : Nat), ⟨w.cs, w.cs.length⟩) := by
      refine ev_bin (ev_var rfl) ev_cst ?_
      rw [op_sub]
      congr 3
      omega
    have e2 : ixSem (.ref i) (.int (s : Nat)) ⟨w.cs, w.cs.length⟩ = some (pol l[s]) := by
      show (match W.lst ⟨w.cs, w.cs.length⟩ i with | some ds => L2.atI ds (s : Int) | none => none) = _
      rw [hi']
      show L2.atI _ _ = _
      rw [atI_nat]
      simp [h]
    simp only [List.getElem_map]
    refine t_val (ev_cmp (x := pol l[s]) (y := .tup []) (ev_idx (ev_var rfl) e1 e2) rfl ?_)
    show eqSem _ _ _ = _
    by_cases he : isE (pol l[s]) = true
    · rw [he, (isE_iff _).mp he]
      exact eq_T (x := .tup []) (n := 1) rfl (by decide) _
    · have he' : isE (pol l[s]) = false := by simpa using he
      rw [he']
      exact eq_F (tree_pol _) (m := 1) rfl (by decide) (by decide) (fun e => he ((isE_iff _).mpr e)) _)
  simp only [List.length_map, ← List.map_take] at hs hb e
  refine ⟨s, hs, fn_rt (F := f28) rfl rfl e (Nat.le_refl _) (flat_bpol _), fun d hd h0 => ?_⟩
  have := hb (pol d) (by rw [List.getLast?_map, hd]; rfl)
  rw [h0] at this
  cases this
end LW

set_option Elab.async false
set_option linter.all false
set_option maxRecDepth 100000
set_option maxHeartbeats 1000000
namespace LW
open QQ PySem
variable {L : Nat} {w : W}
theorem nf_ok {a b : Int} (hb : b ≠ 0) : QOk (nf a b) := by
  obtain ⟨g, hg, e1, e2, hp⟩ := nf_spec (a := a) hb
  have h := nf_id (r := nf a b) (a := a) (b := b) hb rfl
  refine ⟨hp, ?_⟩
  generalize nf a b = r at *
  have hgp := gc_pos (a := r.1) (b := r.2) (by omega)
  have h2 : (nf r.1 r.2).2 = r.2 := by rw [h]
  unfold nf at h2
  rw [if_neg (by omega)] at h2
  simp only at h2
  obtain ⟨_, c, hc⟩ := gc_dvd r.1 r.2
  have e : r.2.fdiv (gc r.1 r.2) = c := by
    have := Int.mul_fdiv_cancel_left (a := gc r.1 r.2) c (by omega)
    rw [← hc] at this
    exact this
  rw [e] at h2
  rw [h2] at hc
  have : (gc r.1 r.2 - 1) * r.2 = 0 := by rw [Int.sub_mul, ← hc]; omega
  rcases Int.mul_eq_zero.mp this with h | h
  · omega
  · omega
theorem s_rdrawn {n j : Nat} {size : Int} (h : 3 ≤ n) (hL : 20000 ≤ L) (hw : Wl j w) (h0 : 0 ≤ size) (h1 : size ≤ 31) : ∃ r w', fnS P L n 36 [.ref j, .int size] w = .ok (pr r, w') ∧ QOk r ∧ PB 6 r ∧ Dr j w w' := by
  obtain ⟨m, rfl⟩ : ∃ m, n = m + 1 := ⟨n - 1, by omega⟩
  obtain ⟨d1, w1, e1, a1, b1, g1⟩ := s_draw (L := L) (n := m) (by omega) (hw.same (w' := ⟨w.cs, w.cs.length⟩) rfl) (many := 2 * size + 1) (by omega) (by omega)
  generalize hw2 : (⟨w1.cs ++ [.lst [.int 1, .int 1, .int 2, .int 5]], w1.lo⟩ : W) = w2
  have g2 : Gr w1 w2 := by rw [← hw2]; exact .one _ _
  obtain ⟨d2, w3, e3, a3, b3, g3⟩ := s_draw (L := L) (n := m) (by omega) (g1.wl.gr g2) (many := 4) (by omega) (by omega)
  have l2 : w2.lst w1.cs.length = some [.int 1, .int 1, .int 2, .int 5] := by rw [← hw2]; simp [W.lst]
  have l3 : w3.lst w1.cs.length = some [.int 1, .int 1, .int 2, .int 5] := g3.kp.lst (by have := g1.wl.lt; omega) l2
  have x3 : ∃ q : Int, 0 < q ∧ q ≤ 5 ∧ ixSem (.ref w1.cs.length) (.int d2) w3 = some (.int q) := by
    have e : ixSem (.ref w1.cs.length) (.int d2) w3 = L2.atI [.int 1, .int 1, .int 2, .int 5] d2 := by
      show (match w3.lst w1.cs.length with | some ds => L2.atI ds d2 | none => none) = _
      rw [l3]
    rw [e]
    have : d2 = 0 ∨ d2 = 1 ∨ d2 = 2 ∨ d2 = 3 := by omega
    rcases this with rfl | rfl | rfl | rfl
    · exact ⟨1, by decide, by decide, rfl⟩
    · exact ⟨1, by decide, by decide, rfl⟩
    · exact ⟨2, by decide, by decide, rfl⟩
    · exact ⟨5, by decide, by decide, rfl⟩
  obtain ⟨q, q0, q5, x3⟩ := x3
  obtain ⟨d4, w4, e4, a4, b4, g4⟩ := s_draw (L := L) (n := m) (by omega) g3.wl (many := q) (by omega) (by omega)
  have c5 : fnS P L m 26 [.int (d1 - size), .int (1 + d4)] w4 = .ok (pr (nf (d1 - size) (1 + d4)), w4) := s_lratio (by omega) hL (by omega) (Bd.mono (b := 3) (by show (1 + d4).natAbs < 2 ^ 3; omega) (by decide))
  have l1 : evE ⟨P, fnS P L m, L⟩ [some (.ref j), some (.int size)] (.lst (.cons (.cst (.int 1)) (.cons (.cst (.int 1)) (.cons (.cst (.int 2)) (.cons (.cst (.int 5)) .nil))))) w1 = .ok (.ref w1.cs.length, w2) := by rw [← hw2]; rfl
  refine ⟨_, _, fn_rtw (F := f36) rfl rfl (ss_rt (st_ret (call_ev (es_cons (ev_bin (call_ev (es_cons (ev_var rfl) (es_cons (ev_bin (ev_bin ev_cst (ev_var rfl) (op_mul (mulOk_small (by omega)))) ev_cst op_add) es_nil)) e1) (ev_var rfl) op_sub) (es_cons (ev_bin ev_cst (call_ev (es_cons (ev_var rfl) (es_cons (ev_idx l1 (call_ev (es_cons (ev_var rfl) (es_cons ev_cst es_nil)) e3) x3) es_nil)) e4) op_add) es_nil)) c5))), nf_ok (by omega), ?_, Dr.cut hw (((g1.gr g2).trans g3).trans g4)⟩
  exact nf_PB (n := 6) (by omega) (by show (d1 - size).natAbs < 2 ^ 6; omega) (by show (1 + d4).natAbs < 2 ^ 6; omega)
/-- a comprehension over range with draws in it -/
theorem ev_cdraw {α : Type} {C : QQ.Ctx} {ρ : QQ.Env} {elt e : E} {i j : Nat} {k : Int} {w w1 : W} {g : α → D} {Q : α → Prop} (he : evE C ρ e w = .ok (.int k, w1)) (hk : 0 ≤ k ∧ k ≤ 1000) (hd : Dr j w w1) (H : ∀ d w', Dr j w w' → ∃ x w'', evE C ((ρ.set i none).set i (some d)) elt w' = .ok (g x, w'') ∧ Q x ∧ Dr j w' w'') :
    ∃ (xs : List α) (w' : W), evE C ρ (.comp elt (.nm i) (.rng1 e) [i] .nil) w = .ok (.ref w'.cs.length, ⟨w'.cs ++ [.lst (xs.map g)], w'.lo⟩) ∧ xs.length = k.toNat ∧ (∀ x ∈ xs, Q x) ∧ Dr j w w' := by
  have r1 := it_rng1 he (big_small (by omega) (by omega))
  obtain ⟨rs, w2, e2, l2, q2, d2⟩ := comp_inv (turn := turnC C ρ elt (.nm i) [i]) (fun w' => Dr j w w') (fun d => ∃ x, d = g x ∧ Q x) (fun d w' dr => by
    obtain ⟨x, w'', e, q, d'⟩ := H d w' dr
    exact ⟨g x, w'', turn_c (w' := w'') rfl e, ⟨x, rfl, q⟩, dr.trans d'⟩) (rangeD 0 k.toNat) [] w1 hd (by simp) (by rw [len_rangeD]; unfold QQ.line; simp; omega)
  have ex : ∀ l : List D, (∀ d ∈ l, ∃ x, d = g x ∧ Q x) → ∃ xs : List α, l = xs.map g ∧ ∀ x ∈ xs, Q x := by
    intro l
    induction l with
    | nil => exact fun _ => ⟨[], rfl, by simp⟩
    | cons d l ih =>
      intro h
      obtain ⟨x, rfl, hx⟩ := h d List.mem_cons_self
      obtain ⟨xs, rfl, hxs⟩ := ih fun d hd => h d (List.mem_cons_of_mem _ hd)
      refine ⟨x :: xs, rfl, fun y hy => ?_⟩
      rcases List.mem_cons.mp hy with rfl | hy
      · exact hx
      · exact hxs y hy
  obtain ⟨xs, rfl, hx⟩ := ex rs q2
  refine ⟨xs, w2, ev_compT r1 e2, ?_, hx, d2⟩
  rw [len_rangeD] at l2
  simpa using l2
theorem take_last_mem {α : Type} {l : List α} {s : Nat} {x : α} (h : x ∈ l.take s) : x ∈ l := List.mem_of_mem_take h
/-- drawn polynomials -/
def PDr (high : Int) (q : List Q) : Prop := (q.length : Int) ≤ high + 1 ∧ POk q ∧ ∀ r ∈ q, PB 6 r
theorem s_drawn {n j : Nat} {high size : Int} (h : 4 ≤ n) (hL : 20000 ≤ L) (hw : Wl j w) (h0 : 0 ≤ size) (h1 : size ≤ 31) (hh : 0 ≤ high) (hh2 : high ≤ 100) : ∃ q w', fnS P L n 29 [.ref j, .int high, .int size] w = .ok (pol q, w') ∧ PDr high q ∧ Dr j w w' := by
  obtain ⟨m, rfl⟩ : ∃ m, n = m + 1 := ⟨n - 1, by omega⟩
  obtain ⟨d1, w1, e1, a1, b1, g1⟩ := s_draw (L := L) (n := m) (by omega) (hw.same (w' := ⟨w.cs, w.cs.length⟩) rfl) (many := high + 2) (by omega) (by omega)
  obtain ⟨xs, w2, e2, l2, q2, g2⟩ := ev_cdraw (C := ⟨P, fnS P L m, L⟩) (ρ := [some (.ref j), some (.int high), some (.int size), none]) (i := 3) (elt := .call 36 (.cons (.var 0) (.cons (.var 2) .nil))) (e := .call 2 (.cons (.var 0) (.cons (.bin .add (.var 1) (.cst (.int 2))) .nil))) (g := pr) (Q := fun r => QOk r ∧ PB 6 r) (call_ev (es_cons (ev_var rfl) (es_cons (ev_bin (ev_var rfl) ev_cst op_add) es_nil)) e1) ⟨a1, by omega⟩ g1 (fun d w' dr => by
    obtain ⟨r, w'', e, qo, pb, dr'⟩ := s_rdrawn (L := L) (n := m) (w := w') (by omega) hL dr.wl h0 h1
    exact ⟨r, w'', call_ev (es_cons (ev_var rfl) (es_cons (ev_var rfl) es_nil)) e, ⟨qo, pb⟩, dr'⟩)
  have l3 : W.lst ⟨w2.cs ++ [.lst (xs.map pr)], w2.lo⟩ w2.cs.length = some (xs.map pr) := by simp [W.lst]
  obtain ⟨s, hs, e3, hl⟩ := s_lcut (L := L) (n := m) (by omega) l3 (by omega)
  refine ⟨_, _, fn_rtw (F := f29) rfl rfl (ss_rt (st_ret (call_ev (es_cons e2 es_nil) e3))), ⟨?_, ⟨fun d hd => (q2 d (List.mem_of_mem_take hd)).1, fun d hd h0 => hl d hd (by rw [h0])⟩, fun d hd => (q2 d (List.mem_of_mem_take hd)).2⟩, Dr.cut hw (g2.gr (.one _ _))⟩
  simp
  omega
theorem s_bdrawn {n j : Nat} {many high size : Int} (h : 5 ≤ n) (hL : 20000 ≤ L) (hw : Wl j w) (h0 : 0 ≤ size) (h1 : size ≤ 31) (hh : 0 ≤ high) (hh2 : high ≤ 100) (hm : 0 ≤ many) (hm2 : many ≤ 100) : ∃ p w', fnS P L n 14 [.ref j, .int many, .int high, .int size] w = .ok (bpol p, w') ∧ (p.length : Int) ≤ many + 1 ∧ BOk p ∧ (∀ q ∈ p, PDr high q) ∧ Dr j w w' := by
  obtain ⟨m, rfl⟩ : ∃ m, n = m + 1 := ⟨n - 1, by omega⟩
  obtain ⟨d1, w1, e1, a1, b1, g1⟩ := s_draw (L := L) (n := m) (by omega) (hw.same (w' := ⟨w.cs, w.cs.length⟩) rfl) (many := many + 2) (by omega) (by omega)
  obtain ⟨xs, w2, e2, l2, q2, g2⟩ := ev_cdraw (C := ⟨P, fnS P L m, L⟩) (ρ := [some (.ref j), some (.int many), some (.int high), some (.int size), none]) (i := 4) (elt := .call 29 (.cons (.var 0) (.cons (.var 2) (.cons (.var 3) .nil)))) (e := .call 2 (.cons (.var 0) (.cons (.bin .add (.var 1) (.cst (.int 2))) .nil))) (g := pol) (Q := PDr high) (call_ev (es_cons (ev_var rfl) (es_cons (ev_bin (ev_var rfl) ev_cst op_add) es_nil)) e1) ⟨a1, by omega⟩ g1 (fun d w' dr => by
    obtain ⟨r, w'', e, q, dr'⟩ := s_drawn (L := L) (n := m) (w := w') (by omega) hL dr.wl h0 h1 hh hh2
    exact ⟨r, w'', call_ev (es_cons (ev_var rfl) (es_cons (ev_var rfl) (es_cons (ev_var rfl) es_nil))) e, q, dr'⟩)
  have l3 : W.lst ⟨w2.cs ++ [.lst (xs.map pol)], w2.lo⟩ w2.cs.length = some (xs.map pol) := by simp [W.lst]
  obtain ⟨s, hs, e3, hl⟩ := s_lbcut (L := L) (n := m) (by omega) l3 (by omega)
  refine ⟨_, _, fn_rtw (F := f14) rfl rfl (ss_rt (st_ret (call_ev (es_cons e2 es_nil) e3))), ?_, ⟨fun d hd => (q2 d (List.mem_of_mem_take hd)).2.1, hl⟩, fun d hd => q2 d (List.mem_of_mem_take hd), Dr.cut hw (g2.gr (.one _ _))⟩
  simp
  omega
end LW

set_option Elab.async false
set_option linter.all false
set_option maxRecDepth 100000
set_option maxHeartbeats 1000000
namespace LW
open QQ PySem
variable {L : Nat} {w : W}
theorem blt_tuple {w1 : W} {ds : List D} {r : Nat} (h : w1.lst r = some ds) : bltSem .tuple1 [.ref r] w1 = some (.tup ds, w1) := by
  show (match w1.lst r with | some ds => some (D.tup ds, w1) | none => none) = _
  rw [h]
theorem new_lst {w1 : W} {ds : List D} : W.lst ⟨w1.cs ++ [.lst ds], w1.lo⟩ w1.cs.length = some ds := by simp [W.lst]
theorem Dr.new {j : Nat} {w w1 : W} {c : Cell} (h : Dr j w w1) : Dr j w ⟨w1.cs ++ [c], w1.lo⟩ := h.gr (.one _ _)
/-- the numbers that the law has for the powers -/
def numQ : List Q := [(1, 1), (2, 1), (-1, 1), (1, 2), (3, 1)]
theorem numQ_ok : ∀ r ∈ numQ, PB 3 r ∧ r.1 ≠ 0 ∧ QOk r := by
  intro r hr
  simp only [numQ, List.mem_cons, List.not_mem_nil, or_false] at hr
  rcases hr with rfl | rfl | rfl | rfl | rfl <;> exact ⟨⟨by unfold Bd; decide, by unfold Bd; decide, by decide⟩, by decide, by decide, by decide⟩
theorem atI_mem {α : Type} {l : List α} {i : Int} (h0 : 0 ≤ i) (h1 : i < l.length) : ∃ x ∈ l, L2.atI l i = some x := by
  obtain ⟨k, rfl⟩ := Int.eq_ofNat_of_zero_le h0
  rw [atI_nat]
  have hk : k < l.length := by omega
  exact ⟨l[k], List.getElem_mem hk, by simp [hk]⟩
theorem ix_ref {w : W} {r : Nat} {ds : List D} {i : Int} (h : w.lst r = some ds) : ixSem (.ref r) (.int i) w = L2.atI ds i := by
  show (match w.lst r with | some ds => L2.atI ds i | none => none) = _
  rw [h]
theorem s_lterm {n j : Nat} (h : 6 ≤ n) (hL : 20000 ≤ L) (hw : Wl j w) : ∃ t w', fnS P L n 5 [.ref j] w = .ok (dtm t, w') ∧ TmOk t ∧ Dr j w w' := by
  obtain ⟨m, rfl⟩ : ∃ m, n = m + 1 := ⟨n - 1, by omega⟩
  have dr : ∀ {many : Int} {w0 : W}, Wl j w0 → 0 < many → many ≤ 1000 → ∃ d w', fnS P L m 2 [.ref j, .int many] w0 = .ok (.int d, w') ∧ 0 ≤ d ∧ d < many ∧ Dr j w0 w' := fun h0 h1 h2 => s_draw (by omega) h0 h1 (by omega)
  have dc : ∀ {ρ : QQ.Env} {many : Int} {d : D} {w0 w' : W}, ρ[0]? = some (some (.ref j)) → fnS P L m 2 [.ref j, .int many] w0 = .ok (d, w') → evE ⟨P, fnS P L m, L⟩ ρ (.call 2 (.cons (.var 0) (.cons (.cst (.int many)) .nil))) w0 = .ok (d, w') := fun hr e => call_ev (es_cons (ev_var hr) (es_cons ev_cst es_nil)) e
  obtain ⟨d1, w1, e1, a1, b1, g1⟩ := dr (hw.same (w' := ⟨w.cs, w.cs.length⟩) rfl) (many := 3) (by decide) (by decide)
  obtain ⟨us, w2, e2, l2, q2, g2⟩ := ev_cdraw (C := ⟨P, fnS P L m, L⟩) (ρ := [some (.ref j), none, none, none, none, none]) (i := 5) (e := .call 2 (.cons (.var 0) (.cons (.cst (.int 3)) .nil))) (elt := .tup (.cons (.call 2 (.cons (.var 0) (.cons (.cst (.int 3)) .nil))) (.cons (.bin .sub (.call 2 (.cons (.var 0) (.cons (.cst (.int 3)) .nil))) (.cst (.int 1))) (.cons (.call 2 (.cons (.var 0) (.cons (.cst (.int 4)) .nil))) .nil)))) (g := tri) (Q := fun c => 0 ≤ c.1 ∧ (-2 ≤ c.1 ∧ c.1 ≤ 2) ∧ (-2 ≤ c.2.1 ∧ c.2.1 ≤ 2) ∧ -3 ≤ c.2.2 ∧ c.2.2 ≤ 3) (dc rfl e1) ⟨a1, by omega⟩ g1 (fun d w' dr' => by
    obtain ⟨x1, v1, f1, p1, o1, h1⟩ := dr dr'.wl (many := 3) (by decide) (by decide)
    obtain ⟨x2, v2, f2, p2, o2, h2⟩ := dr h1.wl (many := 3) (by decide) (by decide)
    obtain ⟨x3, v3, f3, p3, o3, h3⟩ := dr h2.wl (many := 4) (by decide) (by decide)
    exact ⟨(x1, x2 - 1, x3), v3, ev_tup (es_cons (dc rfl f1) (es_cons (ev_bin (dc rfl f2) ev_cst op_sub) (es_cons (dc rfl f3) es_nil))) (by unfold QQ.line; simp), ⟨p1, by omega, by simp only; omega, by simp only; omega⟩, (h1.trans h2).trans h3⟩)
  have g2' := g2.new (c := .lst (us.map tri))
  obtain ⟨d3, w3, e3, a3, b3, g3⟩ := dr g2'.wl (many := 4) (by decide) (by decide)
  obtain ⟨vs, w4, e4, l4, q4, g4⟩ := ev_cdraw (C := ⟨P, fnS P L m, L⟩) (ρ := [some (.ref j), some (tms us), none, none, none, none]) (i := 5) (e := .call 2 (.cons (.var 0) (.cons (.cst (.int 4)) .nil))) (elt := .tup (.cons (.bin .sub (.call 2 (.cons (.var 0) (.cons (.cst (.int 4)) .nil))) (.cst (.int 1))) (.cons (.bin .sub (.call 2 (.cons (.var 0) (.cons (.cst (.int 4)) .nil))) (.cst (.int 2))) (.cons (.bin .sub (.call 2 (.cons (.var 0) (.cons (.cst (.int 5)) .nil))) (.cst (.int 1))) .nil)))) (g := tri) (Q := fun c => (-2 ≤ c.1 ∧ c.1 ≤ 2) ∧ (-2 ≤ c.2.1 ∧ c.2.1 ≤ 2) ∧ -3 ≤ c.2.2 ∧ c.2.2 ≤ 3) (dc rfl e3) ⟨a3, by omega⟩ g3 (fun d w' dr' => by
    obtain ⟨x1, v1, f1, p1, o1, h1⟩ := dr dr'.wl (many := 4) (by decide) (by decide)
    obtain ⟨x2, v2, f2, p2, o2, h2⟩ := dr h1.wl (many := 4) (by decide) (by decide)
    obtain ⟨x3, v3, f3, p3, o3, h3⟩ := dr h2.wl (many := 5) (by decide) (by decide)
    exact ⟨(x1 - 1, x2 - 2, x3 - 1), v3, ev_tup (es_cons (ev_bin (dc rfl f1) ev_cst op_sub) (es_cons (ev_bin (dc rfl f2) ev_cst op_sub) (es_cons (ev_bin (dc rfl f3) ev_cst op_sub) es_nil))) (by unfold QQ.line; simp), ⟨by simp only; omega, by simp only; omega, by simp only; omega⟩, (h1.trans h2).trans h3⟩)
  have g4' := (g2'.trans g4).new (c := .lst (vs.map tri))
  obtain ⟨p, w5, e5, l5, c5, q5, g5⟩ := s_bdrawn (L := L) (n := m) (w := ⟨w4.cs ++ [.lst (vs.map tri)], w4.lo⟩) (by omega) hL g4'.wl (size := 2) (high := 1) (many := 1) (by decide) (by decide) (by decide) (by decide) (by decide) (by decide)
  have g5' := (g4'.trans g5).new (c := .lst (numQ.map pr))
  obtain ⟨d6, w6, e6, a6, b6, g6⟩ := dr g5'.wl (many := 5) (by decide) (by decide)
  obtain ⟨d7, w7, e7, a7, b7, g7⟩ := dr g6.wl (many := 5) (by decide) (by decide)
  have nl5 : W.lst ⟨w5.cs ++ [.lst (numQ.map pr)], w5.lo⟩ w5.cs.length = some (numQ.map pr) := new_lst
  have nne : w5.cs.length ≠ j := by have := g5.wl.lt; omega
  have nl6 := g6.kp.lst nne nl5
  have nl7 := g7.kp.lst nne nl6
  obtain ⟨x, hx, ex⟩ := atI_mem (l := numQ) a6 b6
  obtain ⟨y, hy, ey⟩ := atI_mem (l := numQ) a7 b7
  have atm : ∀ (i : Int) (z : Q), L2.atI numQ i = some z → L2.atI (numQ.map pr) i = some (pr z) := fun i z hz => by
    unfold L2.atI at hz ⊢
    rw [List.length_map]
    cases hq : L2.ixN numQ.length i with
    | none => rw [hq] at hz; cases hz
    | some k =>
      rw [hq] at hz
      show (numQ.map pr)[k]? = _
      rw [List.getElem?_map]
      rw [show numQ[k]? = some z from hz]
      rfl
  have x6 : ixSem (.ref w5.cs.length) (.int d6) w6 = some (pr x) := (ix_ref nl6).trans (atm _ _ ex)
  have x7 : ixSem (.ref w5.cs.length) (.int d7) w7 = some (pr y) := (ix_ref nl7).trans (atm _ _ ey)
  have pif : ∃ p' : List (List Q), (p' = if p = [] then [[(1, 1)]] else p) ∧ ∀ ρ : QQ.Env, ρ[3]? = some (some (bpol p)) → evE ⟨P, fnS P L m, L⟩ ρ (.ifx (.val (.cmp .ne (.var 3) (.tup (.nil)))) (.var 3) (.tup (.cons (.tup (.cons (.tup (.cons (.cst (.int 1)) (.cons (.cst (.int 1)) .nil))) .nil)) .nil))) ⟨w5.cs ++ [.lst (numQ.map pr)], w5.lo⟩ = .ok (bpol p', ⟨w5.cs ++ [.lst (numQ.map pr)], w5.lo⟩) := by
    refine ⟨_, rfl, fun ρ hr => ?_⟩
    by_cases hp : p = []
    · rw [if_pos hp]
      subst hp
      refine ev_ifF (w1 := ⟨w5.cs ++ [.lst (numQ.map pr)], w5.lo⟩) (t_val (ev_cmp (x := bpol []) (y := .tup []) (ev_var hr) rfl (congrArg (Option.map (!·)) (eq_T (x := .tup []) (n := 1) rfl (by decide) ⟨w5.cs ++ [.lst (numQ.map pr)], w5.lo⟩)))) rfl
    · rw [if_neg hp]
      refine ev_ifT (w1 := ⟨w5.cs ++ [.lst (numQ.map pr)], w5.lo⟩) (t_val (ev_cmp (x := bpol p) (y := .tup []) (ev_var hr) rfl ?_)) (ev_var hr)
      show (eqSem _ (.tup []) _).map (!·) = _
      rw [eq_F (tree_bpol p) (m := 1) rfl (by decide) (by decide) (fun e => by
        unfold bpol at e
        simp at e
        exact hp e)]
      rfl
  obtain ⟨p', hp', pif⟩ := pif
  have okp : p'.length ≤ 2 ∧ (∀ q ∈ p', q.length ≤ 2 ∧ ∀ d ∈ q, PB 6 d) ∧ p' ≠ [] ∧ BOk p' := by
    rw [hp']
    by_cases hp : p = []
    · rw [if_pos hp]
      refine ⟨by simp, fun q hq => ?_, by simp, fun q hq => ?_, fun q hq => ?_⟩
      · rw [List.mem_singleton.mp hq]
        exact ⟨by simp, fun d hd => by rw [List.mem_singleton.mp hd]; exact ⟨by unfold Bd; decide, by unfold Bd; decide, by decide⟩⟩
      · rw [List.mem_singleton.mp hq]
        refine ⟨fun d hd => by rw [List.mem_singleton.mp hd]; exact ⟨by decide, by decide⟩, fun d hd => ?_⟩
        simp at hd
        subst hd
        decide
      · simp at hq
        subst hq
        simp
    · rw [if_neg hp]
      exact ⟨by omega, fun q hq => ⟨by have := (q5 q hq).1; omega, (q5 q hq).2.2⟩, hp, c5⟩
  have main := fn_rtw (P := P) (L := L) (k := m) (w := w) (vs := [.ref j]) (f := 5) (F := f5) rfl rfl ((ss_nx (st_set (ev_blt (es_cons e2 es_nil) (blt_tuple new_lst)))).trans ((ss_nx (st_set (ev_blt (es_cons e4 es_nil) (blt_tuple new_lst)))).trans ((ss_nx (st_set (call_ev (es_cons (ev_var rfl) (es_cons ev_cst (es_cons ev_cst (es_cons ev_cst es_nil)))) e5))).trans ((ss_nx (st_set (d := .ref w5.cs.length) (w' := ⟨w5.cs ++ [.lst (numQ.map pr)], w5.lo⟩) rfl)).trans (ss_rt (st_ret (ev_tup (es_cons (pif _ rfl) (es_cons (ev_idx (ev_var rfl) (dc rfl e6) x6) (es_cons (ev_idx (ev_var rfl) (dc rfl e7) x7) (es_cons (ev_var rfl) (es_cons (ev_var rfl) es_nil))))) (by unfold QQ.line; simp))))))))
  refine ⟨⟨p', x, y, us, vs⟩, _, main, ?_, Dr.cut hw ((g5'.trans g6).trans g7)⟩
  exact { p := ⟨okp.1, okp.2.1⟩, pc := okp.2.2, x := numQ_ok x hx, y := numQ_ok y hy, up := ⟨by simp only; omega, fun c hc => (q2 c hc).2⟩, u0 := fun c hc => (q2 c hc).1, dn := ⟨by simp only; omega, fun c hc => q4 c hc⟩ }
end LW

set_option Elab.async false
set_option linter.all false
set_option maxRecDepth 100000
set_option maxHeartbeats 1000000
namespace LW
open QQ PySem
variable {L : Nat} {w : W}
theorem ne_str {a b : Str} {k : Bool} (ha : PyData.strOk a = true) (hb : PyData.strOk b = true) (hk : (!(a == b)) = k) : cpSem .ne (.str a) (.str b) w = some k := by
  subst hk
  show (eqSem _ _ w).map (!·) = _
  unfold eqSem
  rw [toP_str ha, toP_str hb]
  rfl
/-! what is wrong -/
theorem op_addT {xs ys : List D} (h : xs.length + ys.length ≤ QQ.line) : opSem .add (.tup xs) (.tup ys) w = some (.tup (xs ++ ys), w) := by
  show (if (Op2.add : Op2) = Op2.add ∧ xs.length + ys.length ≤ QQ.line then some (D.tup (xs ++ ys), w) else none) = _
  rw [if_pos ⟨rfl, h⟩]
end LW

set_option Elab.async false
set_option linter.all false
set_option maxRecDepth 100000
set_option maxHeartbeats 1000000
namespace LW
open QQ PySem
variable {L : Nat} {w : W}
/-! sizes of sums: a common denominator -/
structure SB (M B : Nat) (r : Q) : Prop where
  p : 0 < r.2
  dv : r.2 ∣ (M : Int)
  bd : r.1.natAbs ≤ B * r.2.natAbs
theorem SB.mono {M M' B B' : Nat} {r : Q} (h : SB M B r) (hM : M ∣ M') (hB : B ≤ B') : SB M' B' r :=
  ⟨h.p, Int.dvd_trans h.dv (Int.natCast_dvd_natCast.mpr hM), Nat.le_trans h.bd (Nat.mul_le_mul_right _ hB)⟩
theorem nf_SB {a b : Int} {M B : Nat} (hb : b ≠ 0) (hd : b ∣ (M : Int)) (h : a.natAbs ≤ B * b.natAbs) : SB M B (nf a b) := by
  obtain ⟨g, hg, e1, e2, hp⟩ := nf_spec (a := a) hb
  refine ⟨hp, Int.dvd_trans ⟨g, by rw [Int.mul_comm]; exact e2⟩ hd, ?_⟩
  have h1 : a.natAbs = g.natAbs * (nf a b).1.natAbs := by rw [← Int.natAbs_mul, ← e1]
  have h2 : b.natAbs = g.natAbs * (nf a b).2.natAbs := by rw [← Int.natAbs_mul, ← e2]
  rw [h1, h2, Nat.mul_left_comm] at h
  exact Nat.le_of_mul_le_mul_left h (by omega)
theorem mul_SB {M M' B B' : Nat} {r s : Q} (hr : SB M B r) (hs : SB M' B' s) : SB (M * M') (B * B') (mulp r s) := by
  refine nf_SB (Int.ne_of_gt (Int.mul_pos hr.p hs.p)) ?_ ?_
  · push_cast
    exact Int.mul_dvd_mul hr.dv hs.dv
  · rw [Int.natAbs_mul, Int.natAbs_mul]
    have := Nat.mul_le_mul hr.bd hs.bd
    rw [Nat.mul_mul_mul_comm] at this
    exact this
theorem add_SB {M B B' : Nat} {r s : Q} (hr : SB M B r) (hs : SB M B' s) (hM : 0 < M) : SB M (B + B') (addp r s) := by
  obtain ⟨x, hx⟩ := hr.dv
  obtain ⟨y, hy⟩ := hs.dv
  have hp := Int.mul_pos hr.p hs.p
  have e : addp r s = nf (r.1 * x + s.1 * y) (M : Int) := by
    unfold addp
    rw [← nf_scale (k := (M : Int)) (a := r.1 * s.2 + s.1 * r.2) (by omega) (Int.ne_of_gt hp), ← nf_scale (k := r.2 * s.2) (a := r.1 * x + s.1 * y) (Int.ne_of_gt hp) (by omega)]
    congr 1
    · have h1 : (M : Int) * (r.1 * s.2 + s.1 * r.2) = r.1 * s.2 * M + s.1 * r.2 * M := by rw [Int.mul_comm, Int.add_mul]
      rw [h1]
      have h2 : r.1 * s.2 * (M : Int) = r.2 * s.2 * (r.1 * x) := by rw [hx]; simp only [Int.mul_assoc, Int.mul_comm, Int.mul_left_comm]
      have h3 : s.1 * r.2 * (M : Int) = r.2 * s.2 * (s.1 * y) := by rw [hy]; simp only [Int.mul_assoc, Int.mul_comm, Int.mul_left_comm]
      rw [h2, h3, ← Int.mul_add]
    · rw [Int.mul_comm]
  rw [e]
  refine nf_SB (by omega) (Int.dvd_refl _) ?_
  have a1 := Int.natAbs_add_le (r.1 * x) (s.1 * y)
  rw [Int.natAbs_mul, Int.natAbs_mul] at a1
  have m1 : (M : Int).natAbs = r.2.natAbs * x.natAbs := by rw [hx, Int.natAbs_mul]
  have m2 : (M : Int).natAbs = s.2.natAbs * y.natAbs := by rw [hy, Int.natAbs_mul]
  have b1 : r.1.natAbs * x.natAbs ≤ B * (M : Int).natAbs := by
    rw [m1, ← Nat.mul_assoc]
    exact Nat.mul_le_mul_right _ hr.bd
  have b2 : s.1.natAbs * y.natAbs ≤ B' * (M : Int).natAbs := by
    rw [m2, ← Nat.mul_assoc]
    exact Nat.mul_le_mul_right _ hs.bd
  rw [Nat.add_mul]
  omega
theorem SB.pb {M B a b : Nat} {r : Q} (h : SB M B r) (hM : 0 < M) (ha : M < 2 ^ a) (hb : B < 2 ^ b) : PB (a + b) r := by
  have hp := h.p
  have h1 : r.2.natAbs ≤ M := by
    have := Int.le_of_dvd (by omega) h.dv
    omega
  have h2 : r.2.natAbs < 2 ^ a := by omega
  have h3 : 2 ^ a ≤ 2 ^ (a + b) := Nat.pow_le_pow_right (by decide) (by omega)
  refine ⟨?_, Nat.lt_of_lt_of_le h2 h3, h.p⟩
  show r.1.natAbs < _
  rw [Nat.pow_add]
  have h4 : B * r.2.natAbs ≤ B * 2 ^ a := Nat.mul_le_mul_left _ (by omega)
  have h5 : B * 2 ^ a < 2 ^ b * 2 ^ a := Nat.mul_lt_mul_of_pos_right hb (Nat.pow_pos (by decide))
  have := h.bd
  rw [Nat.mul_comm (2 ^ a)]
  omega
theorem SB.bd2 {M B : Nat} {r : Q} (h : SB M B r) (hM : 0 < M) {a : Nat} (ha : M < 2 ^ a) : Bd a r.2 := by
  have := Int.le_of_dvd (by omega) h.dv
  have := h.p
  have h1 : r.2.natAbs ≤ M := by omega
  exact Nat.lt_of_le_of_lt h1 ha
theorem dvd_fac : ∀ {n k : Nat}, 0 < k → k ≤ n → k ∣ fac n
  | 0, k, h, h2 => by omega
  | n + 1, k, h, h2 => by
    show k ∣ (n + 1) * fac n
    by_cases e : k = n + 1
    · rw [e]; exact Nat.dvd_mul_right _ _
    · exact Nat.dvd_trans (dvd_fac h (by omega)) (Nat.dvd_mul_left _ _)
theorem fac_dvd : ∀ {n k : Nat}, k ≤ n → fac k ∣ fac n
  | 0, k, h => by
    have : k = 0 := by omega
    rw [this]
    exact Nat.dvd_refl _
  | n + 1, k, h => by
    by_cases e : k = n + 1
    · rw [e]; exact Nat.dvd_refl _
    · exact Nat.dvd_trans (fac_dvd (by omega)) (Nat.dvd_mul_left _ _)
theorem fac_le {n k : Nat} (h : k ≤ n) : fac k ≤ fac n := Nat.le_of_dvd (fac_pos n) (fac_dvd h)
theorem pf_dvd {K : Nat} : ∀ {l : List Nat} {a : Nat}, (∀ v ∈ l, v ≤ K) → pf a l ∣ a * fac K ^ l.length
  | [], a, _ => by simp [pf]
  | v :: l, a, h => by
    have h1 := pf_dvd (K := K) (l := l) (a := a * fac v) fun u hu => h u (List.mem_cons_of_mem _ hu)
    refine Nat.dvd_trans h1 ?_
    rw [List.length_cons, Nat.pow_succ, Nat.mul_assoc, Nat.mul_comm (fac K ^ _) (fac K)]
    exact Nat.mul_dvd_mul_left _ (Nat.mul_dvd_mul_right (fac_dvd (h v List.mem_cons_self)) _)
theorem int_SB (n : Int) {B : Nat} (h : n.natAbs ≤ B) : SB 1 B (n, 1) := ⟨show (0 : Int) < 1 by decide, Int.dvd_refl _, by simpa using h⟩
theorem coef_SB {r : Q} (h : PB 6 r) : SB (fac 63) 63 r := by
  have h1 : r.2.natAbs < 2 ^ 6 := h.d
  have h2 : r.1.natAbs < 2 ^ 6 := h.n
  have h3 := h.p
  refine ⟨h.p, ?_, ?_⟩
  · have := dvd_fac (n := 63) (k := r.2.natAbs) (by omega) (by omega)
    have e : r.2 = (r.2.natAbs : Int) := by omega
    rw [e]
    exact Int.natCast_dvd_natCast.mpr this
  · have : 63 * 1 ≤ 63 * r.2.natAbs := Nat.mul_le_mul_left _ (by omega)
    omega
theorem zero_SB (M : Nat) : SB M 0 (0, 1) := ⟨show (0 : Int) < 1 by decide, Int.one_dvd _, by simp⟩
theorem step_SB {M B C x : Nat} {acc c : Q} {n : Int} (hM : 0 < M) (ha : SB M B acc) (hc : SB M C c) (hn : n.natAbs ≤ x) : SB M (B * x + C) (addp (mulp acc (n, 1)) c) := by
  have := mul_SB ha (int_SB n hn)
  rw [Nat.mul_one] at this
  exact add_SB this hc hM
theorem hv_SB {q : List Q} {n : Int} (hn : n.natAbs ≤ 12) (hq : q.length ≤ 2 ∧ ∀ d ∈ q, PB 6 d) : SB (fac 63) 819 (hv (n, 1) q) := by
  have hM := fac_pos 63
  match q, hq with
  | [], _ => exact (zero_SB _).mono (Nat.dvd_refl _) (by decide)
  | [a], h => exact (step_SB hM (zero_SB _) (coef_SB (h.2 a (by simp))) hn).mono (Nat.dvd_refl _) (by decide)
  | [a, b], h => exact (step_SB hM (step_SB hM (zero_SB _) (coef_SB (h.2 b (by simp))) hn) (coef_SB (h.2 a (by simp))) hn).mono (Nat.dvd_refl _) (by decide)
  | a :: b :: c :: l, h => exact absurd h.1 (by simp)
theorem bv_SB {p : List (List Q)} {n k : Int} (hn : n.natAbs ≤ 12) (hk : k.natAbs ≤ 20) (hp : p.length ≤ 2 ∧ ∀ q ∈ p, q.length ≤ 2 ∧ ∀ d ∈ q, PB 6 d) : SB (fac 63) 17199 (bv p (n, 1) (k, 1)) := by
  have hM := fac_pos 63
  match p, hp with
  | [], _ => exact (zero_SB _).mono (Nat.dvd_refl _) (by decide)
  | [a], h => exact (step_SB hM (zero_SB _) (hv_SB hn (h.2 a (by simp))) hk).mono (Nat.dvd_refl _) (by decide)
  | [a, b], h => exact (step_SB hM (step_SB hM (zero_SB _) (hv_SB hn (h.2 b (by simp))) hk) (hv_SB hn (h.2 a (by simp))) hk).mono (Nat.dvd_refl _) (by decide)
  | a :: b :: c :: l, h => exact absurd h.1 (by simp)
theorem fac_pow_dvd {a b m n : Nat} (h : a ∣ b) (hm : m ≤ n) : a ^ m ∣ b ^ n := by
  obtain ⟨c, rfl⟩ := h
  obtain ⟨d, rfl⟩ : ∃ d, n = m + d := ⟨n - m, by omega⟩
  rw [Nat.pow_add, Nat.mul_pow]
  exact ⟨c ^ m * (a * c) ^ d, by simp only [Nat.mul_pow, Nat.mul_assoc]⟩
theorem small_dv {i : Int} (h0 : i ≠ 0) (h : i.natAbs < 2 ^ 3) : i.natAbs ∣ fac 7 := dvd_fac (by omega) (by omega)
theorem pw_SB {r : Q} {k : Int} {K : Nat} (h : PB 3 r) (h0 : r.1 ≠ 0) (hk : k.natAbs ≤ K) : SB (fac 7 ^ K) (7 ^ K) (pw r k) := by
  have b1 : r.1.natAbs < 2 ^ 3 := h.n
  have b2 : r.2.natAbs < 2 ^ 3 := h.d
  have hp := h.p
  have key : ∀ (a b : Int) (m : Nat), 0 < b → b.natAbs < 2 ^ 3 → a.natAbs < 2 ^ 3 → m ≤ K → SB (fac 7 ^ K) (7 ^ K) (a ^ m, b ^ m) := fun a b m hb hb3 ha hm => by
    refine ⟨Int.pow_pos hb, ?_, ?_⟩
    · have e : b ^ m = ((b.natAbs ^ m : Nat) : Int) := by
        push_cast
        congr 1
        omega
      show b ^ m ∣ _
      rw [e]
      exact Int.natCast_dvd_natCast.mpr (fac_pow_dvd (small_dv (by omega) hb3) hm)
    · show (a ^ m).natAbs ≤ 7 ^ K * (b ^ m).natAbs
      rw [Int.natAbs_pow, Int.natAbs_pow]
      have h1 : a.natAbs ^ m ≤ 7 ^ m := Nat.pow_le_pow_left (by omega) m
      have h2 : 7 ^ m ≤ 7 ^ K := Nat.pow_le_pow_right (by decide) hm
      have h3 : 1 ≤ b.natAbs ^ m := Nat.pow_pos (by omega)
      have h4 : 7 ^ K * 1 ≤ 7 ^ K * b.natAbs ^ m := Nat.mul_le_mul_left _ h3
      omega
  unfold pw
  by_cases h1 : 0 ≤ k
  · rw [if_pos h1]
    exact key _ _ _ hp b2 b1 (by omega)
  · rw [if_neg h1]
    unfold inv
    by_cases h2 : 0 < r.1
    · rw [if_pos h2]
      exact key _ _ _ h2 b1 b2 (by omega)
    · rw [if_neg h2]
      exact key _ _ _ (by omega) (by omega) (by omega) (by omega)
end LW

set_option Elab.async false
set_option linter.all false
set_option maxRecDepth 100000
set_option maxHeartbeats 1000000
namespace LW
open QQ PySem
variable {L : Nat} {w : W}
/-! ranges -/
def leI (a c : D) : Bool := match a, c with
  | .int a, .int c => decide (a ≤ c + 1)
  | _, _ => false
def rgB : D → Bool
  | .tup [a, b, c] => inR a (-20) 20 && (inR b 0 3 && (inR c (-20) 20 && leI a c))
  | _ => false
theorem inR_int {x : D} {lo hi : Int} (h : inR x lo hi = true) : ∃ i, x = .int i ∧ lo ≤ i ∧ i ≤ hi := by
  cases x with
  | int i =>
    simp [inR] at h
    exact ⟨i, rfl, h⟩
  | _ => simp [inR] at h
theorem rowB3 {x : D} (h : rowB x 3 3 = true) : ∃ a b c, x = .tup [a, b, c] := by
  cases x with
  | tup ds =>
    match ds, h with
    | [a, b, c], _ => exact ⟨a, b, c, rfl⟩
    | [], h => simp [rowB] at h
    | [a], h => simp [rowB] at h
    | [a, b], h => simp [rowB] at h
    | a :: b :: c :: d :: l, h => simp [rowB] at h; omega
  | _ => simp [rowB] at h
theorem s_isrange {n : Nat} (h : 3 ≤ n) {x : D} (hp : PlN 1 w x) : fnS P L n 8 [x] w = .ok (.bl (rgB x), w) := by
  obtain ⟨m, rfl⟩ : ∃ m, n = m + 1 := ⟨n - 1, by omega⟩
  refine fn_G (F := f8) rfl rfl ?_ rfl
  by_cases hr : rowB x 3 3 = true
  · obtain ⟨a, b, c, rfl⟩ := rowB3 hr
    obtain ⟨_, hq⟩ := hp.2 _ rfl
    have pa : Pl w a := hq a (by simp)
    have pb : Pl w b := hq b (by simp)
    have pc : Pl w c := hq c (by simp)
    refine or_ret (q := false) (p := (!true || (!(inR a (-20) 20) || (!(inR b 0 3) || false)))) (TG.or (TG.nt (TG.val (EG.call (EsG.cons (EG.var rfl) fun _ _ => EsG.cons EG.cst fun _ _ => EsG.one EG.cst) fun w' g => by rw [← hr]; exact s_isrow (by omega) (g.pl hp.pl) 3 3))) fun _ w' g => TG.or (TG.nt (TG.val (EG.call (EsG.cons (EG.idx (EG.var rfl) (fun _ _ => EG.cst) fun _ _ => rfl) fun _ _ => EsG.cons (EG.of rfl) fun _ _ => EsG.one (EG.of rfl)) fun w'' g' => s_within (by omega) ((g.trans g').pl pa) (-20) 20))) fun _ w2 g2 => TG.or (TG.nt (TG.val (EG.call (EsG.cons (EG.idx (EG.var rfl) (fun _ _ => EG.cst) fun _ _ => rfl) fun _ _ => EsG.cons (EG.of rfl) fun _ _ => EsG.one (EG.of rfl)) fun w'' g' => s_within (by omega) (((g.trans g2).trans g').pl pb) 0 3))) fun _ _ _ => TG.or0) ?_ ?_
    · intro h
      simp at h
      simp only [rgB]
      rcases h with h | h
      · rw [h]; rfl
      · rw [h]; simp
    · intro h w' g
      simp at h
      have e : rgB (.tup [a, b, c]) = (inR c (-20) 20 && leI a c) := by simp [rgB, h]
      rw [e]
      obtain ⟨i, rfl, _, _⟩ := inR_int h.1
      refine SG.ret (EG.and2 (EG.call (EsG.cons (EG.idx (EG.var rfl) (fun _ _ => EG.cst) fun _ _ => rfl) fun _ _ => EsG.cons (EG.of rfl) fun _ _ => EsG.one (EG.of rfl)) fun w'' g' => s_within (by omega) ((g.trans g').pl pc) (-20) 20) fun hc w'' g' => EG.and1 ?_)
      obtain ⟨k, rfl, _, _⟩ := inR_int hc
      exact EG.cmp (x := .int i) (y := .int (k + 1)) (EG.idx (EG.var rfl) (fun _ _ => EG.cst) fun _ _ => rfl) (fun w' _ => EG.of (ev_bin (ev_idx (ev_var rfl) ev_cst rfl) ev_cst op_add)) fun _ _ => rfl
  · have hr' : rowB x 3 3 = false := by simpa using hr
    refine or_ret (p := (!false || false)) (q := false) (TG.or (TG.nt (p := false) (TG.val (EG.call (EsG.cons (EG.var rfl) fun _ _ => EsG.cons EG.cst fun _ _ => EsG.one EG.cst) fun w' g => by rw [← hr']; exact s_isrow (by omega) (g.pl hp.pl) 3 3))) fun h => by cases h) ?_ (fun h => by cases h)
    intro _
    unfold rgB
    split
    · exact absurd rfl hr
    · rfl
/-- all([elt for target in a tuple]) -/
theorem EG.allG {C : QQ.Ctx} {ρ : QQ.Env} {elt it : E} {tg : Tg} {own : List Nat} {ds : List D} {f : D → Bool} (hi : EG C ρ it w (.tup ds)) (hl : ds.length ≤ QQ.line) (H : ∀ d ∈ ds, ∀ w', Gr w w' → ∃ ρ', evTg C tg d (wipeR ρ own) w' = .ok (ρ', w') ∧ EG C ρ' elt w' (.bl (f d))) : EG C ρ (.blt .all1 (.cons (.comp elt tg (.seq it) own .nil) .nil)) w (.bl (ds.all f)) := by
  obtain ⟨w1, e1, g1⟩ := hi
  obtain ⟨w2, e2, g2⟩ := comp_mapG (turn := turnC C ρ elt tg own) (h := fun d => .bl (f d)) ds [] w1 (fun d hd w' g => by
    obtain ⟨ρ', e0, w3, e3, g3⟩ := H d hd w' (g1.trans g)
    exact ⟨w3, turn_c (w' := w3) e0 e3, g3⟩) (by simpa using hl)
  have ec := ev_compT (it_seqT e1) e2
  refine ⟨⟨w2.cs ++ [.lst (ds.map fun d => .bl (f d))], w2.lo⟩, ev_blt (es_cons ec es_nil) ?_, (g1.trans g2).trans (.one _ _)⟩
  show (match (W.lst ⟨w2.cs ++ [.lst (ds.map fun d => .bl (f d))], w2.lo⟩ w2.cs.length).bind boolsD with
    | some bs => some (D.bl (bs.all id), _)
    | none => none) = _
  rw [new_lst]
  show (match boolsD (ds.map fun d => .bl (f d)) with
    | some bs => some (D.bl (bs.all id), _)
    | none => none) = _
  rw [boolsD_map]
  simp [List.all_map]
theorem s_lisrange {n : Nat} (h : 1 ≤ n) {x : D} (hp : PlN 1 w x) : fnS P L n 3 [x] w = .ok (.bl (rgB x), w) := by
  obtain ⟨m, rfl⟩ : ∃ m, n = m + 1 := ⟨n - 1, by omega⟩
  refine fn_G (F := f3) rfl rfl ?_ rfl
  have z : ∀ y : D, ∃ q : Bool, y = x → True := fun _ => ⟨true, fun _ => trivial⟩
  cases x with
  | tup ds =>
    obtain ⟨hl, hq⟩ := hp.2 ds rfl
    have hq' : ∀ d ∈ ds, Pl w d := hq
    refine or_ret (q := false) (p := (!true || (!(decide ((ds.length : Int) = 3)) || (!(ds.all isI) || false)))) (TG.or (TG.nt (TG.val (EG.isi (EG.var rfl) fun w' g => (isi_of (g.pl hp.pl)).2.2))) fun _ w' g => TG.or (TG.val (EG.cmp (x := .int ds.length) (y := .int 3) (EG.blt (EsG.one (EG.var rfl)) fun w' _ => ⟨w', rfl, .refl _⟩) (fun _ _ => EG.cst) fun w' _ => ?_)) fun _ w2 g2 => TG.or (TG.nt (TG.val (EG.all (EG.var rfl) (by unfold QQ.line; omega) fun d hd w3 g3 => ?_))) fun _ _ _ => TG.or0) ?_ ?_
    · have : cpSem .ne (.int ds.length) (.int 3) w' = (eqSem (.int ds.length) (.int 3) w').map (!·) := rfl
      rw [this]
      unfold eqSem
      rw [toP_int, toP_int]
      by_cases e : (ds.length : Int) = 3
      · simp [PyData.eqv, e]
      · simp [PyData.eqv, e]
    · have e : isI d = ((isI d || isB d) && !isB d) := by cases d <;> rfl
      rw [e]
      have pd0 : Pl w3 d := (g.trans (g2.trans g3)).pl (hq' d hd)
      exact EG.and2 (EG.isi (EG.var rfl) fun w' g => (isi_of (g.pl pd0)).1) fun _ w' g => EG.and1 (EG.not (EG.isi (EG.var rfl) fun w'' g' => (isi_of ((g.trans g').pl pd0)).2.1))
    · intro h
      simp only [Bool.not_true, Bool.false_or, Bool.or_false, Bool.or_eq_true, Bool.not_eq_true'] at h
      match ds with
      | [a, b, c] =>
        simp only [rgB]
        rcases h with h | h
        · simp at h
        · cases a <;> cases b <;> cases c <;> first | rfl | (simp [isI] at h; done) | (simp [inR, leI])
      | [] => rfl
      | [a] => rfl
      | [a, b] => rfl
      | a :: b :: c :: d :: l => rfl
    · intro h w' g
      simp only [Bool.not_true, Bool.false_or, Bool.or_false, Bool.or_eq_false_iff, Bool.not_eq_false'] at h
      obtain ⟨h3, hi⟩ := h
      have h3 := of_decide_eq_true h3
      match ds, h3, hi with
      | [a, b, c], _, hi =>
        cases a with
        | int i =>
          cases b with
          | int j =>
            cases c with
            | int k =>
              refine ⟨_, w', (ss_nx (st_asg (ev_var rfl) rfl)).trans (ss_rt (st_ret (d := .bl (rgB (.tup [.int i, .int j, .int k]))) ?_)), .refl _⟩
              have ch : ∀ (u v p : Int) (A B C : E), evE ⟨P, fnS P L m, L⟩ [some (.tup [.int i, .int j, .int k]), some (.int i), some (.int j), some (.int k), none] A w' = .ok (.int u, w') → evE ⟨P, fnS P L m, L⟩ [some (.tup [.int i, .int j, .int k]), some (.int i), some (.int j), some (.int k), none] B w' = .ok (.int v, w') → evE ⟨P, fnS P L m, L⟩ [some (.tup [.int i, .int j, .int k]), some (.int i), some (.int j), some (.int k), none] C w' = .ok (.int p, w') → evE ⟨P, fnS P L m, L⟩ [some (.tup [.int i, .int j, .int k]), some (.int i), some (.int j), some (.int k), none] (.chain .le .le A B C) w' = .ok (.bl (decide (u ≤ v) && decide (v ≤ p)), w') := fun u v p A B C e1 e2 e3 => by
                simp only [evE, e1, e2, e3, bind_ok, cpSem]
                by_cases hq : u ≤ v
                · simp only [decide_eq_true hq, Bool.true_and]
                · simp only [decide_eq_false hq, Bool.false_and]
              exact ev_and2 (ch (-20) i 20 _ _ _ rfl rfl rfl) fun _ => by
                have e : (decide (0 ≤ j) && decide (j ≤ 3) && (decide (-20 ≤ k) && decide (k ≤ 20) && decide (i ≤ k + 1))) = (decide (0 ≤ j) && decide (j ≤ 3) && (decide (-20 ≤ k) && decide (k ≤ 20) && decide (i ≤ k + 1))) := rfl
                exact ev_and2 (ch 0 j 3 _ _ _ rfl rfl rfl) fun _ => ev_and2 (ch (-20) k 20 _ _ _ rfl rfl rfl) fun _ => ev_and1 (ev_cmp (ev_var rfl) (ev_bin (ev_var rfl) ev_cst op_add) rfl)
            | _ => simp [isI] at hi
          | _ => simp [isI] at hi
        | _ => simp [isI] at hi
      | [], h3, _ => simp at h3
      | [a], h3, _ => simp at h3
      | [a, b], h3, _ => simp at h3
      | a :: b :: c :: d :: l, h3, _ => simp at h3; omega
  | _ => exact or_ret (q := false) (p := (!false || false)) (TG.or (TG.nt (TG.val (EG.isi (EG.var rfl) fun w' g => (isi_of (g.pl hp.pl)).2.2))) fun h => by cases h) (fun _ => rfl) (fun h => by cases h)
theorem s_lis {n : Nat} (h : 1 ≤ n) (a b : Bool) : fnS P L n 6 [.bl a, .bl b] w = .ok (.bl (a == b), w) := by
  obtain ⟨m, rfl⟩ : ∃ m, n = m + 1 := ⟨n - 1, by omega⟩
  refine fn_rt0 (F := f6) (ρ' := [some (.bl a), some (.bl b)]) rfl rfl (ss_rt (st_ret ?_)) rfl
  cases a <;> cases b <;> rfl
end LW

set_option Elab.async false
set_option linter.all false
set_option maxRecDepth 100000
set_option maxHeartbeats 1000000
namespace LW
open QQ PySem
variable {L : Nat} {w : W}
/-! ranges that suit -/
def suitB (l s t : Int) (c : Tri) : Bool := decide (0 ≤ c.2.1 * l + c.2.2) && (decide (0 ≤ c.2.1 * (t + 1) + c.2.2) && decide (0 ≤ c.1 + c.2.1 * s))
def suitsB (up : List Tri) (l s t : Int) : Bool := up.all (suitB l s t)
def spn (l s t : Int) : D := .tup [.int l, .int s, .int t]
theorem for_rt {turn : D → QQ.Env → W → R (Fl × QQ.Env × W)} {d x : D} {ds : List D} {ρ ρ' : QQ.Env} {w w' : W} (h : turn d ρ w = .ok (.rt x, ρ', w')) : evFor turn (d :: ds) ρ w = .ok (.rt x, ρ', w') := by
  show (turn d ρ w).bind _ = _
  rw [h]
  rfl
def isT5 : T := .or (.cons (.val (.cmp .lt (.bin .add (.bin .mul (.var 6) (.var 2)) (.var 7)) (.cst (.int 0)))) (.cons (.val (.cmp .lt (.bin .add (.bin .mul (.var 6) (.bin .add (.var 4) (.cst (.int 1)))) (.var 7)) (.cst (.int 0)))) (.cons (.val (.cmp .lt (.bin .add (.var 5) (.bin .mul (.var 6) (.var 3))) (.cst (.int 0)))) (.nil))))
def isTg : Tg := .tup (.cons (.nm 5) (.cons (.nm 6) (.cons (.nm 7) (.nil))))
def isB5 : Ss := .cons (.ifs isT5 (.cons (.ret (.cst (.bl false))) (.nil)) (.nil)) (.nil)
theorem bis_eq : f20.body = .cons (.asg (.tup (.cons (.nm 2) (.cons (.nm 3) (.cons (.nm 4) (.nil))))) (.var 1)) (.cons (.for isTg (.seq (.idx (.var 0) (.cst (.int 3)))) isB5) (.cons (.ret (.cst (.bl true))) (.nil))) := rfl
theorem not_lt_dec (i : Int) : decide (i < 0) = !decide (0 ≤ i) := by
  by_cases h : i < 0
  · rw [decide_eq_true h, decide_eq_false (by omega)]; rfl
  · rw [decide_eq_false h, decide_eq_true (by omega)]; rfl
theorem is_test {C : QQ.Ctx} {T S : Option D} {l s t : Int} (hl : l.natAbs < 1000) (hs : s.natAbs < 1000) (ht : t.natAbs < 1000) (c : Tri) : TG C [T, S, some (.int l), some (.int s), some (.int t), some (.int c.1), some (.int c.2.1), some (.int c.2.2)] isT5 w (!suitB l s t c) := by
  have e : (!suitB l s t c) = (decide (c.2.1 * l + c.2.2 < 0) || (decide (c.2.1 * (t + 1) + c.2.2 < 0) || (decide (c.1 + c.2.1 * s < 0) || false))) := by
    rw [not_lt_dec, not_lt_dec, not_lt_dec]
    unfold suitB
    simp [Bool.not_and]
  rw [e]
  refine TG.or (TG.val (EG.of (ev_cmp (ev_bin (ev_bin (ev_var rfl) (ev_var rfl) (op_mul (mulOk_small (by omega)))) (ev_var rfl) op_add) ev_cst rfl))) fun _ w' _ => TG.or (TG.val (EG.of (ev_cmp (ev_bin (ev_bin (ev_var rfl) (ev_bin (ev_var rfl) ev_cst op_add) (op_mul (mulOk_small (by omega)))) (ev_var rfl) op_add) ev_cst rfl))) fun _ w' _ => TG.or (TG.val (EG.of (ev_cmp (ev_bin (ev_var rfl) (ev_bin (ev_var rfl) (ev_var rfl) (op_mul (mulOk_small (by omega)))) op_add) ev_cst rfl))) fun _ _ _ => TG.or0
theorem is_loop {C : QQ.Ctx} {T S : Option D} {l s t : Int} (hl : l.natAbs < 1000) (hs : s.natAbs < 1000) (ht : t.natAbs < 1000) : ∀ (cs : List Tri) (a b c : Option D) (w : W), ∃ ρ' w', evFor (turnOf C isTg isB5) (cs.map tri) [T, S, some (.int l), some (.int s), some (.int t), a, b, c] w = .ok (if suitsB cs l s t = true then .nx else .rt (.bl false), ρ', w') ∧ Gr w w'
  | [], a, b, c, w => ⟨_, w, rfl, .refl _⟩
  | x :: cs, a, b, c, w => by
    obtain ⟨w1, e1, g1⟩ := is_test (w := w) (C := C) (T := T) (S := S) hl hs ht x
    cases hx : suitB l s t x with
    | false =>
      rw [hx] at e1
      have e2 : suitsB (x :: cs) l s t = false := by simp [suitsB, hx]
      rw [e2]
      exact ⟨_, w1, for_rt (ss_rt ((st_ifT e1).trans (ss_rt (st_ret ev_cst)))), g1⟩
    | true =>
      rw [hx] at e1
      have e2 : suitsB (x :: cs) l s t = suitsB cs l s t := by simp [suitsB, hx]
      rw [e2]
      obtain ⟨ρ', w2, e3, g3⟩ := is_loop (C := C) (T := T) (S := S) hl hs ht cs (some (.int x.1)) (some (.int x.2.1)) (some (.int x.2.2)) w1
      exact ⟨ρ', w2, (for_nx ((ss_nx (s := .ifs isT5 (.cons (.ret (.cst (.bl false))) (.nil)) (.nil)) ((st_ifF e1).trans rfl)).trans rfl)).trans e3, g1.trans g3⟩
theorem s_issuited {n : Nat} (h : 1 ≤ n) {tm : Tm} {l s t : Int} (hl : l.natAbs < 1000) (hs : s.natAbs < 1000) (ht : t.natAbs < 1000) : fnS P L n 20 [dtm tm, spn l s t] w = .ok (.bl (suitsB tm.up l s t), w) := by
  obtain ⟨m, rfl⟩ : ∃ m, n = m + 1 := ⟨n - 1, by omega⟩
  refine fn_G (F := f20) rfl rfl ?_ rfl
  obtain ⟨ρ', w', e, g⟩ := is_loop (C := ⟨P, fnS P L m, L⟩) (T := some (dtm tm)) (S := some (spn l s t)) hl hs ht tm.up none none none ⟨w.cs, w.cs.length⟩
  rw [bis_eq]
  have i1 : evIt ⟨P, fnS P L m, L⟩ [some (dtm tm), some (spn l s t), some (.int l), some (.int s), some (.int t), none, none, none] (.seq (.idx (.var 0) (.cst (.int 3)))) ⟨w.cs, w.cs.length⟩ = .ok (.fix (tm.up.map tri), ⟨w.cs, w.cs.length⟩) := it_seqT (ev_idx (ev_var rfl) ev_cst rfl)
  cases hu : suitsB tm.up l s t with
  | true =>
    rw [hu] at e
    exact ⟨_, w', (ss_nx (st_asg (ev_var rfl) rfl)).trans ((ss_nx (st_for i1 e)).trans (ss_rt (st_ret ev_cst))), g⟩
  | false =>
    rw [hu] at e
    exact ⟨_, w', (ss_nx (st_asg (ev_var rfl) rfl)).trans (ss_rt (st_for i1 e)), g⟩
def suitD (l s t : Int) (d : D) : Bool := match d with
  | .tup [.int a, .int b, .int c] => suitB l s t (a, b, c)
  | _ => false
theorem s_lsuits {n : Nat} (h : 1 ≤ n) {tm : Tm} (hu : tm.up.length ≤ 1000) {l s t : Int} (hl : l.natAbs < 1000) (hs : s.natAbs < 1000) (ht : t.natAbs < 1000) : fnS P L n 7 [dtm tm, spn l s t] w = .ok (.bl (suitsB tm.up l s t), w) := by
  obtain ⟨m, rfl⟩ : ∃ m, n = m + 1 := ⟨n - 1, by omega⟩
  refine fn_G (F := f7) rfl rfl ?_ rfl
  have e : suitsB tm.up l s t = (tm.up.map tri).all (suitD l s t) := by
    rw [List.all_map]
    rfl
  rw [e]
  have key : EG ⟨P, fnS P L m, L⟩ [some (dtm tm), some (spn l s t), some (.int l), some (.int s), some (.int t), none, none, none] (.blt .all1 (.cons (.comp (.andv (.cons (.cmp .ge (.bin .add (.bin .mul (.var 6) (.var 2)) (.var 7)) (.cst (.int 0))) (.cons (.cmp .ge (.bin .add (.bin .mul (.var 6) (.bin .add (.var 4) (.cst (.int 1)))) (.var 7)) (.cst (.int 0))) (.cons (.cmp .ge (.bin .add (.var 5) (.bin .mul (.var 6) (.var 3))) (.cst (.int 0))) .nil)))) (.tup (.cons (.nm 5) (.cons (.nm 6) (.cons (.nm 7) (.nil))))) (.seq (.idx (.var 0) (.cst (.int 3)))) [5, 6, 7] (.nil)) .nil)) ⟨w.cs, w.cs.length⟩ (.bl ((tm.up.map tri).all (suitD l s t))) := by
    refine EG.allG (EG.of (ev_idx (ev_var rfl) ev_cst rfl)) (by unfold QQ.line; simp; omega) fun d hd w' g => ?_
    obtain ⟨c, _, rfl⟩ := List.mem_map.mp hd
    refine ⟨[some (dtm tm), some (spn l s t), some (.int l), some (.int s), some (.int t), some (.int c.1), some (.int c.2.1), some (.int c.2.2)], rfl, ?_⟩
    have e : suitD l s t (tri c) = (decide (0 ≤ c.2.1 * l + c.2.2) && (decide (0 ≤ c.2.1 * (t + 1) + c.2.2) && decide (0 ≤ c.1 + c.2.1 * s))) := rfl
    rw [e]
    exact EG.and2 (EG.of (ev_cmp (ev_bin (ev_bin (ev_var rfl) (ev_var rfl) (op_mul (mulOk_small (by omega)))) (ev_var rfl) op_add) ev_cst rfl)) fun _ w' _ => EG.and2 (EG.of (ev_cmp (ev_bin (ev_bin (ev_var rfl) (ev_bin (ev_var rfl) ev_cst op_add) (op_mul (mulOk_small (by omega)))) (ev_var rfl) op_add) ev_cst rfl)) fun _ w' _ => EG.and1 (EG.of (ev_cmp (ev_bin (ev_var rfl) (ev_bin (ev_var rfl) (ev_var rfl) (op_mul (mulOk_small (by omega)))) op_add) ev_cst rfl))
  obtain ⟨w', e', g⟩ := key
  exact ⟨_, w', (ss_nx (st_asg (ev_var rfl) rfl)).trans (ss_rt (st_ret e')), g⟩
theorem s_needrg {n : Nat} (h : 4 ≤ n) {x : D} (hp : PlN 1 w x) : fnS P L n 19 [x] w = if rgB x = true then .ok (.non, w) else .ex 1 .non [] w := by
  obtain ⟨m, rfl⟩ : ∃ m, n = m + 1 := ⟨n - 1, by omega⟩
  have := fn_need (w := w) (L := L) (k := m) (F := f19) (vs := [x]) (f := 19) (q := !rgB x) rfl rfl rfl (TG.nt (TG.val (EG.call (EsG.one (EG.var rfl)) fun w' g => s_isrange (by omega) ((hp.same (w' := ⟨w.cs, w.cs.length⟩) rfl).gr g))))
  rw [this]
  cases rgB x <;> rfl
theorem s_needix {n : Nat} (h : 3 ≤ n) {x : D} (hp : Pl w x) : fnS P L n 22 [x] w = if inR x 0 400 = true then .ok (.non, w) else .ex 3 .non [] w := by
  obtain ⟨m, rfl⟩ : ∃ m, n = m + 1 := ⟨n - 1, by omega⟩
  have := fn_need (w := w) (L := L) (k := m) (F := f22) (vs := [x]) (f := 22) (q := !inR x 0 400) rfl rfl rfl (TG.nt (TG.val (EG.call (EsG.cons (EG.var rfl) fun _ _ => EsG.cons EG.cst fun _ _ => EsG.one (EG.of rfl)) fun w' g => s_within (by omega) (g.pl hp) 0 400)))
  rw [this]
  cases inR x 0 400 <;> rfl
theorem s_suits_bt {n : Nat} (h : 7 ≤ n) {x y : D} (hp : PlN 4 w x) (hx : dtB x = false) : fnS P L n 11 [x, y] w = .ex 0 .non [] w := by
  obtain ⟨m, rfl⟩ : ∃ m, n = m + 1 := ⟨n - 1, by omega⟩
  have c1 : fnS P L m 18 [x] ⟨w.cs, w.cs.length⟩ = .ex 0 .non [] ⟨w.cs, w.cs.length⟩ := (s_needdt (w := ⟨w.cs, w.cs.length⟩) (by omega) (hp.same rfl)).trans (by rw [hx]; rfl)
  exact fn_ex (F := f11) rfl rfl (ss_ex (st_ex_ex (call_ex (es_cons (ev_var rfl) es_nil) c1))) (.refl _) rfl
theorem s_suits_br {n : Nat} (h : 7 ≤ n) {x y : D} (hp : PlN 4 w x) (hx : dtB x = true) (hy : PlN 1 w y) (hr : rgB y = false) : fnS P L n 11 [x, y] w = .ex 1 .non [] w := by
  obtain ⟨m, rfl⟩ : ∃ m, n = m + 1 := ⟨n - 1, by omega⟩
  have c1 : fnS P L m 18 [x] ⟨w.cs, w.cs.length⟩ = .ok (.non, ⟨w.cs, w.cs.length⟩) := (s_needdt (w := ⟨w.cs, w.cs.length⟩) (by omega) (hp.same rfl)).trans (by rw [hx]; rfl)
  have c2 : fnS P L m 19 [y] ⟨w.cs, w.cs.length⟩ = .ex 1 .non [] ⟨w.cs, w.cs.length⟩ := (s_needrg (w := ⟨w.cs, w.cs.length⟩) (by omega) (hy.same rfl)).trans (by rw [hr]; rfl)
  exact fn_ex (F := f11) rfl rfl ((ss_nx (st_ex (call_ev (es_cons (ev_var rfl) es_nil) c1))).trans (ss_ex (st_ex_ex (call_ex (es_cons (ev_var rfl) es_nil) c2)))) (.refl _) rfl
theorem PlN_spn (l s t : Int) (n : Nat) : PlN n w (spn l s t) := PlN_tri (l, s, t) n
theorem s_suits {n : Nat} (h : 7 ≤ n) {tm : Tm} (htm : TmOk tm) {l s t : Int} (hr : rgB (spn l s t) = true) : fnS P L n 11 [dtm tm, spn l s t] w = .ok (.bl (suitsB tm.up l s t), w) := by
  obtain ⟨m, rfl⟩ : ∃ m, n = m + 1 := ⟨n - 1, by omega⟩
  have c1 : fnS P L m 18 [dtm tm] ⟨w.cs, w.cs.length⟩ = .ok (.non, ⟨w.cs, w.cs.length⟩) := (s_needdt (w := ⟨w.cs, w.cs.length⟩) (by omega) (PlN_dtm htm 4)).trans (by rw [dtB_dtm htm]; rfl)
  have c2 : fnS P L m 19 [spn l s t] ⟨w.cs, w.cs.length⟩ = .ok (.non, ⟨w.cs, w.cs.length⟩) := (s_needrg (w := ⟨w.cs, w.cs.length⟩) (by omega) (PlN_spn _ _ _ _)).trans (by rw [hr]; rfl)
  have hb : (-20 ≤ l ∧ l ≤ 20) ∧ (0 ≤ s ∧ s ≤ 3) ∧ (-20 ≤ t ∧ t ≤ 20) ∧ l ≤ t + 1 := by
    simp [rgB, spn, inR, leI] at hr
    omega
  have c3 : fnS P L m 20 [dtm tm, spn l s t] ⟨w.cs, w.cs.length⟩ = .ok (.bl (suitsB tm.up l s t), ⟨w.cs, w.cs.length⟩) := s_issuited (by omega) (by omega) (by omega) (by omega)
  exact fn_rt0 (F := f11) rfl rfl ((ss_nx (st_ex (call_ev (es_cons (ev_var rfl) es_nil) c1))).trans ((ss_nx (st_ex (call_ev (es_cons (ev_var rfl) es_nil) c2))).trans (ss_rt (st_ret (call_ev (es_cons (ev_var rfl) (es_cons (ev_var rfl) es_nil)) c3))))) rfl
theorem t_val_ex {C : QQ.Ctx} {ρ ρ' : QQ.Env} {e : E} {c : Nat} {p : D} {w' : W} (h : evE C ρ e w = .ex c p ρ' w') : evT C ρ (.val e) w = .ex c p ρ' w' := by
  show (evE C ρ e w).bind _ = _
  rw [h]
  rfl
theorem t_nt_ex {C : QQ.Ctx} {ρ ρ' : QQ.Env} {t : T} {c : Nat} {p : D} {w' : W} (h : evT C ρ t w = .ex c p ρ' w') : evT C ρ (.nt t) w = .ex c p ρ' w' := by
  show (evT C ρ t w).bind _ = _
  rw [h]
  rfl
theorem st_if_ex {C : QQ.Ctx} {ρ ρ' : QQ.Env} {t : T} {a b : Ss} {c : Nat} {p : D} {w' : W} (h : evT C ρ t w = .ex c p ρ' w') : evS C (.ifs t a b) ρ w = .ex c p ρ w' := by
  show ((evT C ρ t w).env ρ).bind _ = _
  rw [h]
  rfl
theorem s_needst_ex {n : Nat} (h : 1 ≤ n) {x y : D} {c : Nat} (e : fnS P L (n - 1) 11 [x, y] ⟨w.cs, w.cs.length⟩ = .ex c .non [] ⟨w.cs, w.cs.length⟩) : fnS P L n 21 [x, y] w = .ex c .non [] w := by
  obtain ⟨m, rfl⟩ : ∃ m, n = m + 1 := ⟨n - 1, by omega⟩
  exact fn_ex (F := f21) rfl rfl (ss_ex (st_if_ex (t_nt_ex (t_val_ex (call_ex (es_cons (ev_var rfl) (es_cons (ev_var rfl) es_nil)) e))))) (.refl _) rfl
theorem s_needst {n : Nat} (h : 8 ≤ n) {tm : Tm} (htm : TmOk tm) {l s t : Int} (hr : rgB (spn l s t) = true) : fnS P L n 21 [dtm tm, spn l s t] w = if suitsB tm.up l s t = true then .ok (.non, w) else .ex 2 .non [] w := by
  obtain ⟨m, rfl⟩ : ∃ m, n = m + 1 := ⟨n - 1, by omega⟩
  have := fn_need (w := w) (L := L) (k := m) (F := f21) (vs := [dtm tm, spn l s t]) (f := 21) (q := !suitsB tm.up l s t) rfl rfl rfl (TG.nt (TG.val (EG.call (EsG.cons (EG.var rfl) fun _ _ => EsG.one (EG.var rfl)) fun w' g => s_suits (by omega) htm hr)))
  rw [this]
  cases suitsB tm.up l s t <;> rfl
end LW

set_option Elab.async false
set_option linter.all false
set_option maxRecDepth 100000
set_option maxHeartbeats 1000000
namespace LW
open QQ PySem
variable {L : Nat} {w : W}
@[irreducible] def TM : Nat := fac 63 * fac 59 ^ 4 * (fac 7 ^ 8 * fac 7 ^ 20)
@[irreducible] def TB : Nat := 17199 * fac 59 ^ 3 * (7 ^ 8 * 7 ^ 20)
theorem TM_bits : TM < 2 ^ 2300 := by decide +kernel
theorem TB_bits : TB < 2 ^ 1200 := by decide +kernel
theorem TM_pos : 0 < TM := by decide +kernel
theorem TB64 : 64 * TB < 2 ^ 1210 := by decide +kernel
theorem nums59 {t : List Tri} {n k : Int} (hn : 0 ≤ n ∧ n ≤ 8) (hk : -20 ≤ k ∧ k ≤ 20) (h : ∀ c ∈ t, (-2 ≤ c.1 ∧ c.1 ≤ 2) ∧ (-2 ≤ c.2.1 ∧ c.2.1 ≤ 2) ∧ -3 ≤ c.2.2 ∧ c.2.2 ≤ 3) : ∀ m ∈ (nums n k t).map Int.toNat, m ≤ 59 := by
  intro m hm
  obtain ⟨i, hi, rfl⟩ := List.mem_map.mp hm
  obtain ⟨c, hc, rfl⟩ := List.mem_map.mp hi
  obtain ⟨⟨h1, h2⟩, ⟨h3, h4⟩, h5, h6⟩ := h c hc
  unfold num
  have a1 : c.1 * n ≤ 2 * n := Int.mul_le_mul_of_nonneg_right h2 hn.1
  have a2 : c.2.1 * k ≤ 40 := by
    have e := Int.natAbs_mul c.2.1 k
    have e1 : c.2.1.natAbs ≤ 2 := by omega
    have e2 : k.natAbs ≤ 20 := by omega
    have e3 : c.2.1.natAbs * k.natAbs ≤ 2 * 20 := Nat.mul_le_mul e1 e2
    omega
  omega
theorem pow_le' {a m n : Nat} (ha : 1 ≤ a) (h : m ≤ n) : a ^ m ≤ a ^ n := Nat.pow_le_pow_right ha h
theorem tq_SB {t : Tm} (ht : TmOk t) {n k : Int} (hn : 0 ≤ n ∧ n ≤ 8) (hk : -20 ≤ k ∧ k ≤ 20) : SB TM TB (tq t n k) := by
  have n1 := nums59 hn hk ht.up.2
  have n2 := nums59 hn hk ht.dn.2
  have l1 : ((nums n k t.up).map Int.toNat).length ≤ 3 := by unfold nums; simp; exact ht.up.1
  have l2 : ((nums n k t.dn).map Int.toNat).length ≤ 4 := by unfold nums; simp; exact ht.dn.1
  have vb := bv_SB (n := n) (k := k) (by omega) (by omega) ht.p
  have px := pw_SB (k := n) (K := 8) ht.x.1 ht.x.2.1 (by omega)
  have py := pw_SB (k := k) (K := 20) ht.y.1 ht.y.2.1 (by omega)
  unfold tq
  generalize (nums n k t.up).map Int.toNat = U at *
  generalize (nums n k t.dn).map Int.toNat = V at *
  have hU : pf 1 U ≤ fac 59 ^ 3 := by
    have h1 := Nat.le_of_dvd (Nat.mul_pos Nat.one_pos (Nat.pow_pos (fac_pos 59))) (pf_dvd (a := 1) n1)
    rw [Nat.one_mul] at h1
    exact Nat.le_trans h1 (pow_le' (fac_pos 59) l1)
  have hV : pf 1 V ∣ fac 59 ^ 4 := by
    have h1 := pf_dvd (a := 1) n2
    rw [Nat.one_mul] at h1
    exact Nat.dvd_trans h1 (fac_pow_dvd (Nat.dvd_refl _) l2)
  have vp := pf_pos (ns := V) (a := 1) (by decide)
  have fb : SB (fac 59 ^ 4) (fac 59 ^ 3) (nf (pf 1 U : Nat) (pf 1 V : Nat)) := by
    refine nf_SB (by omega) (Int.natCast_dvd_natCast.mpr hV) ?_
    simp only [Int.natAbs_natCast]
    have : fac 59 ^ 3 * 1 ≤ fac 59 ^ 3 * pf 1 V := Nat.mul_le_mul_left _ vp
    omega
  unfold TM TB
  exact mul_SB (mul_SB vb fb) (mul_SB px py)
/-- the number, 0 where a bottom is below 0 -/
def vq (t : Tm) (n k : Int) : Q := if min0 (nums n k t.dn) < 0 then (0, 1) else tq t n k
theorem vq_SB {t : Tm} (ht : TmOk t) {n k : Int} (hn : 0 ≤ n ∧ n ≤ 8) (hk : -20 ≤ k ∧ k ≤ 20) : SB TM TB (vq t n k) := by
  unfold vq
  split
  · exact (zero_SB TM).mono (Nat.dvd_refl _) (Nat.zero_le _)
  · exact tq_SB ht hn hk
theorem tv_vq {t : Tm} {n k : Int} (h : ¬ min0 (nums n k t.up) < 0) : tv t n k = pr (vq t n k) := by
  unfold tv vq
  rw [if_neg h]
  split <;> rfl
/-- where a range suits, the numbers of the tops are none below 0 -/
theorem suits_tops {t : Tm} (ht : TmOk t) {l s st n k : Int} (hs : suitsB t.up l s st = true) (hn : 0 ≤ n) (h1 : l ≤ k) (h2 : k ≤ s * n + st + 1) : ¬ min0 (nums n k t.up) < 0 := by
  rw [min0_lt]
  rintro ⟨j, hj, hlt⟩
  obtain ⟨c, hc, rfl⟩ := List.mem_map.mp hj
  have hu := List.all_eq_true.mp hs c hc
  simp only [suitB, Bool.and_eq_true, decide_eq_true_eq] at hu
  obtain ⟨a1, a2, a3⟩ := hu
  have a0 := ht.u0 c hc
  unfold num at hlt
  have z1 : 0 ≤ c.1 * n := Int.mul_nonneg a0 hn
  by_cases hb : 0 ≤ c.2.1
  · have : c.2.1 * l ≤ c.2.1 * k := Int.mul_le_mul_of_nonneg_left h1 hb
    omega
  · have z2 : c.2.1 * (s * n + st + 1) ≤ c.2.1 * k := Int.mul_le_mul_of_nonpos_left (by omega) h2
    have z3 : 0 ≤ (c.1 + c.2.1 * s) * n := Int.mul_nonneg a3 hn
    have e1 : c.2.1 * (s * n + st + 1) = c.2.1 * s * n + c.2.1 * (st + 1) := by rw [Int.add_assoc, Int.mul_add, Int.mul_assoc]
    have e2 : (c.1 + c.2.1 * s) * n = c.1 * n + c.2.1 * s * n := by rw [Int.add_mul]
    omega
end LW

set_option Elab.async false
set_option linter.all false
set_option maxRecDepth 100000
set_option maxHeartbeats 1000000
namespace LW
open QQ PySem
variable {L : Nat} {w : W}
theorem s_add2 {n a b : Nat} (h : 2 ≤ n) {r s : Q} (hr : PB a r) (hs : PB b s) (hab : a + b < 100000000) (hd : Bd 8000 (r.2 * s.2)) : fnS P L n 40 [pr r, pr s] w = .ok (pr (addp r s), w) := by
  obtain ⟨m, rfl⟩ : ∃ m, n = m + 1 := ⟨n - 1, by omega⟩
  rw [fnS_at (F := f40) rfl rfl]
  have m1 : mulOk r.1 s.2 = true := hr.n.mulOk hs.d (by omega)
  have m2 : mulOk r.2 s.2 = true := hr.d.mulOk hs.d (by omega)
  have m3 : mulOk s.1 r.2 = true := hs.n.mulOk hr.d (by omega)
  have c1 : ∀ w', fnS P L m 44 [.int (r.1 * s.2 + s.1 * r.2), .int (r.2 * s.2)] w' = .ok (pr (addp r s), w') := fun w' => s_lowest (by omega) (Int.ne_of_gt (Int.mul_pos hr.p hs.p)) hd
  obtain ⟨r1, r2⟩ := r
  obtain ⟨s1, s2⟩ := s
  simp only at *
  by_cases h1 : r2 = 1
  · by_cases h2 : s2 = 1
    · subst h1 h2
      simp [f40, b40, pr, evSs, evS, evT, evAll, evAny, evE, evEs, evAnd, evOr, evTg, evTgs, tgsLen, evIt, evSrc, setAll, bind_ok, bind_ex, bind_bad, env_ok, env_ex, env_bad, calm_ok, ofO, fin, opSem, opInt, opAug, cpSem, eqSem, ixSem, toP_int, toP_bl, toP_non, toP_tup, optAll, items, L2.atI, L2.ixN, flat, flats, PyData.eqv, bltSem, isiSem, tyOf, QQ.line, cutW_same, addp, nf_one]
    · simp [f40, b40, pr, evSs, evS, evT, evAll, evAny, evE, evEs, evAnd, evOr, evTg, evTgs, tgsLen, evIt, evSrc, setAll, bind_ok, bind_ex, bind_bad, env_ok, env_ex, env_bad, calm_ok, ofO, fin, opSem, opInt, opAug, cpSem, eqSem, ixSem, toP_int, toP_bl, toP_non, toP_tup, optAll, items, L2.atI, L2.ixN, flat, flats, PyData.eqv, bltSem, isiSem, tyOf, QQ.line, h1, h2, m1, m2, m3, cutW_same] at c1 m1 m2 m3 ⊢
      simp [c1, m1, m2, m3, evSs, evS, evT, evAll, evAny, evE, evEs, evAnd, evOr, evTg, evTgs, tgsLen, evIt, evSrc, setAll, bind_ok, bind_ex, bind_bad, env_ok, env_ex, env_bad, calm_ok, ofO, fin, opSem, opInt, opAug, cpSem, eqSem, ixSem, toP_int, toP_bl, toP_non, toP_tup, optAll, items, L2.atI, L2.ixN, flat, flats, PyData.eqv, bltSem, isiSem, tyOf, QQ.line, cutW_same, addp, h1]
  · simp [f40, b40, pr, evSs, evS, evT, evAll, evAny, evE, evEs, evAnd, evOr, evTg, evTgs, tgsLen, evIt, evSrc, setAll, bind_ok, bind_ex, bind_bad, env_ok, env_ex, env_bad, calm_ok, ofO, fin, opSem, opInt, opAug, cpSem, eqSem, ixSem, toP_int, toP_bl, toP_non, toP_tup, optAll, items, L2.atI, L2.ixN, flat, flats, PyData.eqv, bltSem, isiSem, tyOf, QQ.line, h1, m1, m2, m3, cutW_same] at c1 ⊢
    simp [c1, evSs, evS, evT, evAll, evAny, evE, evEs, evAnd, evOr, evTg, evTgs, tgsLen, evIt, evSrc, setAll, bind_ok, bind_ex, bind_bad, env_ok, env_ex, env_bad, calm_ok, ofO, fin, opSem, opInt, opAug, cpSem, eqSem, ixSem, toP_int, toP_bl, toP_non, toP_tup, optAll, items, L2.atI, L2.ixN, flat, flats, PyData.eqv, bltSem, isiSem, tyOf, QQ.line, cutW_same]
theorem s_plus2 {n a b : Nat} (h : 3 ≤ n) (hL : 20000 ≤ L) {r s : Q} (hr : PB a r) (hs : PB b s) (hab : a + b < 100000000) (hd : Bd 8000 (r.2 * s.2)) : fnS P L n 17 [pr r, pr s] w = .ok (pr (addp r s), w) := by
  obtain ⟨m, rfl⟩ : ∃ m, n = m + 1 := ⟨n - 1, by omega⟩
  rw [fnS_at (F := f17) rfl rfl]
  have m1 : mulOk r.1 s.2 = true := hr.n.mulOk hs.d (by omega)
  have m2 : mulOk r.2 s.2 = true := hr.d.mulOk hs.d (by omega)
  have m3 : mulOk s.1 r.2 = true := hs.n.mulOk hr.d (by omega)
  have c1 : ∀ w', fnS P L m 26 [.int (r.1 * s.2 + s.1 * r.2), .int (r.2 * s.2)] w' = .ok (pr (addp r s), w') := fun w' => s_lratio (by omega) hL (Int.ne_of_gt (Int.mul_pos hr.p hs.p)) hd
  simp [f17, b17, pr, evSs, evS, evT, evAll, evAny, evE, evEs, evAnd, evOr, evTg, evTgs, tgsLen, evIt, evSrc, setAll, bind_ok, bind_ex, bind_bad, env_ok, env_ex, env_bad, calm_ok, ofO, fin, opSem, opInt, opAug, cpSem, eqSem, ixSem, toP_int, toP_bl, toP_non, toP_tup, optAll, items, L2.atI, L2.ixN, flat, flats, PyData.eqv, bltSem, isiSem, tyOf, QQ.line, m1, m2, m3] at c1 ⊢
  simp [c1, evSs, evS, evT, evAll, evAny, evE, evEs, evAnd, evOr, evTg, evTgs, tgsLen, evIt, evSrc, setAll, bind_ok, bind_ex, bind_bad, env_ok, env_ex, env_bad, calm_ok, ofO, fin, opSem, opInt, opAug, cpSem, eqSem, ixSem, toP_int, toP_bl, toP_non, toP_tup, optAll, items, L2.atI, L2.ixN, flat, flats, PyData.eqv, bltSem, isiSem, tyOf, QQ.line, cutW_same]
/-- lo, lo + 1, .. -/
def kseq (lo : Int) : Nat → List Int
  | 0 => []
  | n + 1 => lo :: kseq (lo + 1) n
theorem rangeD_kseq : ∀ (n : Nat) (lo : Int), rangeD lo n = (kseq lo n).map .int
  | 0, lo => rfl
  | n + 1, lo => by
    have ih := rangeD_kseq n (lo + 1)
    unfold rangeD at *
    rw [List.range_succ_eq_map, List.map_cons, List.map_map]
    show _ :: _ = D.int lo :: _
    congr 1
    · simp
    · rw [← ih]
      apply List.map_congr_left
      intro i _
      show D.int _ = D.int _
      congr 1
      simp
      omega
theorem kseq_mem : ∀ (n : Nat) (lo k : Int), k ∈ kseq lo n → lo ≤ k ∧ k < lo + n
  | 0, lo, k, h => by cases h
  | n + 1, lo, k, h => by
    rcases List.mem_cons.mp h with rfl | h
    · omega
    · have := kseq_mem n (lo + 1) k h
      omega
theorem kseq_len : ∀ (n : Nat) (lo : Int), (kseq lo n).length = n
  | 0, lo => rfl
  | n + 1, lo => by simp [kseq, kseq_len n]
def sumF (t : Tm) (n : Int) (ks : List Int) (acc : Q) : Q := ks.foldl (fun acc k => addp acc (vq t n k)) acc
def smB (fa ft : Nat) : Ss := .cons (.set 4 (.call fa (.cons (.var 4) (.cons (.call ft (.cons (.var 0) (.cons (.var 1) (.cons (.var 5) .nil)))) .nil)))) (.nil)
theorem sm_loop {C : QQ.Ctx} {fa ft : Nat} {t : Tm} (ht : TmOk t) {n : Int} (hn : 0 ≤ n ∧ n ≤ 8) {lo hi : Option D}
    (hA : ∀ {r s : Q} {a b : Nat}, PB a r → PB b s → a + b < 100000000 → Bd 8000 (r.2 * s.2) → C.call fa [pr r, pr s] w = .ok (pr (addp r s), w)) : ∀ (ks : List Int) (acc : Q) (i : Nat) (y : Option D), (∀ k ∈ ks, (-20 ≤ k ∧ k ≤ 20) ∧ C.call ft [dtm t, .int n, .int k] w = .ok (pr (vq t n k), w)) → SB TM (i * TB) acc → i + ks.length ≤ 64 →
    ∃ y', evFor (turnOf C (.nm 5) (smB fa ft)) (ks.map .int) [some (dtm t), some (.int n), lo, hi, some (pr acc), y] w = .ok (.nx, [some (dtm t), some (.int n), lo, hi, some (pr (sumF t n ks acc)), y'], w) ∧ SB TM ((i + ks.length) * TB) (sumF t n ks acc)
  | [], acc, i, y, _, hs, _ => ⟨y, rfl, hs⟩
  | k :: ks, acc, i, y, hk, hs, hl => by
    obtain ⟨⟨k1, k2⟩, hB⟩ := hk k List.mem_cons_self
    have vS := vq_SB ht hn ⟨k1, k2⟩
    have bits : i * TB < 2 ^ 1210 := by
      have h1 : i * TB ≤ 64 * TB := Nat.mul_le_mul_right _ (by simp at hl; omega)
      exact Nat.lt_of_le_of_lt h1 TB64
    have p1 := hs.pb TM_pos TM_bits bits
    have p2 := vS.pb TM_pos TM_bits TB_bits
    have hd : Bd 8000 (acc.2 * (vq t n k).2) := ((hs.bd2 TM_pos TM_bits).mul (vS.bd2 TM_pos TM_bits)).mono (by decide)
    have hS2 : SB TM ((i + 1) * TB) (addp acc (vq t n k)) := by
      have := add_SB hs vS TM_pos
      rwa [← Nat.succ_mul] at this
    have ih := sm_loop (C := C) (fa := fa) (ft := ft) ht hn (lo := lo) (hi := hi) hA ks (addp acc (vq t n k)) (i + 1) (some (.int k)) (fun k' hk' => hk k' (List.mem_cons_of_mem _ hk')) hS2 (by simp at hl; omega)
    obtain ⟨y', e, hS⟩ := ih
    refine ⟨y', ?_, by rw [List.length_cons, show i + (ks.length + 1) = i + 1 + ks.length by omega]; exact hS⟩
    rw [List.map_cons]
    refine (for_nx (ρ' := [some (dtm t), some (.int n), lo, hi, some (pr (addp acc (vq t n k))), some (.int k)]) (w' := w) ?_).trans e
    exact (ss_nx (st_set (call_ev (es_cons (ev_var rfl) (es_cons (call_ev (es_cons (ev_var rfl) (es_cons (ev_var rfl) (es_cons (ev_var rfl) es_nil))) hB) es_nil)) (hA p1 p2 (by decide) hd)))).trans rfl
/-- the sum from lo to hi -/
def sumV (t : Tm) (n lo hi : Int) : Q := sumF t n (kseq lo (hi + 1 - lo).toNat) (0, 1)
theorem bsb_eq : f32.body = .cons (.set 4 (.glob 3)) (.cons (.for (.nm 5) (.rng2 (.var 2) (.bin .add (.var 3) (.cst (.int 1)))) (smB 40 41)) (.cons (.ret (.var 4)) (.nil))) := rfl
theorem bsf_eq : f9.body = .cons (.set 4 (.tup (.cons (.cst (.int 0)) (.cons (.cst (.int 1)) .nil)))) (.cons (.for (.nm 5) (.rng2 (.var 2) (.bin .add (.var 3) (.cst (.int 1)))) (smB 17 13)) (.cons (.ret (.var 4)) (.nil))) := rfl
structure RgOk (t : Tm) (n lo hi : Int) : Prop where
  rn : 0 ≤ n ∧ n ≤ 8
  rlo : -20 ≤ lo
  rhi : hi ≤ 20
  rup : ∀ k, lo ≤ k → k ≤ hi → ¬ min0 (nums n k t.up) < 0
theorem RgOk.big {t : Tm} {n lo hi : Int} (h : RgOk t n lo hi) (hl : lo ≤ hi + 1) : big lo = true ∧ big (hi + 1) = true := by
  have h1 := h.rlo
  have h2 := h.rhi
  unfold QQ.big
  constructor
  · simp; omega
  · simp; omega
theorem s_sumb {d : Nat} (h : 11 ≤ d) (hL : 20000 ≤ L) {t : Tm} (ht : TmOk t) {n lo hi : Int} (hr : RgOk t n lo hi) (hl : lo ≤ hi + 1) : fnS P L d 32 [dtm t, .int n, .int lo, .int hi] w = .ok (pr (sumV t n lo hi), w) := by
  obtain ⟨m, rfl⟩ : ∃ m, d = m + 1 := ⟨d - 1, by omega⟩
  have a1 := hr.rlo
  have a2 := hr.rhi
  obtain ⟨y, e, _⟩ := sm_loop (w := ⟨w.cs, w.cs.length⟩) (C := ⟨P, fnS P L m, L⟩) (fa := 40) (ft := 41) ht hr.rn (lo := some (.int lo)) (hi := some (.int hi)) (fun h1 h2 h3 h4 => s_add2 (by omega) h1 h2 h3 h4) (kseq lo (hi + 1 - lo).toNat) (0, 1) 0 none (fun k hk => by
    have := kseq_mem _ _ _ hk
    refine ⟨by omega, ?_⟩
    have := s_term (L := L) (w := ⟨w.cs, w.cs.length⟩) (d := m) (by omega) hL ht (n := n) (k := k) ⟨hr.rn.1, by have := hr.rn.2; omega⟩ (by omega)
    rw [tv_vq (hr.rup k (by omega) (by omega))] at this
    exact this) (by rw [Nat.zero_mul]; exact zero_SB _) (by rw [kseq_len]; omega)
  obtain ⟨b1, b2⟩ := hr.big hl
  refine fn_rt0 (F := f32) rfl rfl (ρ' := [some (dtm t), some (.int n), some (.int lo), some (.int hi), some (pr (sumV t n lo hi)), y]) ?_ rfl
  rw [bsb_eq]
  refine (ss_nx (st_set (d := pr (0, 1)) rfl)).trans ((ss_nx (st_for (it_rng2 (i := lo) (j := hi + 1) (ev_var rfl) (ev_bin (ev_var rfl) ev_cst op_add) b1 b2) ?_)).trans (ss_rt (st_ret (ev_var rfl))))
  rw [rangeD_kseq]
  exact e
theorem s_lsum {d : Nat} (h : 12 ≤ d) (hL : 20000 ≤ L) {t : Tm} (ht : TmOk t) {n lo hi : Int} (hr : RgOk t n lo hi) (hl : lo ≤ hi + 1) : fnS P L d 9 [dtm t, .int n, .int lo, .int hi] w = .ok (pr (sumV t n lo hi), w) := by
  obtain ⟨m, rfl⟩ : ∃ m, d = m + 1 := ⟨d - 1, by omega⟩
  have a1 := hr.rlo
  have a2 := hr.rhi
  obtain ⟨y, e, _⟩ := sm_loop (w := ⟨w.cs, w.cs.length⟩) (C := ⟨P, fnS P L m, L⟩) (fa := 17) (ft := 13) ht hr.rn (lo := some (.int lo)) (hi := some (.int hi)) (fun h1 h2 h3 h4 => s_plus2 (by omega) hL h1 h2 h3 h4) (kseq lo (hi + 1 - lo).toNat) (0, 1) 0 none (fun k hk => by
    have := kseq_mem _ _ _ hk
    refine ⟨by omega, ?_⟩
    have := s_lat (L := L) (w := ⟨w.cs, w.cs.length⟩) (d := m) (by omega) hL ht (n := n) (k := k) ⟨hr.rn.1, by have := hr.rn.2; omega⟩ (by omega)
    rw [tv_vq (hr.rup k (by omega) (by omega))] at this
    exact this) (by rw [Nat.zero_mul]; exact zero_SB _) (by rw [kseq_len]; omega)
  obtain ⟨b1, b2⟩ := hr.big hl
  refine fn_rt0 (F := f9) rfl rfl (ρ' := [some (dtm t), some (.int n), some (.int lo), some (.int hi), some (pr (sumV t n lo hi)), y]) ?_ rfl
  rw [bsf_eq]
  refine (ss_nx (st_set (d := pr (0, 1)) rfl)).trans ((ss_nx (st_for (it_rng2 (i := lo) (j := hi + 1) (ev_var rfl) (ev_bin (ev_var rfl) ev_cst op_add) b1 b2) ?_)).trans (ss_rt (st_ret (ev_var rfl))))
  rw [rangeD_kseq]
  exact e
theorem s_sumat {d : Nat} (h : 12 ≤ d) (hL : 20000 ≤ L) {t : Tm} (ht : TmOk t) {n l s st : Int} (hr : RgOk t n l (s * n + st)) (hl : l ≤ s * n + st + 1) : fnS P L d 23 [dtm t, spn l s st, .int n] w = .ok (pr (sumV t n l (s * n + st)), w) := by
  obtain ⟨m, rfl⟩ : ∃ m, d = m + 1 := ⟨d - 1, by omega⟩
  have mo : mulOk s n = true := mulOk_small (by have := hr.rn; omega)
  exact fn_rt0 (F := f23) (ρ' := [some (dtm t), some (spn l s st), some (.int n)]) rfl rfl (ss_rt (st_ret (call_ev (es_cons (ev_var rfl) (es_cons (ev_var rfl) (es_cons (ev_idx (ev_var rfl) ev_cst rfl) (es_cons (ev_bin (ev_bin (ev_idx (ev_var rfl) ev_cst rfl) (ev_var rfl) (op_mul mo)) (ev_idx (ev_var rfl) ev_cst rfl) op_add) es_nil)))) (s_sumb (by omega) hL ht hr hl)))) rfl
theorem s_total {d : Nat} (h : 13 ≤ d) (hL : 20000 ≤ L) {t : Tm} (ht : TmOk t) {n l s st : Int} (hg : rgB (spn l s st) = true) (hs : suitsB t.up l s st = true) (hr : RgOk t n l (s * n + st)) (hl : l ≤ s * n + st + 1) : fnS P L d 12 [dtm t, spn l s st, .int n] w = .ok (pr (sumV t n l (s * n + st)), w) := by
  obtain ⟨m, rfl⟩ : ∃ m, d = m + 1 := ⟨d - 1, by omega⟩
  have c1 : fnS P L m 21 [dtm t, spn l s st] ⟨w.cs, w.cs.length⟩ = .ok (.non, ⟨w.cs, w.cs.length⟩) := (s_needst (w := ⟨w.cs, w.cs.length⟩) (by omega) ht hg).trans (by rw [hs]; rfl)
  have c2 : fnS P L m 22 [.int n] ⟨w.cs, w.cs.length⟩ = .ok (.non, ⟨w.cs, w.cs.length⟩) := (s_needix (w := ⟨w.cs, w.cs.length⟩) (by omega) (.inr ⟨_, rfl⟩)).trans (by
    have : inR (.int n) 0 400 = true := by have := hr.rn; simp [inR]; omega
    rw [this]; rfl)
  exact fn_rt0 (F := f12) (ρ' := [some (dtm t), some (spn l s st), some (.int n)]) rfl rfl ((ss_nx (st_ex (call_ev (es_cons (ev_var rfl) (es_cons (ev_var rfl) es_nil)) c1))).trans ((ss_nx (st_ex (call_ev (es_cons (ev_var rfl) es_nil) c2))).trans (ss_rt (st_ret (call_ev (es_cons (ev_var rfl) (es_cons (ev_var rfl) (es_cons (ev_var rfl) es_nil))) (s_sumat (by omega) hL ht hr hl)))))) rfl
/-- an error of total's first part -/
theorem s_total_ex {d : Nat} (h : 3 ≤ d) {x y z : D} {c : Nat} (e : fnS P L (d - 1) 21 [x, y] ⟨w.cs, w.cs.length⟩ = .ex c .non [] ⟨w.cs, w.cs.length⟩) : fnS P L d 12 [x, y, z] w = .ex c .non [] w := by
  obtain ⟨m, rfl⟩ : ∃ m, d = m + 1 := ⟨d - 1, by omega⟩
  exact fn_ex (F := f12) rfl rfl (ss_ex (st_ex_ex (call_ex (es_cons (ev_var rfl) (es_cons (ev_var rfl) es_nil)) e))) (.refl _) rfl
theorem s_total_ix {d : Nat} (h : 13 ≤ d) {t : Tm} (ht : TmOk t) {l s st : Int} {x : D} (hg : rgB (spn l s st) = true) (hs : suitsB t.up l s st = true) (hp : Pl w x) (hx : inR x 0 400 = false) : fnS P L d 12 [dtm t, spn l s st, x] w = .ex 3 .non [] w := by
  obtain ⟨m, rfl⟩ : ∃ m, d = m + 1 := ⟨d - 1, by omega⟩
  have c1 : fnS P L m 21 [dtm t, spn l s st] ⟨w.cs, w.cs.length⟩ = .ok (.non, ⟨w.cs, w.cs.length⟩) := (s_needst (w := ⟨w.cs, w.cs.length⟩) (by omega) ht hg).trans (by rw [hs]; rfl)
  have c2 : fnS P L m 22 [x] ⟨w.cs, w.cs.length⟩ = .ex 3 .non [] ⟨w.cs, w.cs.length⟩ := (s_needix (w := ⟨w.cs, w.cs.length⟩) (by omega) hp).trans (by rw [hx]; rfl)
  exact fn_ex (F := f12) rfl rfl ((ss_nx (st_ex (call_ev (es_cons (ev_var rfl) (es_cons (ev_var rfl) es_nil)) c1))).trans (ss_ex (st_ex_ex (call_ex (es_cons (ev_var rfl) es_nil) c2)))) (.refl _) rfl
end LW

set_option Elab.async false
set_option linter.all false
set_option maxRecDepth 100000
set_option maxHeartbeats 1000000
namespace LW
open QQ PySem
variable {L : Nat} {w : W}
/-! what the law knows -/
theorem one_ok : PB 6 (1, 1) ∧ QOk (1, 1) := ⟨⟨by unfold Bd; decide, by unfold Bd; decide, by decide⟩, by decide, by decide⟩
theorem polOk_one : POk [(1, 1)] := ⟨fun d hd => by rw [List.mem_singleton.mp hd]; exact one_ok.2, fun d hd => by simp at hd; subst hd; decide⟩
theorem int_ok {i : Int} (h : i.natAbs < 64) : PB 6 (i, 1) ∧ QOk (i, 1) := ⟨one_PB h, show (0 : Int) < 1 by decide, by unfold gc; simp⟩
structure PlOk (p : List (List Q)) : Prop where
  pa : p.length ≤ 2 ∧ ∀ q ∈ p, q.length ≤ 2 ∧ ∀ d ∈ q, PB 6 d
  pc : p ≠ [] ∧ BOk p
theorem pl_unit : PlOk [[(1, 1)]] := ⟨⟨by simp, fun q hq => by rw [List.mem_singleton.mp hq]; exact ⟨by simp, fun d hd => by rw [List.mem_singleton.mp hd]; exact one_ok.1⟩⟩, by simp, fun q hq => by rw [List.mem_singleton.mp hq]; exact polOk_one, fun q hq => by simp at hq; subst hq; simp⟩
theorem pl_k : PlOk [[], [(1, 1)]] := by
  refine ⟨⟨by simp, fun q hq => ?_⟩, by simp, fun q hq => ?_, fun q hq => by simp at hq; subst hq; simp⟩
  · simp at hq
    rcases hq with rfl | rfl
    · simp
    · exact ⟨by simp, fun d hd => by rw [List.mem_singleton.mp hd]; exact one_ok.1⟩
  · simp at hq
    rcases hq with rfl | rfl
    · exact ⟨by simp, by simp⟩
    · exact polOk_one
theorem pl_lin {i : Int} (h : i.natAbs < 64) : PlOk [[(i, 1), (1, 1)]] := by
  obtain ⟨i1, i2⟩ := int_ok h
  refine ⟨⟨by simp, fun q hq => ?_⟩, by simp, fun q hq => ?_, fun q hq => by simp at hq; subst hq; simp⟩
  · simp at hq
    subst hq
    refine ⟨by simp, fun d hd => ?_⟩
    simp at hd
    rcases hd with rfl | rfl
    · exact i1
    · exact one_ok.1
  · simp at hq
    subst hq
    refine ⟨fun d hd => ?_, fun d hd => by simp at hd; subst hd; decide⟩
    simp at hd
    rcases hd with rfl | rfl
    · exact i2
    · exact one_ok.2
theorem tm_mk {p : List (List Q)} {x y : Q} {u v : List Tri} (hp : PlOk p) (hx : x ∈ numQ) (hy : y ∈ numQ) (hu : u.length ≤ 3 ∧ ∀ c ∈ u, 0 ≤ c.1 ∧ c.1 ≤ 2 ∧ -2 ≤ c.2.1 ∧ c.2.1 ≤ 2 ∧ -3 ≤ c.2.2 ∧ c.2.2 ≤ 3) (hv : v.length ≤ 4 ∧ ∀ c ∈ v, -2 ≤ c.1 ∧ c.1 ≤ 2 ∧ -2 ≤ c.2.1 ∧ c.2.1 ≤ 2 ∧ -3 ≤ c.2.2 ∧ c.2.2 ≤ 3) : TmOk ⟨p, x, y, u, v⟩ :=
  { p := hp.pa, pc := hp.pc, x := numQ_ok x hx, y := numQ_ok y hy, up := ⟨hu.1, fun c hc => by have := hu.2 c hc; omega⟩, u0 := fun c hc => (hu.2 c hc).1, dn := ⟨hv.1, fun c hc => by have := hv.2 c hc; omega⟩ }
theorem eq_int {i j : Int} {w : W} : cpSem .eq (.int i) (.int j) w = some (decide (i = j)) := by
  have : cpSem .eq (.int i) (.int j) w = eqSem (.int i) (.int j) w := rfl
  rw [this]
  unfold eqSem
  rw [toP_int, toP_int]
  by_cases h : i = j
  · simp [PyData.eqv, h]
  · simp [PyData.eqv, h]
theorem eq_int_T {i j : Int} {w : W} (h : i = j) : cpSem .eq (.int i) (.int j) w = some true := by rw [eq_int, decide_eq_true h]
theorem eq_int_F {i j : Int} {w : W} (h : i ≠ j) : cpSem .eq (.int i) (.int j) w = some false := by rw [eq_int, decide_eq_false h]
def kX : List D := [.tup [.int 1, .int 1], .tup [.int 2, .int 1], .tup [.int 1, .int 2]]
def kY : List D := [.tup [.int 1, .int 1], .tup [.int (-1), .int 1], .tup [.int 3, .int 1]]
theorem kX_mem {d : D} (h : d ∈ kX) : ∃ x ∈ numQ, d = pr x := by
  simp only [kX, List.mem_cons, List.not_mem_nil, or_false] at h
  rcases h with rfl | rfl | rfl
  · exact ⟨(1, 1), by decide, rfl⟩
  · exact ⟨(2, 1), by decide, rfl⟩
  · exact ⟨(1, 2), by decide, rfl⟩
theorem kY_mem {d : D} (h : d ∈ kY) : ∃ x ∈ numQ, d = pr x := by
  simp only [kY, List.mem_cons, List.not_mem_nil, or_false] at h
  rcases h with rfl | rfl | rfl
  · exact ⟨(1, 1), by decide, rfl⟩
  · exact ⟨(-1, 1), by decide, rfl⟩
  · exact ⟨(3, 1), by decide, rfl⟩
theorem s_lknown {n j : Nat} (h : 2 ≤ n) (hw : Wl j w) : ∃ t w', fnS P L n 4 [.ref j] w = .ok (dtm t, w') ∧ TmOk t ∧ Dr j w w' := by
  obtain ⟨m, rfl⟩ : ∃ m, n = m + 1 := ⟨n - 1, by omega⟩
  have dr : ∀ {many : Int} {w0 : W}, Wl j w0 → 0 < many → many ≤ 1000 → ∃ d w', fnS P L m 2 [.ref j, .int many] w0 = .ok (.int d, w') ∧ 0 ≤ d ∧ d < many ∧ Dr j w0 w' := fun h0 h1 h2 => s_draw (by omega) h0 h1 (by omega)
  have dc : ∀ {ρ : QQ.Env} {many : Int} {d : D} {w0 w' : W}, ρ[0]? = some (some (.ref j)) → fnS P L m 2 [.ref j, .int many] w0 = .ok (d, w') → evE ⟨P, fnS P L m, L⟩ ρ (.call 2 (.cons (.var 0) (.cons (.cst (.int many)) .nil))) w0 = .ok (d, w') := fun hr e => call_ev (es_cons (ev_var hr) (es_cons ev_cst es_nil)) e
  have hW0 := hw.same (w' := ⟨w.cs, w.cs.length⟩) rfl
  have g1 : Gr (⟨w.cs, w.cs.length⟩ : W) ⟨w.cs ++ [.lst kX], w.cs.length⟩ := .one _ _
  have hW1 := hW0.gr g1
  obtain ⟨d1, w2, e2, a2, b2, D2⟩ := dr hW1 (many := 3) (by decide) (by decide)
  have n1 : w.cs.length ≠ j := by have := hW0.lt; simp at this; omega
  have y1 : W.lst ⟨w.cs ++ [.lst kX], w.cs.length⟩ w.cs.length = some kX := by simp [W.lst]
  obtain ⟨x0, hx0, ex0⟩ := atI_mem (l := kX) a2 (by simpa [kX] using b2)
  obtain ⟨x, hx, rfl⟩ := kX_mem hx0
  have x2 := (ix_ref (D2.kp.lst n1 y1)).trans ex0
  have g3 : Gr w2 ⟨w2.cs ++ [.lst kY], w2.lo⟩ := .one _ _
  have D2' := Gr.dr g1 D2
  obtain ⟨d3, w4, e4, a4, b4, D4⟩ := dr (D2.wl.gr g3) (many := 3) (by decide) (by decide)
  have n3 : w2.cs.length ≠ j := by have := D2.wl.lt; omega
  obtain ⟨y0, hy0, ey0⟩ := atI_mem (l := kY) a4 (by simpa [kY] using b4)
  obtain ⟨y, hy, rfl⟩ := kY_mem hy0
  have x4 := (ix_ref (D4.kp.lst n3 new_lst)).trans ey0
  have D4' := (D2'.gr g3).trans D4
  obtain ⟨d5, w6, e6, a6, b6, D6⟩ := dr D4.wl (many := 5) (by decide) (by decide)
  have D6' := D4'.trans D6
  -- the heads
  have par1 : ∀ ss, evSs ⟨P, fnS P L m, L⟩ (.cons (.par [1, 2, 3] (.cons (.tup (.cons (.tup (.cons (.tup (.cons (.cst (.int 1)) (.cons (.cst (.int 1)) .nil))) .nil)) .nil)) (.cons (.idx (.lst (.cons (.tup (.cons (.cst (.int 1)) (.cons (.cst (.int 1)) .nil))) (.cons (.tup (.cons (.cst (.int 2)) (.cons (.cst (.int 1)) .nil))) (.cons (.tup (.cons (.cst (.int 1)) (.cons (.cst (.int 2)) .nil))) .nil)))) (.call 2 (.cons (.var 0) (.cons (.cst (.int 3)) .nil)))) (.cons (.idx (.lst (.cons (.tup (.cons (.cst (.int 1)) (.cons (.cst (.int 1)) .nil))) (.cons (.tup (.cons (.neg (.cst (.int 1))) (.cons (.cst (.int 1)) .nil))) (.cons (.tup (.cons (.cst (.int 3)) (.cons (.cst (.int 1)) .nil))) .nil)))) (.call 2 (.cons (.var 0) (.cons (.cst (.int 3)) .nil)))) .nil)))) (.cons (.set 4 (.call 2 (.cons (.var 0) (.cons (.cst (.int 5)) .nil)))) ss)) [some (.ref j), none, none, none, none] ⟨w.cs, w.cs.length⟩ = evSs ⟨P, fnS P L m, L⟩ ss [some (.ref j), some (bpol [[(1, 1)]]), some (pr x), some (pr y), some (.int d5)] w6 := fun ss =>
    (ss_nx (st_par (es_cons (d := bpol [[(1, 1)]]) (w1 := ⟨w.cs, w.cs.length⟩) rfl (es_cons (ev_idx (w1 := ⟨w.cs ++ [.lst kX], w.cs.length⟩) (x := .ref w.cs.length) rfl (dc rfl e2) x2) (es_cons (ev_idx (w1 := ⟨w2.cs ++ [.lst kY], w2.lo⟩) (x := .ref w2.cs.length) rfl (dc rfl e4) x4) es_nil))) rfl)).trans (ss_nx (st_set (dc rfl e6)))
  have one : (1, 1) ∈ numQ := by decide
  have tF : ∀ {c : Int} {w0 : W} (_ : d5 ≠ c), evT ⟨P, fnS P L m, L⟩ [some (.ref j), some (bpol [[(1, 1)]]), some (pr x), some (pr y), some (.int d5)] (.val (.cmp .eq (.var 4) (.cst (.int c)))) w0 = .ok (false, w0) := fun hc => t_val (ev_cmp (ev_var rfl) ev_cst (eq_int_F hc))
  have tT : ∀ {c : Int} {w0 : W} (_ : d5 = c), evT ⟨P, fnS P L m, L⟩ [some (.ref j), some (bpol [[(1, 1)]]), some (pr x), some (pr y), some (.int d5)] (.val (.cmp .eq (.var 4) (.cst (.int c)))) w0 = .ok (true, w0) := fun hc => t_val (ev_cmp (ev_var rfl) ev_cst (eq_int_T hc))
  have fin : ∀ (t : Tm) (ρ' : QQ.Env) (w7 : W), evSs ⟨P, fnS P L m, L⟩ f4.body [some (.ref j), none, none, none, none] ⟨w.cs, w.cs.length⟩ = .ok (.rt (dtm t), ρ', w7) → TmOk t → Dr j ⟨w.cs, w.cs.length⟩ w7 → ∃ t w', fnS P L (m + 1) 4 [.ref j] w = .ok (dtm t, w') ∧ TmOk t ∧ Dr j w w' := fun t ρ' w7 e ht D => ⟨t, _, fn_rtw (F := f4) rfl rfl e, ht, Dr.cut hw D⟩
  have hd : d5 = 0 ∨ d5 = 1 ∨ d5 = 2 ∨ d5 = 3 ∨ d5 = 4 := by omega
  rcases hd with hd | hd | hd | hd | hd
  · exact fin ⟨[[(1, 1)]], x, y, [(1, 0, 0)], [(0, 1, 0), (1, -1, 0)]⟩ _ w6 ((par1 _).trans (ss_rt ((st_ifT (tT hd)).trans (ss_rt (st_ret rfl))))) (tm_mk pl_unit hx hy (by simp) (by simp)) D6'
  · exact fin ⟨[[], [(1, 1)]], x, y, [(1, 0, 0)], [(0, 1, 0), (1, -1, 0)]⟩ _ w6 ((par1 _).trans ((ss_nx ((st_ifF (tF (by omega))).trans rfl)).trans (ss_rt ((st_ifT (tT hd)).trans (ss_rt (st_ret rfl)))))) (tm_mk pl_k hx hy (by simp) (by simp)) D6'
  · exact fin ⟨[[(1, 1)]], x, (1, 1), [(1, 0, 0), (1, 0, 0)], [(0, 1, 0), (0, 1, 0), (1, -1, 0), (1, -1, 0)]⟩ _ w6 ((par1 _).trans ((ss_nx ((st_ifF (tF (by omega))).trans rfl)).trans ((ss_nx ((st_ifF (tF (by omega))).trans rfl)).trans (ss_rt ((st_ifT (tT hd)).trans (ss_rt (st_ret rfl))))))) (tm_mk pl_unit hx one (by simp) (by simp)) D6'
  · obtain ⟨d7, w8, e8, a8, b8, D8⟩ := dr D6.wl (many := 2) (by decide) (by decide)
    exact fin ⟨[[(1, 1)]], x, y, [(1, 0, d7)], [(1, -1, 0)]⟩ _ w8 ((par1 _).trans ((ss_nx ((st_ifF (tF (by omega))).trans rfl)).trans ((ss_nx ((st_ifF (tF (by omega))).trans rfl)).trans ((ss_nx ((st_ifF (tF (by omega))).trans rfl)).trans (ss_rt ((st_ifT (tT hd)).trans (ss_rt (st_ret (ev_tup (es_cons (ev_var rfl) (es_cons (ev_var rfl) (es_cons (ev_var rfl) (es_cons (ev_tup (es_cons (ev_tup (es_cons ev_cst (es_cons ev_cst (es_cons (dc rfl e8) es_nil))) (by unfold QQ.line; simp)) es_nil) (by unfold QQ.line; simp)) (es_cons (w1 := w8) rfl es_nil))))) (by unfold QQ.line; simp)))))))))) (tm_mk pl_unit hx hy (by simp; omega) (by simp)) (D6'.trans D8)
  · obtain ⟨d7, w8, e8, a8, b8, D8⟩ := dr D6.wl (many := 2) (by decide) (by decide)
    have last : ∀ {p : List (List Q)} {w9 : W}, PlOk p → Dr j w8 w9 → evE ⟨P, fnS P L m, L⟩ [some (.ref j), some (bpol [[(1, 1)]]), some (pr x), some (pr y), some (.int d5)] (.ifx (.val (.cmp .eq (.call 2 (.cons (.var 0) (.cons (.cst (.int 2)) .nil))) (.cst (.int 0)))) (.tup (.cons (.tup (.cons (.tup (.cons (.bin .add (.cst (.int 1)) (.call 2 (.cons (.var 0) (.cons (.cst (.int 3)) .nil)))) (.cons (.cst (.int 1)) .nil))) (.cons (.tup (.cons (.cst (.int 1)) (.cons (.cst (.int 1)) .nil))) .nil))) .nil)) (.var 1)) w6 = .ok (bpol p, w9) → ∃ t w', fnS P L (m + 1) 4 [.ref j] w = .ok (dtm t, w') ∧ TmOk t ∧ Dr j w w' := by
      intro p w9 hp D9 e9
      obtain ⟨d10, w10, e10, a10, b10, D10⟩ := dr D9.wl (many := 2) (by decide) (by decide)
      exact fin ⟨p, x, y, [], [(0, 1, d10)]⟩ _ w10 ((par1 _).trans ((ss_nx ((st_ifF (tF (by omega))).trans rfl)).trans ((ss_nx ((st_ifF (tF (by omega))).trans rfl)).trans ((ss_nx ((st_ifF (tF (by omega))).trans rfl)).trans ((ss_nx ((st_ifF (tF (by omega))).trans rfl)).trans (ss_rt (st_ret (ev_tup (es_cons e9 (es_cons (ev_var rfl) (es_cons (ev_var rfl) (es_cons (d := .tup []) (w1 := w9) rfl (es_cons (ev_tup (es_cons (ev_tup (es_cons ev_cst (es_cons ev_cst (es_cons (dc rfl e10) es_nil))) (by unfold QQ.line; simp)) es_nil) (by unfold QQ.line; simp)) es_nil))))) (by unfold QQ.line; simp))))))))) (tm_mk hp hx hy (by simp) (by simp; omega)) (((D6'.trans D8).trans D9).trans D10)
    by_cases h7 : d7 = 0
    · obtain ⟨d9, w9, e9, a9, b9, D9⟩ := dr D8.wl (many := 3) (by decide) (by decide)
      refine last (pl_lin (i := 1 + d9) (by omega)) D9 (ev_ifT (t_val (ev_cmp (dc rfl e8) ev_cst (eq_int_T h7))) ?_)
      exact ev_tup (es_cons (ev_tup (es_cons (ev_tup (es_cons (ev_bin ev_cst (dc rfl e9) op_add) (es_cons ev_cst es_nil)) (by unfold QQ.line; simp)) (es_cons rfl es_nil)) (by unfold QQ.line; simp)) es_nil) (by unfold QQ.line; simp)
    · exact last pl_unit (⟨D8.wl, .refl _ _, D8.lo⟩) (ev_ifF (t_val (ev_cmp (dc rfl e8) ev_cst (eq_int_F h7))) (ev_var rfl))
end LW

set_option Elab.async false
set_option linter.all false
set_option maxRecDepth 100000
set_option maxHeartbeats 1000000
namespace LW
open QQ PySem
variable {L : Nat} {w : W}
def tdH : Hs := .cons 0 (.cons (.set 3 (.cst (.str ("term" : PySem.Str)))) .nil) (.cons 1 (.cons (.set 3 (.cst (.str ("range" : PySem.Str)))) .nil) (.cons 2 (.cons (.set 3 (.cst (.str ("suited" : PySem.Str)))) .nil) (.cons 3 (.cons (.set 3 (.cst (.str ("index" : PySem.Str)))) .nil) (.cons 4 (.cons (.set 3 (.cst (.str ("other" : PySem.Str)))) .nil) (.nil)))))
def tdC : Ss := .cons (.set 4 (.call 12 (.cons (.var 0) (.cons (.var 1) (.cons (.var 2) .nil))))) (.nil)
def tdR : E := .ifx (.val (.cmp .ne (.var 3) (.cst (.str ("" : PySem.Str))))) (.var 3) (.lst (.cons (.var 4) .nil))
theorem btold_eq : f10.body = .cons (.asg (.tup (.cons (.nm 3) (.cons (.nm 4) (.nil)))) (.tup (.cons (.cst (.str ("" : PySem.Str))) (.cons (.cst (.non)) .nil)))) (.cons (.try_ tdC tdH) (.cons (.ret tdR) (.nil))) := rfl
theorem s_told {n : Nat} (h : 1 ≤ n) {x a b v : D} (hlo : w.lo ≤ w.cs.length) (e : fnS P L (n - 1) 12 [x, a, b] ⟨w.cs, w.cs.length⟩ = .ok (v, ⟨w.cs, w.cs.length⟩)) : fnS P L n 10 [x, a, b] w = .ok (.ref w.cs.length, ⟨w.cs ++ [.lst [v]], w.lo⟩) := by
  obtain ⟨m, rfl⟩ : ∃ m, n = m + 1 := ⟨n - 1, by omega⟩
  simp only [Nat.add_sub_cancel] at e
  have c0 : evSs ⟨P, fnS P L m, L⟩ tdC [some x, some a, some b, some (.str ("" : PySem.Str)), some .non] ⟨w.cs, w.cs.length⟩ = .ok (.nx, [some x, some a, some b, some (.str ("" : PySem.Str)), some v], ⟨w.cs, w.cs.length⟩) :=
    (ss_nx (st_set (call_ev (es_cons (ev_var rfl) (es_cons (ev_var rfl) (es_cons (ev_var rfl) es_nil))) e))).trans rfl
  have main := fn_rtw (P := P) (L := L) (k := m) (w := w) (vs := [x, a, b]) (f := 10) (F := f10) rfl rfl (by
    rw [btold_eq]
    exact (ss_nx (st_asg rfl rfl)).trans ((ss_nx (st_try c0)).trans (ss_rt (st_ret (ev_ifF (w1 := ⟨w.cs, w.cs.length⟩) (t_val (ev_cmp (ev_var rfl) ev_cst (ne_str (by decide +kernel) (by decide +kernel) (by decide +kernel)))) rfl)))))
  rw [main]
  have : cutW w ⟨w.cs ++ [.lst [v]], w.cs.length⟩ false = ⟨w.cs ++ [.lst [v]], w.lo⟩ := by
    unfold cutW
    rw [if_neg (by simp)]
    show (⟨_, min w.lo w.cs.length⟩ : W) = _
    rw [Nat.min_eq_left hlo]
  exact congrArg (fun z => R.ok (D.ref w.cs.length, z)) this
theorem s_told_x {n c : Nat} {word : PySem.Str} (h : 1 ≤ n) {x a b : D} (hh : ∀ m w', evHs ⟨P, fnS P L m, L⟩ tdH c .non [some x, some a, some b, some (.str ("" : PySem.Str)), some .non] w' = .ok (.nx, [some x, some a, some b, some (.str word), some .non], w')) (hw : PyData.strOk word = true) (hne : (!(word == ("" : PySem.Str))) = true) (e : fnS P L (n - 1) 12 [x, a, b] ⟨w.cs, w.cs.length⟩ = .ex c .non [] ⟨w.cs, w.cs.length⟩) : fnS P L n 10 [x, a, b] w = .ok (.str word, w) := by
  obtain ⟨m, rfl⟩ : ∃ m, n = m + 1 := ⟨n - 1, by omega⟩
  simp only [Nat.add_sub_cancel] at e
  have c0 : evSs ⟨P, fnS P L m, L⟩ tdC [some x, some a, some b, some (.str ("" : PySem.Str)), some .non] ⟨w.cs, w.cs.length⟩ = .ex c .non [some x, some a, some b, some (.str ("" : PySem.Str)), some .non] ⟨w.cs, w.cs.length⟩ :=
    ss_ex (st_set_ex (call_ex (es_cons (ev_var rfl) (es_cons (ev_var rfl) (es_cons (ev_var rfl) es_nil))) e))
  have c1 := (st_try_ex (hs := tdH) c0).trans (hh m _)
  refine fn_rt0 (F := f10) rfl rfl (ρ' := [some x, some a, some b, some (.str word), some .non]) ?_ rfl
  rw [btold_eq]
  exact (ss_nx (st_asg rfl rfl)).trans ((ss_nx c1).trans (ss_rt (st_ret (ev_ifT (w1 := ⟨w.cs, w.cs.length⟩) (t_val (ev_cmp (ev_var rfl) ev_cst (ne_str hw (by decide +kernel) hne))) rfl))))
theorem told_term {n : Nat} (h : 1 ≤ n) {x a b : D} (e : fnS P L (n - 1) 12 [x, a, b] ⟨w.cs, w.cs.length⟩ = .ex 0 .non [] ⟨w.cs, w.cs.length⟩) : fnS P L n 10 [x, a, b] w = .ok (.str ("term" : PySem.Str), w) := s_told_x h (fun _ _ => rfl) (by decide +kernel) (by decide +kernel) e
theorem told_range {n : Nat} (h : 1 ≤ n) {x a b : D} (e : fnS P L (n - 1) 12 [x, a, b] ⟨w.cs, w.cs.length⟩ = .ex 1 .non [] ⟨w.cs, w.cs.length⟩) : fnS P L n 10 [x, a, b] w = .ok (.str ("range" : PySem.Str), w) := s_told_x h (fun _ _ => rfl) (by decide +kernel) (by decide +kernel) e
theorem told_suited {n : Nat} (h : 1 ≤ n) {x a b : D} (e : fnS P L (n - 1) 12 [x, a, b] ⟨w.cs, w.cs.length⟩ = .ex 2 .non [] ⟨w.cs, w.cs.length⟩) : fnS P L n 10 [x, a, b] w = .ok (.str ("suited" : PySem.Str), w) := s_told_x h (fun _ _ => rfl) (by decide +kernel) (by decide +kernel) e
theorem told_index {n : Nat} (h : 1 ≤ n) {x a b : D} (e : fnS P L (n - 1) 12 [x, a, b] ⟨w.cs, w.cs.length⟩ = .ex 3 .non [] ⟨w.cs, w.cs.length⟩) : fnS P L n 10 [x, a, b] w = .ok (.str ("index" : PySem.Str), w) := s_told_x h (fun _ _ => rfl) (by decide +kernel) (by decide +kernel) e
/-! the law -/
theorem t_nt_T {C : QQ.Ctx} {ρ : QQ.Env} {t : T} {w w1 : W} (h : evT C ρ t w = .ok (true, w1)) : evT C ρ (.nt t) w = .ok (false, w1) := t_nt h
theorem t_nt_F {C : QQ.Ctx} {ρ : QQ.Env} {t : T} {w w1 : W} (h : evT C ρ t w = .ok (false, w1)) : evT C ρ (.nt t) w = .ok (true, w1) := t_nt h
theorem ev_callk {C : QQ.Ctx} {ρ : QQ.Env} {f : Nat} {es ks : Es} {perm : List Nat} {ds ds' vs : List D} {d : D} {w1 w2 w3 : W} (h1 : evEs C ρ es w = .ok (ds, w1)) (h2 : evEs C ρ ks w1 = .ok (ds', w2)) (hp : permD (ds ++ ds') perm = some vs) (h3 : C.call f vs w2 = .ok (d, w3)) : evE C ρ (.callk f es ks perm) w = .ok (d, w3) := by
  show (evEs C ρ es w).bind _ = _
  rw [h1, bind_ok]
  show (evEs C ρ ks w1).bind _ = _
  rw [h2, bind_ok]
  show (match permD (ds ++ ds') perm with | some vs => (C.call f vs w2).env ρ | none => .bad) = _
  rw [hp]
  show (C.call f vs w2).env ρ = _
  rw [h3]
  rfl
theorem neL {v : D} {r s n : Nat} (hv : tree n v = true) (hn : n ≤ 59) (hr : w.lst r = some [v]) (hs : w.lst s = some [v]) : cpSem .ne (.ref r) (.ref s) w = some false := by
  have ht : trees n [v] = true := by simp [trees, hv]
  obtain ⟨b, e, h⟩ := eqL_iff hr hs ht ht hn hn
  show (eqSem _ _ w).map (!·) = _
  rw [e, h.mpr rfl]
  rfl
theorem neD {v : D} {n : Nat} (hv : tree n v = true) (hn : n ≤ 60) : cpSem .ne v v w = some false := by
  show (eqSem _ _ w).map (!·) = _
  rw [eq_T hv hn]
  rfl
def lwF : Ss := .cons (.ret (.cst (.bl false))) (.nil)
theorem if_none {C : QQ.Ctx} {ρ : QQ.Env} {t : T} (h : TG C ρ t w false) : ∃ w', evS C (.ifs t lwF .nil) ρ w = .ok (.nx, ρ, w') ∧ Gr w w' := by
  obtain ⟨w', e, g⟩ := h
  exact ⟨w', (st_ifF e).trans rfl, g⟩
/-- between turns -/
def Iw (j : Nat) (w : W) : Prop := Wl j w ∧ w.lo ≤ j
theorem Iw.dr {j : Nat} {w w' : W} (h : Dr j w w') : Iw j w' := ⟨h.wl, h.lo⟩
theorem Iw.gr {j : Nat} {w w' : W} (h : Iw j w) (g : Gr w w') : Iw j w' := ⟨h.1.gr g, by obtain ⟨t, rfl⟩ := g; exact h.2⟩
theorem Iw.le {j : Nat} {w : W} (h : Iw j w) : w.lo ≤ w.cs.length := by have := h.1.lt; have := h.2; omega
def q1 : T := .nt (.val (.call 6 (.cons (.call 8 (.cons (.var 4) .nil)) (.cons (.call 3 (.cons (.var 4) .nil)) .nil))))
def q2 : T := .val (.call 3 (.cons (.var 4) .nil))
def q3 : T := .or (.cons (.nt (.val (.call 6 (.cons (.call 11 (.cons (.var 3) (.cons (.var 4) .nil))) (.cons (.var 6) .nil))))) (.cons (.nt (.val (.call 6 (.cons (.callk 11 (.nil) (.cons (.var 4) (.cons (.var 3) (.nil))) [1, 0]) (.cons (.var 6) .nil))))) (.nil)))
def q4 : T := .an (.cons (.nt (.val (.var 6))) (.cons (.val (.cmp .ne (.call 10 (.cons (.var 3) (.cons (.var 4) (.cons (.cst (.non)) .nil)))) (.cst (.str ("suited" : PySem.Str))))) (.nil)))
def s7 : E := .call 9 (.cons (.var 3) (.cons (.var 5) (.cons (.idx (.var 4) (.cst (.int 0))) (.cons (.bin .add (.bin .mul (.idx (.var 4) (.cst (.int 1))) (.var 5)) (.idx (.var 4) (.cst (.int 2)))) .nil))))
def q5 : T := .or (.cons (.val (.cmp .ne (.call 10 (.cons (.var 3) (.cons (.var 4) (.cons (.var 5) .nil)))) (.lst (.cons (.var 7) .nil)))) (.cons (.val (.cmp .ne (.callk 12 (.nil) (.cons (.var 5) (.cons (.var 4) (.cons (.var 3) (.nil)))) [2, 1, 0]) (.var 7))) (.nil)))
def ixs : List D := [.int (-1), .int 401, .bl true, .non]
def eI6 : E := .idx (.lst (.cons (.neg (.cst (.int 1))) (.cons (.cst (.int 401)) (.cons (.cst (.bl true)) (.cons (.cst (.non)) .nil))))) (.call 2 (.cons (.var 1) (.cons (.cst (.int 4)) .nil)))
def q6 : T := .val (.cmp .ne (.call 10 (.cons (.var 3) (.cons (.var 4) (.cons eI6 .nil)))) (.cst (.str ("index" : PySem.Str))))
def q7 : T := .val (.blt .any1 (.cons (.comp (.cmp .is (.call 13 (.cons (.var 3) (.cons (.var 5) (.cons (.var 10) .nil)))) (.cst (.non))) (.nm 10) (.rng2 (.idx (.var 4) (.cst (.int 0))) (.bin .add (.bin .add (.bin .mul (.idx (.var 4) (.cst (.int 1))) (.var 5)) (.idx (.var 4) (.cst (.int 2)))) (.cst (.int 2)))) [10] (.nil)) .nil))
def bDue : Ss := .cons (.set 7 s7) (.cons (.ifs q5 lwF (.nil)) (.cons (.ifs q6 lwF (.nil)) (.cons (.ifs q7 lwF (.nil)) (.nil))))
def bRg : Ss := .cons (.set 6 (.call 7 (.cons (.var 3) (.cons (.var 4) .nil)))) (.cons (.ifs q3 lwF (.nil)) (.cons (.ifs q4 lwF (.nil)) (.cons (.ifs (.val (.var 6)) bDue (.nil)) (.nil))))
def eO8 : Es := (.cons (.tup (.cons (.cst (.int 0)) (.cons (.cst (.int 4)) (.cons (.cst (.int 0)) .nil)))) (.cons (.tup (.cons (.cst (.int 0)) (.cons (.neg (.cst (.int 1))) (.cons (.cst (.int 0)) .nil)))) (.cons (.tup (.cons (.cst (.int 21)) (.cons (.cst (.int 1)) (.cons (.cst (.int 20)) .nil)))) (.cons (.tup (.cons (.cst (.int 0)) (.cons (.cst (.int 1)) (.cons (.neg (.cst (.int 2))) .nil)))) (.cons (.tup (.cons (.neg (.cst (.int 21))) (.cons (.cst (.int 1)) (.cons (.cst (.int 0)) .nil)))) (.cons (.tup (.cons (.cst (.int 0)) (.cons (.cst (.int 1)) .nil))) (.cons (.lst (.cons (.cst (.int 0)) (.cons (.cst (.int 1)) (.cons (.cst (.int 0)) .nil)))) (.cons (.tup (.cons (.cst (.int 0)) (.cons (.cst (.bl true)) (.cons (.cst (.int 0)) .nil)))) (.cons (.cst (.non)) (.cons (.tup (.cons (.cst (.int 0)) (.cons (.cst (.int 1)) (.cons (.cst (.non)) .nil)))) (.cons (.tup (.cons (.cst (.int 20)) (.cons (.cst (.int 0)) (.cons (.cst (.int 20)) .nil)))) (.cons (.tup (.cons (.cst (.int 1)) (.cons (.cst (.int 0)) (.cons (.cst (.int 0)) .nil)))) .nil))))))))))))
def q9 : T := .nt (.val (.call 6 (.cons (.callk 8 (.nil) (.cons (.var 9) (.nil)) [0]) (.cons (.call 3 (.cons (.var 9) .nil)) .nil))))
def q10 : T := .an (.cons (.nt (.val (.call 3 (.cons (.var 9) .nil)))) (.cons (.or (.cons (.val (.cmp .ne (.call 10 (.cons (.var 3) (.cons (.var 9) (.cons (.var 5) .nil)))) (.cst (.str ("range" : PySem.Str))))) (.cons (.val (.cmp .ne (.call 10 (.cons (.blt .list1 (.cons (.var 3) .nil)) (.cons (.var 9) (.cons (.var 5) .nil)))) (.cst (.str ("term" : PySem.Str))))) (.nil)))) (.nil)))
def lwB : Ss := .cons (.set 3 (.ifx (.val (.cmp .eq (.call 2 (.cons (.var 1) (.cons (.cst (.int 2)) .nil))) (.cst (.int 0)))) (.call 4 (.cons (.var 1) .nil)) (.call 5 (.cons (.var 1) .nil)))) (.cons (.set 4 (.tup (.cons (.bin .sub (.call 2 (.cons (.var 1) (.cons (.cst (.int 5)) .nil))) (.cst (.int 2))) (.cons (.call 2 (.cons (.var 1) (.cons (.cst (.int 3)) .nil))) (.cons (.bin .sub (.call 2 (.cons (.var 1) (.cons (.cst (.int 6)) .nil))) (.cst (.int 2))) .nil))))) (.cons (.set 5 (.call 2 (.cons (.var 1) (.cons (.cst (.int 9)) .nil)))) (.cons (.ifs q1 lwF (.nil)) (.cons (.ifs q2 bRg (.nil)) (.cons (.set 8 (.lst eO8)) (.cons (.set 9 (.idx (.var 8) (.call 2 (.cons (.var 1) (.cons (.blt .len (.cons (.var 8) .nil)) .nil))))) (.cons (.ifs q9 lwF (.nil)) (.cons (.ifs q10 lwF (.nil)) (.nil)))))))))
theorem blaw_eq : f0.body = .cons (.set 1 (.call 1 (.cons (.var 0) .nil))) (.cons (.for (.nm 2) (.rng1 (.cst (.int 5))) lwB) (.cons (.ret (.cst (.bl true))) (.nil))) := rfl
/-- the part where the range suits -/
theorem due_ok {m j : Nat} (hm : 20 ≤ m) (hL : 20000 ≤ L) {tm : Tm} (ht : TmOk tm) {l s st n : Int} (hl : -2 ≤ l ∧ l ≤ 2) (hs : 0 ≤ s ∧ s ≤ 2) (hst : -2 ≤ st ∧ st ≤ 3) (hn : 0 ≤ n ∧ n ≤ 8) (hg : rgB (spn l s st) = true) (hu : suitsB tm.up l s st = true) (hw : Iw j w) {a0 a2 a6 a7 a8 a9 a10 : Option D} :
    ∃ c7 w', evSs ⟨P, fnS P L m, L⟩ bDue [a0, some (.ref j), a2, some (dtm tm), some (spn l s st), some (.int n), a6, a7, a8, a9, a10] w = .ok (.nx, [a0, some (.ref j), a2, some (dtm tm), some (spn l s st), some (.int n), a6, c7, a8, a9, a10], w') ∧ Iw j w' := by
  have hle : l ≤ st + 1 := by simp [rgB, spn, inR, leI] at hg; omega
  have sn : 0 ≤ s * n ∧ s * n ≤ 16 := by
    refine ⟨Int.mul_nonneg hs.1 hn.1, ?_⟩
    have h1 : s * n ≤ 2 * n := Int.mul_le_mul_of_nonneg_right hs.2 hn.1
    omega
  have hr : RgOk tm n l (s * n + st) := ⟨hn, by omega, by omega, fun k k1 k2 => suits_tops ht hu hn.1 k1 (by omega)⟩
  have mo : mulOk s n = true := mulOk_small (by omega)
  generalize hv : sumV tm n l (s * n + st) = v
  have eSum : evE ⟨P, fnS P L m, L⟩ [a0, some (.ref j), a2, some (dtm tm), some (spn l s st), some (.int n), a6, a7, a8, a9, a10] s7 w = .ok (pr v, w) := by
    rw [← hv]
    exact call_ev (es_cons (ev_var rfl) (es_cons (ev_var rfl) (es_cons (ev_idx (ev_var rfl) ev_cst rfl) (es_cons (ev_bin (ev_bin (ev_idx (ev_var rfl) ev_cst rfl) (ev_var rfl) (op_mul mo)) (ev_idx (ev_var rfl) ev_cst rfl) op_add) es_nil)))) (s_lsum (by omega) hL ht hr (by omega))
  have cT : ∀ w0 k, 13 ≤ k → fnS P L k 12 [dtm tm, spn l s st, .int n] w0 = .ok (pr v, w0) := fun w0 k hk => by
    rw [← hv]
    exact s_total hk hL ht hg hu hr (by omega)
  -- the value is told
  have t5 : TG ⟨P, fnS P L m, L⟩ [a0, some (.ref j), a2, some (dtm tm), some (spn l s st), some (.int n), a6, some (pr v), a8, a9, a10] q5 w false := by
    have c1 := s_told (w := w) (L := L) (n := m) (by omega) (x := dtm tm) (a := spn l s st) (b := .int n) (v := pr v) hw.le (cT _ _ (by omega))
    generalize hw1 : (⟨w.cs ++ [.lst [pr v]], w.lo⟩ : W) = w1 at c1
    have g1 : Gr w w1 := by rw [← hw1]; exact .one _ _
    have y1 : w1.lst w.cs.length = some [pr v] := by rw [← hw1]; exact new_lst
    have g2 : Gr w1 ⟨w1.cs ++ [.lst [pr v]], w1.lo⟩ := .one _ _
    exact ⟨_, t_orF (t_val (ev_cmp (y := .ref w1.cs.length) (w2 := ⟨w1.cs ++ [.lst [pr v]], w1.lo⟩) (call_ev (es_cons (ev_var rfl) (es_cons (ev_var rfl) (es_cons (ev_var rfl) es_nil))) c1) rfl (neL (tree_pr v) (by decide) (g2.lst y1) new_lst))) (t_orF (t_val (ev_cmp (ev_callk es_nil (es_cons (ev_var rfl) (es_cons (ev_var rfl) (es_cons (ev_var rfl) es_nil))) rfl (cT _ _ (by omega))) (ev_var rfl) (neD (tree_pr v) (by decide)))) t_or0), g1.trans g2⟩
  obtain ⟨w1, f1, g1⟩ := if_none t5
  have i1 := hw.gr g1
  -- a wrong index
  have g2 : Gr w1 ⟨w1.cs ++ [.lst ixs], w1.lo⟩ := .one _ _
  obtain ⟨d3, w3, e3, p3, r3, D3⟩ := s_draw (L := L) (n := m) (by omega) (i1.gr g2).1 (many := 4) (by decide) (by decide)
  have n2 : w1.cs.length ≠ j := by have := i1.1.lt; omega
  obtain ⟨x, hx, ex⟩ := atI_mem (l := ixs) p3 (by simpa [ixs] using r3)
  have x3 := (ix_ref (D3.kp.lst n2 new_lst)).trans ex
  have i3 : Iw j w3 := Iw.dr D3
  have bx : inR x 0 400 = false ∧ ∀ w', Pl w' x := by
    simp only [ixs, List.mem_cons, List.not_mem_nil, or_false] at hx
    rcases hx with rfl | rfl | rfl | rfl
    · exact ⟨rfl, fun _ => .inr ⟨_, rfl⟩⟩
    · exact ⟨rfl, fun _ => .inr ⟨_, rfl⟩⟩
    · exact ⟨rfl, fun _ => .inr ⟨_, rfl⟩⟩
    · exact ⟨rfl, fun _ => .inl rfl⟩
  have t6 : evT ⟨P, fnS P L m, L⟩ [a0, some (.ref j), a2, some (dtm tm), some (spn l s st), some (.int n), a6, some (pr v), a8, a9, a10] q6 w1 = .ok (false, w3) :=
    t_val (ev_cmp (call_ev (es_cons (ev_var rfl) (es_cons (ev_var rfl) (es_cons (ev_idx (x := .ref w1.cs.length) (w1 := ⟨w1.cs ++ [.lst ixs], w1.lo⟩) rfl (call_ev (es_cons (ev_var rfl) (es_cons ev_cst es_nil)) e3) x3) es_nil))) (told_index (by omega) (s_total_ix (by omega) ht hg hu (bx.2 _) bx.1))) ev_cst (ne_str (by decide +kernel) (by decide +kernel) (by decide +kernel)))
  -- all places are told
  have t7 : TG ⟨P, fnS P L m, L⟩ [a0, some (.ref j), a2, some (dtm tm), some (spn l s st), some (.int n), a6, some (pr v), a8, a9, a10] q7 w3 false := by
    have b1 : big l = true := by unfold QQ.big; simp; omega
    have b2 : big (s * n + st + 2) = true := by unfold QQ.big; simp; omega
    have r1 := it_rng2 (C := ⟨P, fnS P L m, L⟩) (ρ := [a0, some (.ref j), a2, some (dtm tm), some (spn l s st), some (.int n), a6, some (pr v), a8, a9, a10]) (w := w3) (w1 := w3) (w2 := w3) (a := .idx (.var 4) (.cst (.int 0))) (b := .bin .add (.bin .add (.bin .mul (.idx (.var 4) (.cst (.int 1))) (.var 5)) (.idx (.var 4) (.cst (.int 2)))) (.cst (.int 2))) (i := l) (j := s * n + st + 2) (ev_idx (ev_var rfl) ev_cst rfl) (ev_bin (ev_bin (ev_bin (ev_idx (ev_var rfl) ev_cst rfl) (ev_var rfl) (op_mul mo)) (ev_idx (ev_var rfl) ev_cst rfl) op_add) ev_cst op_add) b1 b2
    rw [rangeD_kseq] at r1
    obtain ⟨w4, e4, g4⟩ := comp_mapG (turn := turnC ⟨P, fnS P L m, L⟩ [a0, some (.ref j), a2, some (dtm tm), some (spn l s st), some (.int n), a6, some (pr v), a8, a9, a10] (.cmp .is (.call 13 (.cons (.var 3) (.cons (.var 5) (.cons (.var 10) .nil)))) (.cst (.non))) (.nm 10) [10]) (h := fun _ => .bl false) ((kseq l (s * n + st + 2 - l).toNat).map .int) [] w3 (fun d hd w' g => by
      obtain ⟨k, hk, rfl⟩ := List.mem_map.mp hd
      have kb := kseq_mem _ _ _ hk
      have e := s_lat (L := L) (w := w') (d := m) (by omega) hL ht (n := n) (k := k) ⟨hn.1, by omega⟩ (by omega)
      rw [tv_vq (suits_tops ht hu hn.1 kb.1 (by omega))] at e
      exact ⟨w', turn_c (ρ' := [a0, some (.ref j), a2, some (dtm tm), some (spn l s st), some (.int n), a6, some (pr v), a8, a9, some (.int k)]) rfl (ev_cmp (call_ev (es_cons (ev_var rfl) (es_cons (ev_var rfl) (es_cons (ev_var rfl) es_nil))) e) ev_cst rfl), .refl _⟩) (by unfold QQ.line; simp [kseq_len]; omega)
    have ec := ev_compT r1 e4
    refine ⟨_, t_val (ev_blt (es_cons ec es_nil) (w2 := ⟨w4.cs ++ [.lst ([] ++ ((kseq l (s * n + st + 2 - l).toNat).map D.int).map fun _ => .bl false)], w4.lo⟩) ?_), g4.trans (.one _ _)⟩
    show (match (W.lst ⟨w4.cs ++ [.lst ([] ++ ((kseq l (s * n + st + 2 - l).toNat).map D.int).map fun _ => .bl false)], w4.lo⟩ w4.cs.length).bind boolsD with
      | some bs => some (D.bl (bs.any id), _)
      | none => none) = _
    rw [new_lst, List.nil_append]
    show (match boolsD (((kseq l (s * n + st + 2 - l).toNat).map D.int).map fun _ => .bl false) with
      | some bs => some (D.bl (bs.any id), _)
      | none => none) = _
    rw [boolsD_map (fun _ => false)]
    have : ((((kseq l (s * n + st + 2 - l).toNat).map D.int).map fun _ => false).any id) = false := by simp
    show some (D.bl ((((kseq l (s * n + st + 2 - l).toNat).map D.int).map fun _ => false).any id), _) = _
    rw [this]
  obtain ⟨w4, f4, g4⟩ := if_none t7
  exact ⟨some (pr v), w4, (ss_nx (st_set eSum)).trans ((ss_nx f1).trans ((ss_nx ((st_ifF t6).trans rfl)).trans ((ss_nx f4).trans rfl))), i3.gr g4⟩
/-- the part where the range is one -/
theorem rg_ok {m j : Nat} (hm : 20 ≤ m) (hL : 20000 ≤ L) {tm : Tm} (ht : TmOk tm) {l s st n : Int} (hl : -2 ≤ l ∧ l ≤ 2) (hs : 0 ≤ s ∧ s ≤ 2) (hst : -2 ≤ st ∧ st ≤ 3) (hn : 0 ≤ n ∧ n ≤ 8) (hg : rgB (spn l s st) = true) (hw : Iw j w) {a0 a2 a6 a7 a8 a9 a10 : Option D} :
    ∃ c6 c7 w', evSs ⟨P, fnS P L m, L⟩ bRg [a0, some (.ref j), a2, some (dtm tm), some (spn l s st), some (.int n), a6, a7, a8, a9, a10] w = .ok (.nx, [a0, some (.ref j), a2, some (dtm tm), some (spn l s st), some (.int n), c6, c7, a8, a9, a10], w') ∧ Iw j w' := by
  generalize hu : suitsB tm.up l s st = u
  have eI6 : ∀ w0 k, 1 ≤ k → fnS P L k 7 [dtm tm, spn l s st] w0 = .ok (.bl u, w0) := fun w0 k hk => by rw [← hu]; exact s_lsuits hk (by have := ht.up.1; omega) (by omega) (by omega) (by omega)
  have e7 : ∀ w0 k, 7 ≤ k → fnS P L k 11 [dtm tm, spn l s st] w0 = .ok (.bl u, w0) := fun w0 k hk => by rw [← hu]; exact s_suits hk ht hg
  have eO8 : ∀ w0, fnS P L m 6 [.bl u, .bl u] w0 = .ok (.bl true, w0) := fun w0 => by
    have := s_lis (L := L) (w := w0) (n := m) (by omega) u u
    rwa [show (u == u) = true by simp] at this
  have t3 : evT ⟨P, fnS P L m, L⟩ [a0, some (.ref j), a2, some (dtm tm), some (spn l s st), some (.int n), some (.bl u), a7, a8, a9, a10] q3 w = .ok (false, w) :=
    t_orF (t_nt_T (t_val (call_ev (es_cons (call_ev (es_cons (ev_var rfl) (es_cons (ev_var rfl) es_nil)) (e7 _ m (by omega))) (es_cons (ev_var rfl) es_nil)) (eO8 _)))) (t_orF (t_nt_T (t_val (call_ev (es_cons (ev_callk es_nil (es_cons (ev_var rfl) (es_cons (ev_var rfl) es_nil)) rfl (e7 _ m (by omega))) (es_cons (ev_var rfl) es_nil)) (eO8 _)))) t_or0)
  cases u with
  | false =>
    have c4 : fnS P L m 10 [dtm tm, spn l s st, .non] w = .ok (.str ("suited" : PySem.Str), w) := told_suited (by omega) (s_total_ex (by omega) ((s_needst (w := ⟨w.cs, w.cs.length⟩) (by omega) ht hg).trans (by rw [hu]; rfl)))
    have t4 : evT ⟨P, fnS P L m, L⟩ [a0, some (.ref j), a2, some (dtm tm), some (spn l s st), some (.int n), some (.bl false), a7, a8, a9, a10] q4 w = .ok (false, w) :=
      t_anT (t_nt_F (t_val (ev_var rfl))) (t_anF (t_val (ev_cmp (call_ev (es_cons (ev_var rfl) (es_cons (ev_var rfl) (es_cons ev_cst es_nil))) c4) ev_cst (ne_str (by decide +kernel) (by decide +kernel) (by decide +kernel)))))
    exact ⟨some (.bl false), a7, w, (ss_nx (st_set (call_ev (es_cons (ev_var rfl) (es_cons (ev_var rfl) es_nil)) (eI6 _ m (by omega))))).trans ((ss_nx ((st_ifF t3).trans rfl)).trans ((ss_nx ((st_ifF t4).trans rfl)).trans ((ss_nx ((st_ifF (t_val (ev_var rfl))).trans rfl)).trans rfl))), hw⟩
  | true =>
    have t4 : evT ⟨P, fnS P L m, L⟩ [a0, some (.ref j), a2, some (dtm tm), some (spn l s st), some (.int n), some (.bl true), a7, a8, a9, a10] q4 w = .ok (false, w) := t_anF (t_nt_T (t_val (ev_var rfl)))
    obtain ⟨c7, w', e, i⟩ := due_ok (L := L) (m := m) (w := w) hm hL ht hl hs hst hn hg hu hw (a0 := a0) (a2 := a2) (a6 := some (.bl true)) (a7 := a7) (a8 := a8) (a9 := a9) (a10 := a10)
    exact ⟨some (.bl true), c7, w', (ss_nx (st_set (call_ev (es_cons (ev_var rfl) (es_cons (ev_var rfl) es_nil)) (eI6 _ m (by omega))))).trans ((ss_nx ((st_ifF t3).trans rfl)).trans ((ss_nx ((st_ifF t4).trans rfl)).trans ((ss_nx ((st_ifT (t_val (ev_var rfl))).trans e)).trans rfl))), i⟩
/-- the odd things; the list is r -/
def odds (r : Nat) : List D := [spn 0 4 0, spn 0 (-1) 0, spn 21 1 20, spn 0 1 (-2), spn (-21) 1 0, .tup [.int 0, .int 1], .ref r, .tup [.int 0, .bl true, .int 0], .non, .tup [.int 0, .int 1, .non], spn 20 0 20, spn 1 0 0]
theorem odds_pl {r : Nat} {ds : List D} (hr : w.lst r = some ds) (n : Nat) : ∀ x ∈ odds r, PlN n w x := by
  have itl : ∀ (l : List D), l.length ≤ 1000 → (∀ d ∈ l, (∃ i, d = .int i) ∨ (∃ b, d = .bl b) ∨ d = .non) → PlN n w (.tup l) := fun l hl h => PlN_tup' hl fun m d hd => by
    rcases h d hd with ⟨i, rfl⟩ | ⟨b, rfl⟩ | rfl
    · exact PlN_int i m
    · exact PlN_bl b m
    · exact PlN_non m
  intro x hx
  simp only [odds, List.mem_cons, List.not_mem_nil, or_false] at hx
  rcases hx with rfl | rfl | rfl | rfl | rfl | rfl | rfl | rfl | rfl | rfl | rfl | rfl
  case inr.inr.inr.inr.inr.inr.inl => exact PlN_ref hr n
  case inr.inr.inr.inr.inr.inr.inr.inr.inl => exact PlN_non n
  all_goals exact itl _ (by simp) (by simp)
theorem odd_test {m : Nat} (hm : 20 ≤ m) {tm : Tm} (ht : TmOk tm) {x : D} (hp : ∀ n, PlN n w x) {n : Int} {a0 a1 a2 a4 a6 a7 a8 a10 : Option D} : evT ⟨P, fnS P L m, L⟩ [a0, a1, a2, some (dtm tm), a4, some (.int n), a6, a7, a8, some x, a10] q9 w = .ok (false, w) ∧ TG ⟨P, fnS P L m, L⟩ [a0, a1, a2, some (dtm tm), a4, some (.int n), a6, a7, a8, some x, a10] q10 w false := by
  have e1 : fnS P L m 8 [x] w = .ok (.bl (rgB x), w) := s_isrange (by omega) (hp 1)
  have e2 : fnS P L m 3 [x] w = .ok (.bl (rgB x), w) := s_lisrange (by omega) (hp 1)
  have e3 : fnS P L m 6 [.bl (rgB x), .bl (rgB x)] w = .ok (.bl true, w) := by
    have := s_lis (L := L) (w := w) (n := m) (by omega) (rgB x) (rgB x)
    rwa [show (rgB x == rgB x) = true by simp] at this
  refine ⟨t_nt_T (t_val (call_ev (es_cons (ev_callk es_nil (es_cons (ev_var rfl) es_nil) rfl e1) (es_cons (call_ev (es_cons (ev_var rfl) es_nil) e2) es_nil)) e3)), ?_⟩
  cases hx : rgB x with
  | true =>
    rw [hx] at e2
    exact ⟨w, t_anF (t_nt_T (t_val (call_ev (es_cons (ev_var rfl) es_nil) e2))), .refl _⟩
  | false =>
    rw [hx] at e2
    have c1 : fnS P L m 10 [dtm tm, x, .int n] w = .ok (.str ("range" : PySem.Str), w) := told_range (by omega) (s_total_ex (by omega) (s_needst_ex (by omega) (s_suits_br (w := ⟨w.cs, w.cs.length⟩) (by omega) (PlN_dtm ht 4) (dtB_dtm ht) ((hp 1).same rfl) hx)))
    generalize hw1 : (⟨w.cs ++ [.lst [bpol tm.p, pr tm.x, pr tm.y, tms tm.up, tms tm.dn]], w.lo⟩ : W) = w1
    have g1 : Gr w w1 := by rw [← hw1]; exact .one _ _
    have y1 : w1.lst w.cs.length = some [bpol tm.p, pr tm.x, pr tm.y, tms tm.up, tms tm.dn] := by rw [← hw1]; exact new_lst
    have c2 : fnS P L m 10 [.ref w.cs.length, x, .int n] w1 = .ok (.str ("term" : PySem.Str), w1) := told_term (by omega) (s_total_ex (by omega) (s_needst_ex (by omega) (s_suits_bt (w := ⟨w1.cs, w1.cs.length⟩) (by omega) ((PlN_ref y1 4).same rfl) rfl)))
    have el : evE ⟨P, fnS P L m, L⟩ [a0, a1, a2, some (dtm tm), a4, some (.int n), a6, a7, a8, some x, a10] (.blt .list1 (.cons (.var 3) .nil)) w = .ok (.ref w.cs.length, w1) := by rw [← hw1]; rfl
    exact ⟨w1, t_anT (t_nt_F (t_val (call_ev (es_cons (ev_var rfl) es_nil) e2))) (t_anF (t_orF (t_val (ev_cmp (call_ev (es_cons (ev_var rfl) (es_cons (ev_var rfl) (es_cons (ev_var rfl) es_nil))) c1) ev_cst (ne_str (by decide +kernel) (by decide +kernel) (by decide +kernel)))) (t_orF (t_val (ev_cmp (call_ev (es_cons el (es_cons (ev_var rfl) (es_cons (ev_var rfl) es_nil))) c2) ev_cst (ne_str (by decide +kernel) (by decide +kernel) (by decide +kernel)))) t_or0))), g1⟩
theorem lwb {m j : Nat} (hm : 20 ≤ m) (hL : 20000 ≤ L) {a0 : Option D} (ds : List D) (a2 a3 a4 a5 a6 a7 a8 a9 a10 : Option D) (hw : Iw j w) : ∃ ρ' w', evFor (turnOf ⟨P, fnS P L m, L⟩ (.nm 2) lwB) ds [a0, some (.ref j), a2, a3, a4, a5, a6, a7, a8, a9, a10] w = .ok (.nx, ρ', w') := by
  obtain ⟨ρ', w', e, _⟩ := for_inv (turn := turnOf ⟨P, fnS P L m, L⟩ (.nm 2) lwB) (fun rest ρ w => (∃ a2 a3 a4 a5 a6 a7 a8 a9 a10, ρ = [a0, some (.ref j), a2, a3, a4, a5, a6, a7, a8, a9, a10]) ∧ Iw j w) (fun d rest ρ w ⟨⟨a2, a3, a4, a5, a6, a7, a8, a9, a10, e⟩, i⟩ => by
    subst e
    have dc : ∀ {ρ : QQ.Env} {many : Int} {d : D} {w0 w' : W}, ρ[1]? = some (some (.ref j)) → fnS P L m 2 [.ref j, .int many] w0 = .ok (d, w') → evE ⟨P, fnS P L m, L⟩ ρ (.call 2 (.cons (.var 1) (.cons (.cst (.int many)) .nil))) w0 = .ok (d, w') := fun hr e => call_ev (es_cons (ev_var hr) (es_cons ev_cst es_nil)) e
    obtain ⟨d1, w1, e1, p1, r1, D1⟩ := s_draw (L := L) (n := m) (by omega) i.1 (many := 2) (by decide) (by decide)
    -- the term
    have et : ∃ tm w2, evE ⟨P, fnS P L m, L⟩ [a0, some (.ref j), some d, a3, a4, a5, a6, a7, a8, a9, a10] (.ifx (.val (.cmp .eq (.call 2 (.cons (.var 1) (.cons (.cst (.int 2)) .nil))) (.cst (.int 0)))) (.call 4 (.cons (.var 1) .nil)) (.call 5 (.cons (.var 1) .nil))) w = .ok (dtm tm, w2) ∧ TmOk tm ∧ Iw j w2 := by
      by_cases h1 : d1 = 0
      · obtain ⟨tm, w2, e2, ht, D2⟩ := s_lknown (L := L) (n := m) (by omega) D1.wl
        exact ⟨tm, w2, ev_ifT (t_val (ev_cmp (dc rfl e1) ev_cst (eq_int_T h1))) (call_ev (es_cons (ev_var rfl) es_nil) e2), ht, Iw.dr D2⟩
      · obtain ⟨tm, w2, e2, ht, D2⟩ := s_lterm (L := L) (n := m) (by omega) hL D1.wl
        exact ⟨tm, w2, ev_ifF (t_val (ev_cmp (dc rfl e1) ev_cst (eq_int_F h1))) (call_ev (es_cons (ev_var rfl) es_nil) e2), ht, Iw.dr D2⟩
    obtain ⟨tm, w2, e2, ht, i2⟩ := et
    obtain ⟨x1, w3, e3, p3, r3, D3⟩ := s_draw (L := L) (n := m) (by omega) i2.1 (many := 5) (by decide) (by decide)
    obtain ⟨x2, w4, e4, p4, r4, D4⟩ := s_draw (L := L) (n := m) (by omega) D3.wl (many := 3) (by decide) (by decide)
    obtain ⟨x3, w5, e5, p5, r5, D5⟩ := s_draw (L := L) (n := m) (by omega) D4.wl (many := 6) (by decide) (by decide)
    obtain ⟨n, w6, eI6, p6, r6, D6⟩ := s_draw (L := L) (n := m) (by omega) D5.wl (many := 9) (by decide) (by decide)
    have i6 : Iw j w6 := Iw.dr D6
    have es : evE ⟨P, fnS P L m, L⟩ [a0, some (.ref j), some d, some (dtm tm), a4, a5, a6, a7, a8, a9, a10] (.tup (.cons (.bin .sub (.call 2 (.cons (.var 1) (.cons (.cst (.int 5)) .nil))) (.cst (.int 2))) (.cons (.call 2 (.cons (.var 1) (.cons (.cst (.int 3)) .nil))) (.cons (.bin .sub (.call 2 (.cons (.var 1) (.cons (.cst (.int 6)) .nil))) (.cst (.int 2))) .nil)))) w2 = .ok (spn (x1 - 2) x2 (x3 - 2), w5) :=
      ev_tup (es_cons (ev_bin (dc rfl e3) ev_cst op_sub) (es_cons (dc rfl e4) (es_cons (ev_bin (dc rfl e5) ev_cst op_sub) es_nil))) (by unfold QQ.line; simp)
    generalize hl : x1 - 2 = l at es
    generalize hst : x3 - 2 = st at es
    have g1 : fnS P L m 8 [spn l x2 st] w6 = .ok (.bl (rgB (spn l x2 st)), w6) := s_isrange (by omega) (PlN_spn _ _ _ 1)
    have g2 : fnS P L m 3 [spn l x2 st] w6 = .ok (.bl (rgB (spn l x2 st)), w6) := s_lisrange (by omega) (PlN_spn _ _ _ 1)
    have g3 : fnS P L m 6 [.bl (rgB (spn l x2 st)), .bl (rgB (spn l x2 st))] w6 = .ok (.bl true, w6) := by
      have := s_lis (L := L) (w := w6) (n := m) (by omega) (rgB (spn l x2 st)) (rgB (spn l x2 st))
      rwa [show (rgB (spn l x2 st) == rgB (spn l x2 st)) = true by simp] at this
    have t1 : evT ⟨P, fnS P L m, L⟩ [a0, some (.ref j), some d, some (dtm tm), some (spn l x2 st), some (.int n), a6, a7, a8, a9, a10] q1 w6 = .ok (false, w6) := t_nt_T (t_val (call_ev (es_cons (call_ev (es_cons (ev_var rfl) es_nil) g1) (es_cons (call_ev (es_cons (ev_var rfl) es_nil) g2) es_nil)) g3))
    have t2 : evT ⟨P, fnS P L m, L⟩ [a0, some (.ref j), some d, some (dtm tm), some (spn l x2 st), some (.int n), a6, a7, a8, a9, a10] q2 w6 = .ok (rgB (spn l x2 st), w6) := t_val (call_ev (es_cons (ev_var rfl) es_nil) g2)
    have mid : ∃ c6 c7 w7, evS ⟨P, fnS P L m, L⟩ (.ifs q2 bRg .nil) [a0, some (.ref j), some d, some (dtm tm), some (spn l x2 st), some (.int n), a6, a7, a8, a9, a10] w6 = .ok (.nx, [a0, some (.ref j), some d, some (dtm tm), some (spn l x2 st), some (.int n), c6, c7, a8, a9, a10], w7) ∧ Iw j w7 := by
      cases hg : rgB (spn l x2 st) with
      | false =>
        rw [hg] at t2
        exact ⟨a6, a7, w6, (st_ifF t2).trans rfl, i6⟩
      | true =>
        rw [hg] at t2
        obtain ⟨c6, c7, w7, e7, i7⟩ := rg_ok (L := L) (m := m) (w := w6) hm hL ht (l := l) (s := x2) (st := st) (n := n) (by omega) (by omega) (by omega) (by omega) hg i6 (a0 := a0) (a2 := some d) (a6 := a6) (a7 := a7) (a8 := a8) (a9 := a9) (a10 := a10)
        exact ⟨c6, c7, w7, (st_ifT t2).trans e7, i7⟩
    obtain ⟨c6, c7, w7, e7, i7⟩ := mid
    -- something odd
    generalize hw8 : (⟨w7.cs ++ [.lst [.int 0, .int 1, .int 0]], w7.lo⟩ : W) = w8
    have G8 : Gr w7 w8 := by rw [← hw8]; exact .one _ _
    have y8 : w8.lst w7.cs.length = some [.int 0, .int 1, .int 0] := by rw [← hw8]; exact new_lst
    generalize hw9 : (⟨w8.cs ++ [.lst (odds w7.cs.length)], w8.lo⟩ : W) = w9
    have G9 : Gr w8 w9 := by rw [← hw9]; exact .one _ _
    have y9 : w9.lst w8.cs.length = some (odds w7.cs.length) := by rw [← hw9]; exact new_lst
    have e9 : evE ⟨P, fnS P L m, L⟩ [a0, some (.ref j), some d, some (dtm tm), some (spn l x2 st), some (.int n), c6, c7, a8, a9, a10] (.lst eO8) w7 = .ok (.ref w8.cs.length, w9) := by rw [← hw9, ← hw8]; rfl
    have i9 : Iw j w9 := i7.gr (G8.trans G9)
    have n8 : w8.cs.length ≠ j := by have := (i7.gr G8).1.lt; omega
    have n7 : w7.cs.length ≠ j := by have := i7.1.lt; omega
    obtain ⟨d10, w10, e10, p10, r10, D10⟩ := s_draw (L := L) (n := m) (by omega) i9.1 (many := 12) (by decide) (by decide)
    obtain ⟨x, hx, ex⟩ := atI_mem (l := odds w7.cs.length) p10 (by simpa [odds] using r10)
    have x10 := (ix_ref (D10.kp.lst n8 y9)).trans ex
    have elen : bltSem .len [.ref w8.cs.length] w9 = some (.int 12, w9) := by
      show (match w9.lst w8.cs.length with | some ds => some (D.int ds.length, w9) | none => none) = _
      rw [y9]
      rfl
    have px : ∀ n, PlN n w10 x := fun n => odds_pl (D10.kp.lst n7 (G9.lst y8)) n x hx
    obtain ⟨t9, t10⟩ := odd_test (L := L) (m := m) (w := w10) hm ht px (n := n) (a0 := a0) (a1 := some (.ref j)) (a2 := some d) (a4 := some (spn l x2 st)) (a6 := c6) (a7 := c7) (a8 := some (.ref w8.cs.length)) (a10 := a10)
    obtain ⟨w11, e11, g11⟩ := if_none t10
    exact ⟨_, w11, (ss_nx (st_set e2)).trans ((ss_nx (st_set es)).trans ((ss_nx (st_set (dc rfl eI6))).trans ((ss_nx ((st_ifF t1).trans rfl)).trans ((ss_nx e7).trans ((ss_nx (st_set e9)).trans ((ss_nx (st_set (ev_idx (ev_var rfl) (call_ev (es_cons (ev_var rfl) (es_cons (ev_blt (es_cons (ev_var rfl) es_nil) elen) es_nil)) e10) x10))).trans ((ss_nx ((st_ifF t9).trans rfl)).trans ((ss_nx e11).trans rfl)))))))), ⟨_, _, _, _, _, _, _, _, _, rfl⟩, (Iw.dr D10).gr g11⟩) ds _ w ⟨⟨a2, a3, a4, a5, a6, a7, a8, a9, a10, rfl⟩, hw⟩
  exact ⟨ρ', w', e⟩
def LL : Nat := 1000000
theorem law_true (ns : List Int) (h : ns.length ≤ 63) : ∃ w', fnS P LL 60 0 [.frz (ns.map D.int)] ⟨[], 0⟩ = .ok (.bl true, w') := by
  obtain ⟨j, w1, e1, hw, hl⟩ := s_lwell (L := LL) (w := ⟨[], 0⟩) (n := 59) (by decide) (by decide) h
  have hl0 : w1.lo ≤ 0 := hl
  obtain ⟨ρ', w2, e2⟩ := lwb (L := LL) (w := w1) (m := 59) (a0 := some (.frz (ns.map D.int))) (by decide) (by decide) (rangeD 0 5) none none none none none none none none none ⟨hw, by omega⟩
  have main := fn_rtw (P := P) (L := LL) (k := 59) (w := ⟨[], 0⟩) (vs := [.frz (ns.map D.int)]) (f := 0) (F := f0) rfl rfl (by
    rw [blaw_eq]
    exact (ss_nx (st_set (call_ev (es_cons (ev_var rfl) es_nil) e1))).trans ((ss_nx (st_for (it_rng1 ev_cst (by decide)) e2)).trans (ss_rt (st_ret ev_cst))))
  exact ⟨_, main⟩
end LW

set_option Elab.async false
set_option linter.all false
set_option maxRecDepth 100000
set_option maxHeartbeats 0
namespace LW
open QQ PySem PySem.Spec PyProof.Rows L2
abbrev top (i : Nat) : Stmt := PySem.Challenge.pw_closedsums_k79_ranges_and_totals.main.body.getD i (.Pass ⟨0, 0, 0, 0⟩)
def clsB (s : Stmt) : List Stmt := match s with
  | .ClassDef _ _ _ b _ _ _ _ _ _ _ => b
  | _ => []
abbrev meth (i j : Nat) : Stmt := (clsB (top i)).getD j (.Pass ⟨0, 0, 0, 0⟩)
def sts : Nat → Stmt
  | 0 => top 87
  | 1 => top 60
  | 2 => top 61
  | 3 => top 86
  | 4 => top 82
  | 5 => top 81
  | 6 => top 59
  | 7 => top 84
  | 8 => top 49
  | 9 => top 83
  | 10 => top 85
  | 11 => top 52
  | 12 => top 57
  | 13 => top 80
  | 14 => top 78
  | 15 => top 10
  | 16 => top 11
  | 17 => top 64
  | 18 => top 41
  | 19 => top 51
  | 20 => top 50
  | 21 => top 53
  | 22 => top 54
  | 23 => top 56
  | 24 => top 65
  | 25 => top 76
  | 26 => top 63
  | 27 => top 79
  | 28 => top 73
  | 29 => top 71
  | 30 => top 9
  | 31 => top 40
  | 32 => top 55
  | 33 => top 69
  | 34 => top 62
  | 35 => top 66
  | 36 => top 70
  | 37 => top 39
  | 38 => top 33
  | 39 => top 28
  | 40 => top 18
  | 41 => top 45
  | 42 => top 38
  | 43 => top 30
  | 44 => top 17
  | 45 => top 19
  | 46 => top 42
  | 47 => top 32
  | 48 => top 44
  | 49 => top 43
  | 50 => top 26
  | 51 => top 22
  | 52 => top 20
  | 53 => top 13
  | 54 => meth 24 4
  | 55 => meth 24 7
  | _ => .Pass ⟨0, 0, 0, 0⟩
def pl : List QQ.Place := [(("law" : PySem.Str), none), (("_law_well" : PySem.Str), none), (("_law_draw" : PySem.Str), none), (("_law_is_range" : PySem.Str), none), (("_law_known" : PySem.Str), none), (("_law_term" : PySem.Str), none), (("_law_is" : PySem.Str), none), (("_law_suits" : PySem.Str), none), (("is_range" : PySem.Str), none), (("_law_sum_from" : PySem.Str), none), (("_law_told" : PySem.Str), none), (("suits" : PySem.Str), none), (("total" : PySem.Str), none), (("_law_at" : PySem.Str), none), (("_law_b_drawn" : PySem.Str), none), (("within" : PySem.Str), none), (("is_row" : PySem.Str), none), (("_law_plus" : PySem.Str), none), (("need_double_term" : PySem.Str), none), (("need_range" : PySem.Str), none), (("is_suited" : PySem.Str), none), (("need_suited" : PySem.Str), none), (("need_index" : PySem.Str), none), (("sum_at" : PySem.Str), none), (("_law_times" : PySem.Str), none), (("_law_b_value" : PySem.Str), none), (("_law_ratio" : PySem.Str), none), (("_law_factorial" : PySem.Str), none), (("_law_b_cut" : PySem.Str), none), (("_law_drawn" : PySem.Str), none), (("is_int" : PySem.Str), none), (("is_double_term" : PySem.Str), none), (("sum_between" : PySem.Str), none), (("_law_value" : PySem.Str), none), (("_law_gcd" : PySem.Str), none), (("_law_cut" : PySem.Str), none), (("_law_ratio_drawn" : PySem.Str), none), (("are_triples" : PySem.Str), none), (("is_double" : PySem.Str), none), (("is_ratio" : PySem.Str), none), (("added" : PySem.Str), none), (("term_value" : PySem.Str), none), (("is_triple" : PySem.Str), none), (("is_polynomial" : PySem.Str), none), (("lowest" : PySem.Str), none), (("multiplied" : PySem.Str), none), (("number_of" : PySem.Str), none), (("b_value" : PySem.Str), none), (("factorials" : PySem.Str), none), (("power_of" : PySem.Str), none), (("p_value" : PySem.Str), none), (("raised" : PySem.Str), none), (("inverse" : PySem.Str), none), (("d_value" : PySem.Str), none), (("RatioField" : PySem.Str), some ("plus" : PySem.Str)), (("RatioField" : PySem.Str), some ("times" : PySem.Str))]
def fn : List He.DefD := [dOf f0 (plN pl 0) (sts 0), dOf f1 (plN pl 1) (sts 1), dOf f2 (plN pl 2) (sts 2), dOf f3 (plN pl 3) (sts 3), dOf f4 (plN pl 4) (sts 4), dOf f5 (plN pl 5) (sts 5), dOf f6 (plN pl 6) (sts 6), dOf f7 (plN pl 7) (sts 7), dOf f8 (plN pl 8) (sts 8), dOf f9 (plN pl 9) (sts 9), dOf f10 (plN pl 10) (sts 10), dOf f11 (plN pl 11) (sts 11), dOf f12 (plN pl 12) (sts 12), dOf f13 (plN pl 13) (sts 13), dOf f14 (plN pl 14) (sts 14), dOf f15 (plN pl 15) (sts 15), dOf f16 (plN pl 16) (sts 16), dOf f17 (plN pl 17) (sts 17), dOf f18 (plN pl 18) (sts 18), dOf f19 (plN pl 19) (sts 19), dOf f20 (plN pl 20) (sts 20), dOf f21 (plN pl 21) (sts 21), dOf f22 (plN pl 22) (sts 22), dOf f23 (plN pl 23) (sts 23), dOf f24 (plN pl 24) (sts 24), dOf f25 (plN pl 25) (sts 25), dOf f26 (plN pl 26) (sts 26), dOf f27 (plN pl 27) (sts 27), dOf f28 (plN pl 28) (sts 28), dOf f29 (plN pl 29) (sts 29), dOf f30 (plN pl 30) (sts 30), dOf f31 (plN pl 31) (sts 31), dOf f32 (plN pl 32) (sts 32), dOf f33 (plN pl 33) (sts 33), dOf f34 (plN pl 34) (sts 34), dOf f35 (plN pl 35) (sts 35), dOf f36 (plN pl 36) (sts 36), dOf f37 (plN pl 37) (sts 37), dOf f38 (plN pl 38) (sts 38), dOf f39 (plN pl 39) (sts 39), dOf f40 (plN pl 40) (sts 40), dOf f41 (plN pl 41) (sts 41), dOf f42 (plN pl 42) (sts 42), dOf f43 (plN pl 43) (sts 43), dOf f44 (plN pl 44) (sts 44), dOf f45 (plN pl 45) (sts 45), dOf f46 (plN pl 46) (sts 46), dOf f47 (plN pl 47) (sts 47), dOf f48 (plN pl 48) (sts 48), dOf f49 (plN pl 49) (sts 49), dOf f50 (plN pl 50) (sts 50), dOf f51 (plN pl 51) (sts 51), dOf f52 (plN pl 52) (sts 52), dOf f53 (plN pl 53) (sts 53), dOf f54 (plN pl 54) (sts 54), dOf f55 (plN pl 55) (sts 55)]
theorem k0 : defB P f0 (sts 0) = true := by decide +kernel
theorem k1 : defB P f1 (sts 1) = true := by decide +kernel
theorem k2 : defB P f2 (sts 2) = true := by decide +kernel
theorem k3 : defB P f3 (sts 3) = true := by decide +kernel
theorem k4 : defB P f4 (sts 4) = true := by decide +kernel
theorem k5 : defB P f5 (sts 5) = true := by decide +kernel
theorem k6 : defB P f6 (sts 6) = true := by decide +kernel
theorem k7 : defB P f7 (sts 7) = true := by decide +kernel
theorem k8 : defB P f8 (sts 8) = true := by decide +kernel
theorem k9 : defB P f9 (sts 9) = true := by decide +kernel
theorem k10 : defB P f10 (sts 10) = true := by decide +kernel
theorem k11 : defB P f11 (sts 11) = true := by decide +kernel
theorem k12 : defB P f12 (sts 12) = true := by decide +kernel
theorem k13 : defB P f13 (sts 13) = true := by decide +kernel
theorem k14 : defB P f14 (sts 14) = true := by decide +kernel
theorem k15 : defB P f15 (sts 15) = true := by decide +kernel
theorem k16 : defB P f16 (sts 16) = true := by decide +kernel
theorem k17 : defB P f17 (sts 17) = true := by decide +kernel
theorem k18 : defB P f18 (sts 18) = true := by decide +kernel
theorem k19 : defB P f19 (sts 19) = true := by decide +kernel
theorem k20 : defB P f20 (sts 20) = true := by decide +kernel
theorem k21 : defB P f21 (sts 21) = true := by decide +kernel
theorem k22 : defB P f22 (sts 22) = true := by decide +kernel
theorem k23 : defB P f23 (sts 23) = true := by decide +kernel
theorem k24 : defB P f24 (sts 24) = true := by decide +kernel
theorem k25 : defB P f25 (sts 25) = true := by decide +kernel
theorem k26 : defB P f26 (sts 26) = true := by decide +kernel
theorem k27 : defB P f27 (sts 27) = true := by decide +kernel
theorem k28 : defB P f28 (sts 28) = true := by decide +kernel
theorem k29 : defB P f29 (sts 29) = true := by decide +kernel
theorem k30 : defB P f30 (sts 30) = true := by decide +kernel
theorem k31 : defB P f31 (sts 31) = true := by decide +kernel
theorem k32 : defB P f32 (sts 32) = true := by decide +kernel
theorem k33 : defB P f33 (sts 33) = true := by decide +kernel
theorem k34 : defB P f34 (sts 34) = true := by decide +kernel
theorem k35 : defB P f35 (sts 35) = true := by decide +kernel
theorem k36 : defB P f36 (sts 36) = true := by decide +kernel
theorem k37 : defB P f37 (sts 37) = true := by decide +kernel
theorem k38 : defB P f38 (sts 38) = true := by decide +kernel
theorem k39 : defB P f39 (sts 39) = true := by decide +kernel
theorem k40 : defB P f40 (sts 40) = true := by decide +kernel
theorem k41 : defB P f41 (sts 41) = true := by decide +kernel
theorem k42 : defB P f42 (sts 42) = true := by decide +kernel
theorem k43 : defB P f43 (sts 43) = true := by decide +kernel
theorem k44 : defB P f44 (sts 44) = true := by decide +kernel
theorem k45 : defB P f45 (sts 45) = true := by decide +kernel
theorem k46 : defB P f46 (sts 46) = true := by decide +kernel
theorem k47 : defB P f47 (sts 47) = true := by decide +kernel
theorem k48 : defB P f48 (sts 48) = true := by decide +kernel
theorem k49 : defB P f49 (sts 49) = true := by decide +kernel
theorem k50 : defB P f50 (sts 50) = true := by decide +kernel
theorem k51 : defB P f51 (sts 51) = true := by decide +kernel
theorem k52 : defB P f52 (sts 52) = true := by decide +kernel
theorem k53 : defB P f53 (sts 53) = true := by decide +kernel
theorem k54 : defB P f54 (sts 54) = true := by decide +kernel
theorem k55 : defB P f55 (sts 55) = true := by decide +kernel
def nm0 : List PySem.Str := ["factorial", "gcd", "_wall", "SumError", "BadIndex", "BadDoubleTerm", "BadRange", "NotSuited", "is_int", "within", "is_row", "d_value", "ZERO", "ONE", "lowest", "added", "multiplied", "inverse", "inverse_rationals", "raised", "RatioField", "p_value", "is_ratio", "is_polynomial", "b_value", "is_double", "MOST_TRIPLES", "MOST_SLOPE_doubleterms", "MOST_START", "is_triple"]
def nm1 : List PySem.Str := ["are_triples", "is_double_term", "need_double_term", "number_of", "power_of", "factorials", "term_value", "MOST_SLOPE_doublesums", "MOST_INDEX", "is_range", "is_suited", "need_range", "suits", "need_suited", "need_index", "sum_between", "sum_at", "total", "_law_is", "_law_well", "_law_draw", "_law_gcd", "_law_ratio", "_law_plus", "_law_times", "_law_cut", "_law_sum", "_law_product", "_law_value", "_law_ratio_drawn"]
def nm2 : List PySem.Str := ["_law_drawn", "_law_moved", "_law_b_cut", "_law_b_sum", "_law_b_product", "_law_b_value", "_law_b_moved", "_law_b_drawn", "_law_factorial", "_law_at", "_law_term", "_law_known", "_law_sum_from", "_law_suits", "_law_told", "_law_is_range"]
def nms : List PySem.Str := nm0 ++ nm1 ++ nm2
def fa : List He.Fa := [.glo "law"]
abbrev hdR : PySem.W.OpenRow := PySem.W.OpenLaw.row PySem.Challenge.rw_closedsums_k79_ranges_and_totals
abbrev hk : PySem.W.Hook := He.hookX 4 fa fn [] [] (pokB P pl)

theorem defs_ok {K : PySem.W.Frag} (c : He.SaysD fa fn K) : ∀ f F, P.fns[f]? = some F → (∃ fd, FunD K F.x F.qual (defArgs (sts f)) (defBody (sts f)) (defScope (sts f)) [] [] (He.fAd K (plN pl f)) fd) ∧ defB P F (sts f) = true
  | 0, F, h => by cases (show some f0 = some F from h); exact ⟨c.def_ 0 (d := dOf f0 (plN pl 0) (sts 0)) rfl, k0⟩
  | 1, F, h => by cases (show some f1 = some F from h); exact ⟨c.def_ 1 (d := dOf f1 (plN pl 1) (sts 1)) rfl, k1⟩
  | 2, F, h => by cases (show some f2 = some F from h); exact ⟨c.def_ 2 (d := dOf f2 (plN pl 2) (sts 2)) rfl, k2⟩
  | 3, F, h => by cases (show some f3 = some F from h); exact ⟨c.def_ 3 (d := dOf f3 (plN pl 3) (sts 3)) rfl, k3⟩
  | 4, F, h => by cases (show some f4 = some F from h); exact ⟨c.def_ 4 (d := dOf f4 (plN pl 4) (sts 4)) rfl, k4⟩
  | 5, F, h => by cases (show some f5 = some F from h); exact ⟨c.def_ 5 (d := dOf f5 (plN pl 5) (sts 5)) rfl, k5⟩
  | 6, F, h => by cases (show some f6 = some F from h); exact ⟨c.def_ 6 (d := dOf f6 (plN pl 6) (sts 6)) rfl, k6⟩
  | 7, F, h => by cases (show some f7 = some F from h); exact ⟨c.def_ 7 (d := dOf f7 (plN pl 7) (sts 7)) rfl, k7⟩
  | 8, F, h => by cases (show some f8 = some F from h); exact ⟨c.def_ 8 (d := dOf f8 (plN pl 8) (sts 8)) rfl, k8⟩
  | 9, F, h => by cases (show some f9 = some F from h); exact ⟨c.def_ 9 (d := dOf f9 (plN pl 9) (sts 9)) rfl, k9⟩
  | 10, F, h => by cases (show some f10 = some F from h); exact ⟨c.def_ 10 (d := dOf f10 (plN pl 10) (sts 10)) rfl, k10⟩
  | 11, F, h => by cases (show some f11 = some F from h); exact ⟨c.def_ 11 (d := dOf f11 (plN pl 11) (sts 11)) rfl, k11⟩
  | 12, F, h => by cases (show some f12 = some F from h); exact ⟨c.def_ 12 (d := dOf f12 (plN pl 12) (sts 12)) rfl, k12⟩
  | 13, F, h => by cases (show some f13 = some F from h); exact ⟨c.def_ 13 (d := dOf f13 (plN pl 13) (sts 13)) rfl, k13⟩
  | 14, F, h => by cases (show some f14 = some F from h); exact ⟨c.def_ 14 (d := dOf f14 (plN pl 14) (sts 14)) rfl, k14⟩
  | 15, F, h => by cases (show some f15 = some F from h); exact ⟨c.def_ 15 (d := dOf f15 (plN pl 15) (sts 15)) rfl, k15⟩
  | 16, F, h => by cases (show some f16 = some F from h); exact ⟨c.def_ 16 (d := dOf f16 (plN pl 16) (sts 16)) rfl, k16⟩
  | 17, F, h => by cases (show some f17 = some F from h); exact ⟨c.def_ 17 (d := dOf f17 (plN pl 17) (sts 17)) rfl, k17⟩
  | 18, F, h => by cases (show some f18 = some F from h); exact ⟨c.def_ 18 (d := dOf f18 (plN pl 18) (sts 18)) rfl, k18⟩
  | 19, F, h => by cases (show some f19 = some F from h); exact ⟨c.def_ 19 (d := dOf f19 (plN pl 19) (sts 19)) rfl, k19⟩
  | 20, F, h => by cases (show some f20 = some F from h); exact ⟨c.def_ 20 (d := dOf f20 (plN pl 20) (sts 20)) rfl, k20⟩
  | 21, F, h => by cases (show some f21 = some F from h); exact ⟨c.def_ 21 (d := dOf f21 (plN pl 21) (sts 21)) rfl, k21⟩
  | 22, F, h => by cases (show some f22 = some F from h); exact ⟨c.def_ 22 (d := dOf f22 (plN pl 22) (sts 22)) rfl, k22⟩
  | 23, F, h => by cases (show some f23 = some F from h); exact ⟨c.def_ 23 (d := dOf f23 (plN pl 23) (sts 23)) rfl, k23⟩
  | 24, F, h => by cases (show some f24 = some F from h); exact ⟨c.def_ 24 (d := dOf f24 (plN pl 24) (sts 24)) rfl, k24⟩
  | 25, F, h => by cases (show some f25 = some F from h); exact ⟨c.def_ 25 (d := dOf f25 (plN pl 25) (sts 25)) rfl, k25⟩
  | 26, F, h => by cases (show some f26 = some F from h); exact ⟨c.def_ 26 (d := dOf f26 (plN pl 26) (sts 26)) rfl, k26⟩
  | 27, F, h => by cases (show some f27 = some F from h); exact ⟨c.def_ 27 (d := dOf f27 (plN pl 27) (sts 27)) rfl, k27⟩
  | 28, F, h => by cases (show some f28 = some F from h); exact ⟨c.def_ 28 (d := dOf f28 (plN pl 28) (sts 28)) rfl, k28⟩
  | 29, F, h => by cases (show some f29 = some F from h); exact ⟨c.def_ 29 (d := dOf f29 (plN pl 29) (sts 29)) rfl, k29⟩
  | 30, F, h => by cases (show some f30 = some F from h); exact ⟨c.def_ 30 (d := dOf f30 (plN pl 30) (sts 30)) rfl, k30⟩
  | 31, F, h => by cases (show some f31 = some F from h); exact ⟨c.def_ 31 (d := dOf f31 (plN pl 31) (sts 31)) rfl, k31⟩
  | 32, F, h => by cases (show some f32 = some F from h); exact ⟨c.def_ 32 (d := dOf f32 (plN pl 32) (sts 32)) rfl, k32⟩
  | 33, F, h => by cases (show some f33 = some F from h); exact ⟨c.def_ 33 (d := dOf f33 (plN pl 33) (sts 33)) rfl, k33⟩
  | 34, F, h => by cases (show some f34 = some F from h); exact ⟨c.def_ 34 (d := dOf f34 (plN pl 34) (sts 34)) rfl, k34⟩
  | 35, F, h => by cases (show some f35 = some F from h); exact ⟨c.def_ 35 (d := dOf f35 (plN pl 35) (sts 35)) rfl, k35⟩
  | 36, F, h => by cases (show some f36 = some F from h); exact ⟨c.def_ 36 (d := dOf f36 (plN pl 36) (sts 36)) rfl, k36⟩
  | 37, F, h => by cases (show some f37 = some F from h); exact ⟨c.def_ 37 (d := dOf f37 (plN pl 37) (sts 37)) rfl, k37⟩
  | 38, F, h => by cases (show some f38 = some F from h); exact ⟨c.def_ 38 (d := dOf f38 (plN pl 38) (sts 38)) rfl, k38⟩
  | 39, F, h => by cases (show some f39 = some F from h); exact ⟨c.def_ 39 (d := dOf f39 (plN pl 39) (sts 39)) rfl, k39⟩
  | 40, F, h => by cases (show some f40 = some F from h); exact ⟨c.def_ 40 (d := dOf f40 (plN pl 40) (sts 40)) rfl, k40⟩
  | 41, F, h => by cases (show some f41 = some F from h); exact ⟨c.def_ 41 (d := dOf f41 (plN pl 41) (sts 41)) rfl, k41⟩
  | 42, F, h => by cases (show some f42 = some F from h); exact ⟨c.def_ 42 (d := dOf f42 (plN pl 42) (sts 42)) rfl, k42⟩
  | 43, F, h => by cases (show some f43 = some F from h); exact ⟨c.def_ 43 (d := dOf f43 (plN pl 43) (sts 43)) rfl, k43⟩
  | 44, F, h => by cases (show some f44 = some F from h); exact ⟨c.def_ 44 (d := dOf f44 (plN pl 44) (sts 44)) rfl, k44⟩
  | 45, F, h => by cases (show some f45 = some F from h); exact ⟨c.def_ 45 (d := dOf f45 (plN pl 45) (sts 45)) rfl, k45⟩
  | 46, F, h => by cases (show some f46 = some F from h); exact ⟨c.def_ 46 (d := dOf f46 (plN pl 46) (sts 46)) rfl, k46⟩
  | 47, F, h => by cases (show some f47 = some F from h); exact ⟨c.def_ 47 (d := dOf f47 (plN pl 47) (sts 47)) rfl, k47⟩
  | 48, F, h => by cases (show some f48 = some F from h); exact ⟨c.def_ 48 (d := dOf f48 (plN pl 48) (sts 48)) rfl, k48⟩
  | 49, F, h => by cases (show some f49 = some F from h); exact ⟨c.def_ 49 (d := dOf f49 (plN pl 49) (sts 49)) rfl, k49⟩
  | 50, F, h => by cases (show some f50 = some F from h); exact ⟨c.def_ 50 (d := dOf f50 (plN pl 50) (sts 50)) rfl, k50⟩
  | 51, F, h => by cases (show some f51 = some F from h); exact ⟨c.def_ 51 (d := dOf f51 (plN pl 51) (sts 51)) rfl, k51⟩
  | 52, F, h => by cases (show some f52 = some F from h); exact ⟨c.def_ 52 (d := dOf f52 (plN pl 52) (sts 52)) rfl, k52⟩
  | 53, F, h => by cases (show some f53 = some F from h); exact ⟨c.def_ 53 (d := dOf f53 (plN pl 53) (sts 53)) rfl, k53⟩
  | 54, F, h => by cases (show some f54 = some F from h); exact ⟨c.def_ 54 (d := dOf f54 (plN pl 54) (sts 54)) rfl, k54⟩
  | 55, F, h => by cases (show some f55 = some F from h); exact ⟨c.def_ 55 (d := dOf f55 (plN pl 55) (sts 55)) rfl, k55⟩
  | f + 56, F, h => by cases (show (none : Option Fn) = some F from h)
theorem kw_ok (f n : Nat) (ks : List (Option PySem.Str)) (perm : List Nat) (h : (f, n, ks, perm) ∈ P.kwt) : ∃ F, P.fns[f]? = some F ∧ ∀ (fd : FuncData), fd.params = defArgs (sts f) → fd.defaults = .none → ∀ (us ws : List Value), us.length = n → ws.length = ks.length → bindArgs fd ⟨us, (ks.filterMap id).zip ws⟩ = pure ((F.N.take F.np).zip (permL (us ++ ws) perm)) := by
  simp only [P, List.mem_cons, List.not_mem_nil, or_false, Prod.mk.injEq] at h
  rcases h with ⟨rfl, rfl, rfl, rfl⟩ | ⟨rfl, rfl, rfl, rfl⟩ | ⟨rfl, rfl, rfl, rfl⟩
  · refine ⟨f11, rfl, fun fd hp hd us ws h1 h2 => ?_⟩
    match us, ws, h1, h2 with
    | [], [v0, v1], _, _ => unfold bindArgs; rw [hp, hd]; rfl
  · refine ⟨f12, rfl, fun fd hp hd us ws h1 h2 => ?_⟩
    match us, ws, h1, h2 with
    | [], [v0, v1, v2], _, _ => unfold bindArgs; rw [hp, hd]; rfl
  · refine ⟨f8, rfl, fun fd hp hd us ws h1 h2 => ?_⟩
    match us, ws, h1, h2 with
    | [], [v0], _, _ => unfold bindArgs; rw [hp, hd]; rfl
theorem attr_nd : P.attr.Nodup := by decide +kernel
theorem only_frz {K : PySem.W.Frag} {H : Hp} {a : Addr} {xs : List V} (ho : Only H) (h : SqL K H a xs) : FrzL K H a xs := by
  rcases h with (h | h) | h
  · rcases ho a with e | ⟨o, ys, e⟩
    · rw [h] at e; cases e
    · rw [h] at e; cases e
  · exact .inl h
  · exact .inr h
theorem reps (K : PySem.W.Frag) (η : List Addr) (H : Hp) : ∀ ns : List Int, RepAll K η H (ns.map D.int) (ns.map V.int)
  | [] => .nil
  | n :: ns => .cons (.int n) (reps K η H ns)
theorem facts {K : PySem.W.Frag} {h : Heap} {mg : PySem.Str → Option Value} {f : Addr} {w : World} (X : K.In h) (Gm : h.Ns mainGlobals mg) (hfa : mg ("law" : PySem.Str) = some (.ref f)) (c : He.SaysX fa fn [] [] (pokB P pl) w h K) :
    ∃ fd : FuncData, (∀ (s : Shared) (u : Value), BindsTo s fd ⟨[u], []⟩ [("script", u)]) ∧ ∀ (prog : Program) (base : Heap), K.In base → base.Ns mainGlobals mg → FnOk prog w K mg base (L2.CX prog w) (2 * 60) f fd ["script"] (spC ⟨P, fnS P LL 60, LL⟩ (globOf P pl K) K 0) := by
  obtain ⟨pk, fat⟩ := pok_of (sts := sts) X Gm attr_nd c.more (defs_ok c.t.d) kw_ok
  have e := hfa.symm.trans (He.glo_ok X Gm (c.t.d.fact 0 (f := .glo "law") rfl))
  have ef : f = (globOf P pl K).fa 0 := by
    injection e with e
    injection e
  subst ef
  refine ⟨(globOf P pl K).fd 0, fun s u => ?_, fun prog base _ _ => fn_all pk fat LL 60 0 f0 rfl⟩
  obtain ⟨fd, FD⟩ := c.t.d.def_ 0 (d := dOf f0 (plN pl 0) (sts 0)) rfl
  have e2 : (globOf P pl K).fd 0 = fd := funD_fd FD
  rw [e2]
  exact FD.bindsA (ps := ["script"]) (fun _ _ _ _ _ _ us hl => match us, hl with | [_], _ => rfl) s [u] rfl
theorem sp_law (K : PySem.W.Frag) (Hh : Hp) (a : Addr) (ns : List Int) (hn : ns.length ≤ 63) (ho : Only Hh) (hS : SqL K Hh a (ns.map V.int)) : spC ⟨P, fnS P LL 60, LL⟩ (globOf P pl K) K 0 [.ref a] Hh (fun v _ => v = .bl true) fun _ _ _ => False := by
  obtain ⟨w', e⟩ := law_true ns hn
  refine ⟨f0, [], ⟨[], 0⟩, [.frz (ns.map D.int)], rfl, rfl, ⟨rfl, by simp, fun n c a h => by simp at h⟩, .cons (.frz (only_frz ho hS) (reps K [] Hh ns)) .nil, ?_⟩
  show (fnS P LL 60 0 [.frz (ns.map D.int)] ⟨[], 0⟩).sat _ _
  rw [e]
  intro v H' η' _ rv
  cases rv
  rfl
end LW
open PySem PySem.W PySem.Calls PyProof.Rows
theorem PySem.Challenge.cw_closedsums_k79_ranges_and_totals_holds : PySem.Challenge.rw_closedsums_k79_ranges_and_totals.Holds := by
  w_on; o_law
  o_head LW.hk
  case hw => w_witness2
  case hc =>
    refine QQ.walk_w (l := PySem.Challenge.rw_closedsums_k79_ranges_and_totals) (n := 63) (k := 2 * 60) (x := "script") (CX := L2.CX (PySem.Challenge.rw_closedsums_k79_ranges_and_totals).prog) rfl (by decide) (by kernel_rfl) ⟨rfl, by decide, by decide⟩ ?F ?G
    · intro w mg fa h Y Gm hmg0
      obtain ⟨K, KX, c⟩ := Y
      have hmg : mg ("law" : PySem.Str) = some (.ref fa) := by
        have e : (HandSHeadRun.topDef (OpenLaw.row PySem.Challenge.rw_closedsums_k79_ranges_and_totals).prog 87).name = ("law" : PySem.Str) := by kernel_rfl
        rw [← e]
        exact hmg0
      obtain ⟨fd, hb, hF⟩ := LW.facts KX Gm hmg c
      exact ⟨K, fd, _, KX, hb, fun H a ns hl ho hS => LW.sp_law K H a ns hl ho hS, fun base h1 h2 => hF (PySem.Challenge.rw_closedsums_k79_ranges_and_totals).prog base h1 h2⟩
    · exact fun _ _ _ _ _ ⟨_, _, _, _, _, _, _, _, _, _, _, _, z⟩ => z
