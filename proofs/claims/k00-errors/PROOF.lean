import PyProof.Rows.All
import Wide.All
import OpenK.AllK
import Wide.FinOn
import HandS.ForMost
import HandS.Wide
import HandS.Walk
import HandS.TupAny
import HandS.IsInst
import HandS.Style
import HandS.Deep
import HandS.Zip
import HandS.CallLocal
import HandS.Defaults
import HandS.TupLen
import HandS.Small
import HandS.ExcInit
import HandS.ExcField
import HandS.ExcOwn
import KE.KExcIs
import HandS.Text
import HandS.More
import HandS.WordsDict
import KE.IntTextLaws
import HandS.Ends
import HandS.Head0
import HandS.Head1
import HandS.Head2
import HandS.HeadEnd
import HandS.HeadHook1
import HandS.HeadHook2
import PySem.Challenge.RW_endlessplans_k00_errors
section
/-! A small Python of our own: values, a store, syntax with slots, and what must hold so that a piece of code ends well. -/
set_option autoImplicit false
namespace Py
/-- a text: its signs by their numbers -/
abbrev Sx := List Nat
/-- a value: tuples are trees (gt: one that stands in the module's text); lists, dicts, instances stand in the store -/
inductive D where
  | non | bl (b : Bool) | int (i : Int) | str (s : Sx) | tup (xs : List D) | gt (xs : List D) | ref (n : Nat) | fn (k : Nat)
/-- a flat key of a dict -/
inductive Ky where
  | i (z : Int) | s (x : Sx)
  deriving DecidableEq
/-- what stands in the store; rol: a list that is only read; lok: locked while it is walked -/
inductive O where
  | exc (c : Nat) (fs : List (Sx × D)) | lst (xs : List D) | dk (kvs : List (Ky × D)) | dt (kvs : List (List Ky × D)) | ins (c : Nat) (fs : List (Sx × D)) | rol (xs : List D) | lok (o : O)
abbrev Sto := List O
abbrev Env := List (Option D)
abbrev K1 := D → Sto → Prop
def LINE : Nat := 16777216
/-! ### plain data, for == and repr -/
inductive P where
  | non | bl (b : Bool) | int (i : Int) | str (s : Sx) | lst (xs : List P) | tup (xs : List P)
mutual
def eqP : P → P → Bool
  | .non, .non => true
  | .bl a, .bl b => a == b
  | .bl a, .int j => (if a then 1 else 0) == j
  | .int i, .bl b => i == (if b then 1 else 0)
  | .int i, .int j => i == j
  | .str x, .str y => x == y
  | .lst xs, .lst ys => eqPs xs ys
  | .tup xs, .tup ys => eqPs xs ys
  | _, _ => false
def eqPs : List P → List P → Bool
  | [], [] => true
  | x :: xs, y :: ys => eqP x y && eqPs xs ys
  | _, _ => false
end
/-- the list at n, if a list is there -/
def lstAt (st : Sto) (n : Nat) : Option (List D) := match st[n]? with
  | some (.lst xs) => some xs
  | some (.rol xs) => some xs
  | _ => none
def omap {α β : Type} (f : α → Option β) : List α → Option (List β)
  | [] => some []
  | x :: xs => match f x, omap f xs with
    | some y, some ys => some (y :: ys)
    | _, _ => none
/-- the plain data of a value, to a depth -/
def toP (st : Sto) : Nat → D → Option P
  | 0, _ => none
  | _ + 1, .non => some .non
  | _ + 1, .bl b => some (.bl b)
  | _ + 1, .int i => some (.int i)
  | _ + 1, .str s => some (.str s)
  | n + 1, .tup xs => (omap (toP st n) xs).map .tup
  | n + 1, .gt xs => (omap (toP st n) xs).map .tup
  | n + 1, .ref k => match lstAt st k with
    | some xs => (omap (toP st n) xs).map .lst
    | none => none
  | _ + 1, .fn _ => none
mutual
/-- the size of plain data -/
def wtP : P → Nat
  | .str x => x.length
  | .lst xs => wtPs xs
  | .tup xs => wtPs xs
  | .int i => if i == 0 then 0 else i.natAbs.log2 + 1
  | .non => 0
  | .bl _ => 0
def wtPs : List P → Nat
  | [] => 0
  | x :: xs => wtP x + 1 + wtPs xs
end
mutual
/-- all ints are below 2 ^ 160 -/
def shortP : P → Bool
  | .int i => decide (i.natAbs.log2 < 160)
  | .lst xs => shortPs xs
  | .tup xs => shortPs xs
  | _ => true
def shortPs : List P → Bool
  | [] => true
  | x :: xs => shortP x && shortPs xs
end
/-- repr may be asked of it -/
def repOk (p : P) : Bool := shortP p && decide (wtP p ≤ 100000)
/-! ### operators -/
inductive Bop where
  | add | sub | mul | fdiv | mod | pow | shl | shr | band
inductive Cop where
  | eq | ne | lt | le | gt | ge | isin | nin | isn | isnn | isb | isnb
/-- the i-th of a row, as Python counts -/
def atN (n : Nat) (i : Int) : Option Nat :=
  if 0 ≤ i then (if i < n then some i.toNat else none) else (if -(n : Int) ≤ i then some (i + n).toNat else none)
def atI {α : Type} (xs : List α) (i : Int) : Option α := match atN xs.length i with
  | some j => xs[j]?
  | none => none
/-- a bound of a slice among n, d where none is told -/
def bnd (n d : Nat) : Option Int → Nat
  | some v => if v < 0 then (v + n).toNat else min v.toNat n
  | none => d
def cut {α : Type} (xs : List α) (lo hi : Option Int) : List α :=
  (xs.drop (bnd xs.length 0 lo)).take (bnd xs.length xs.length hi - bnd xs.length 0 lo)
def kyOf : D → Option Ky
  | .int z => some (.i z)
  | .str x => some (.s x)
  | _ => none
def dOfKy : Ky → D
  | .i z => .int z
  | .s x => .str x
def kysOf : D → Option (List Ky)
  | .tup xs => omap kyOf xs
  | _ => none
section
variable {κ : Type} [DecidableEq κ]
def dGet : List (κ × D) → κ → Option D
  | [], _ => none
  | (j, v) :: r, k => if j = k then some v else dGet r k
def dSet : List (κ × D) → κ → D → List (κ × D)
  | [], _, _ => []
  | (j, w) :: r, k, v => (if j = k then (j, v) else (j, w)) :: dSet r k v
def dPut (kvs : List (κ × D)) (k : κ) (v : D) : List (κ × D) := match dGet kvs k with
  | some _ => dSet kvs k v
  | none => kvs ++ [(k, v)]
def dDrop : List (κ × D) → κ → List (κ × D)
  | [], _ => []
  | (j, w) :: r, k => if j = k then dDrop r k else (j, w) :: dDrop r k
end
/-- what a dict says of a key -/
def getO : O → D → Option (Option D)
  | .dk kvs, k => (kyOf k).map (dGet kvs)
  | .dt kvs, k => (kysOf k).map (dGet kvs)
  | .lok o, k => getO o k
  | _, _ => none
def putO : O → D → D → Option O
  | .dk kvs, k, v => (kyOf k).bind fun k => if kvs.length < LINE then some (.dk (dPut kvs k v)) else none
  | .dt kvs, k, v => (kysOf k).bind fun k => if kvs.length < LINE then some (.dt (dPut kvs k v)) else none
  | _, _, _ => none
def wBin : Bop → D → D → Sto → K1 → Prop
  | .add, .int i, .int j, st, Q => Q (.int (i + j)) st
  | .add, .str a, .str b, st, Q => a.length + b.length ≤ LINE ∧ Q (.str (a ++ b)) st
  | .add, .tup a, .tup b, st, Q => a.length + b.length ≤ LINE ∧ Q (.tup (a ++ b)) st
  | .add, .ref m, .ref n, st, Q => ∃ a b, st[m]? = some (.lst a) ∧ st[n]? = some (.lst b) ∧ a.length + b.length ≤ LINE ∧ Q (.ref st.length) (st ++ [.lst (a ++ b)])
  | .sub, .int i, .int j, st, Q => Q (.int (i - j)) st
  | .mul, .int i, .int j, st, Q => i.natAbs.log2 + j.natAbs.log2 < 1000000 ∧ Q (.int (i * j)) st
  | .fdiv, .int i, .int j, st, Q => (0 < j ∧ j.natAbs.log2 < 9000) ∧ Q (.int (i / j)) st
  | .mod, .int i, .int j, st, Q => 0 < j ∧ Q (.int (i % j)) st
  | .pow, .int i, .int j, st, Q => (0 ≤ j ∧ j ≤ 1000000 ∧ i.natAbs < 2 ^ 64) ∧ Q (.int (i ^ j.toNat)) st
  | .shl, .int i, .int j, st, Q => (0 ≤ j ∧ j ≤ 1000000 ∧ i.natAbs < 2 ^ 64) ∧ Q (.int (i * 2 ^ j.toNat)) st
  | .shr, .int i, .int j, st, Q => 0 ≤ j ∧ Q (.int (i / 2 ^ j.toNat)) st
  | .band, .int i, .int j, st, Q => (j = 1 ∧ 0 ≤ i) ∧ Q (.int (i % 2)) st
  | _, _, _, _, _ => False
/-- == of two values -/
def eqD (st : Sto) (x y : D) : Option Bool := match toP st 60 x, toP st 60 y with
  | some p, some q => some (eqP p q)
  | _, _ => none
/-- a value that `in` over a row may be asked about without a look into the store -/
def anyEq (st : Sto) (x : D) (ys : List D) : Option Bool := match toP st 60 x, omap (toP st 60) ys with
  | some p, some qs => some (qs.any fun q => eqP q p)
  | _, _ => none
/-- is a in b -/
def inD (st : Sto) (x : D) : D → Option Bool
  | .tup ys => anyEq st x ys
  | .gt ys => anyEq st x ys
  | .ref n => match st[n]? with
    | some (.lst ys) => anyEq st x ys
    | some (.rol ys) => anyEq st x ys
    | some o => (getO o x).map (·.isSome)
    | none => none
  | .str s => match x with
    | .str [c] => some (s.contains c)
    | _ => none
  | _ => none
def isNon : D → Bool
  | .non => true
  | _ => false
def cmpD (st : Sto) : Cop → D → D → Option Bool
  | .eq, x, y => eqD st x y
  | .ne, x, y => (eqD st x y).map (!·)
  | .lt, .int i, .int j => some (decide (i < j))
  | .le, .int i, .int j => some (decide (i ≤ j))
  | .gt, .int i, .int j => some (decide (j < i))
  | .ge, .int i, .int j => some (decide (j ≤ i))
  | .isin, x, y => inD st x y
  | .nin, x, y => (inD st x y).map (!·)
  | .isn, x, .non => some (isNon x)
  | .isnn, x, .non => some (!isNon x)
  | .isb, .bl a, .bl b => some (a == b)
  | .isnb, .bl a, .bl b => some (a != b)
  | _, _, _ => none
/-- the truth of a value -/
def truD (st : Sto) : D → Option Bool
  | .non => some false
  | .bl b => some b
  | .int i => some (i != 0)
  | .str s => some (!s.isEmpty)
  | .tup xs => some (!xs.isEmpty)
  | .gt xs => some (!xs.isEmpty)
  | .ref n => match st[n]? with
    | some (.lst xs) => some (!xs.isEmpty)
    | some (.rol xs) => some (!xs.isEmpty)
    | some (.dk kvs) => some (!kvs.isEmpty)
    | _ => none
  | _ => none
/-- a[i] -/
def ixD (st : Sto) : D → D → Option D
  | .tup xs, .int i => atI xs i
  | .gt xs, .int i => atI xs i
  | .str s, .int i => (atI s i).map fun c => .str [c]
  | .ref n, k => match st[n]? with
    | some (.lst xs) => match k with
      | .int i => atI xs i
      | _ => none
    | some (.rol xs) => match k with
      | .int i => atI xs i
      | _ => none
    | some o => (getO o k).join
    | none => none
  | _, _ => none
/-- a[lo:hi] -/
def wSl (x : D) (lo hi : Option Int) (st : Sto) (Q : K1) : Prop := match x with
  | .tup xs => Q (.tup (cut xs lo hi)) st
  | .str s => Q (.str (cut s lo hi)) st
  | .ref n => ∃ xs, lstAt st n = some xs ∧ Q (.ref st.length) (st ++ [.lst (cut xs lo hi)])
  | _ => False
/-! ### built-ins -/
inductive Bi where
  | len | int | str | repr | min2 | max2 | all | any | sum | max | min | sorted | list | tuple | dict | abs
inductive Bm where
  | append | pop | popAt | extend | index | get1 | get2 | setdefault | count | join | split | items
def isDig (c : Nat) : Bool := 48 ≤ c && c ≤ 57
/-- a text of figures alone as a number -/
def numOf (s : Sx) : Option Int :=
  if s.isEmpty = false ∧ s.all isDig = true ∧ s.length ≤ 600 then some ((s.foldl (fun a c => a * 10 + (c - 48)) 0 : Nat) : Int) else none
def strI (i : Int) : Sx := (toString i).toList.map Char.toNat
def asInt : D → Option Int
  | .int i => some i
  | _ => none
def asBl : D → Option Bool
  | .bl b => some b
  | _ => none
def allInts : List D → Option (List Int) := omap asInt
def allBls : List D → Option (List Bool) := omap asBl
def ins1 (x : Int) : List Int → List Int
  | [] => [x]
  | y :: ys => if x ≤ y then x :: y :: ys else y :: ins1 x ys
def isort : List Int → List Int
  | [] => []
  | x :: xs => ins1 x (isort xs)
/-- the items of a list or a tuple -/
def itemsD (st : Sto) : D → Option (List D)
  | .tup xs => some xs
  | .gt xs => some xs
  | .ref n => lstAt st n
  | _ => none
def lenD (st : Sto) : D → Option Nat
  | .tup xs => some xs.length
  | .gt xs => some xs.length
  | .str s => some s.length
  | .ref n => match st[n]? with
    | some (.lst xs) => some xs.length
    | some (.rol xs) => some xs.length
    | some (.dk kvs) => some kvs.length
    | some (.dt kvs) => some kvs.length
    | _ => none
  | _ => none
/-- what a call of a built-in gives: a value -/
def biD (rp : P → Sx) (st : Sto) : Bi → List D → Option D
  | .len, [x] => (lenD st x).map fun n => .int n
  | .int, [.int i] => some (.int i)
  | .int, [.bl b] => some (.int (if b then 1 else 0))
  | .int, [.str s] => (numOf s).map .int
  | .str, [.int i] => if i.natAbs.log2 < 1920 then some (.str (strI i)) else none
  | .repr, [x] => match toP st 50 x with
    | some p => if repOk p = true then some (.str (rp p)) else none
    | none => none
  | .min2, [.int i, .int j] => some (.int (if j < i then j else i))
  | .max2, [.int i, .int j] => some (.int (if j > i then j else i))
  | .abs, [.int i] => some (.int (if i < 0 then -i else i))
  | .all, [.ref n] => ((lstAt st n).bind allBls).map fun bs => .bl (bs.all id)
  | .any, [.ref n] => ((lstAt st n).bind allBls).map fun bs => .bl (bs.any id)
  | .sum, [.ref n] => ((lstAt st n).bind allInts).map fun is => .int is.sum
  | .tuple, [.tup xs] => some (.tup xs)
  | .tuple, [.ref n] => (lstAt st n).map .tup
  | _, _ => none
/-- .. or a new object -/
def biO (st : Sto) : Bi → List D → Option O
  | .list, [x] => (itemsD st x).map .lst
  | .sorted, [.ref n] => ((lstAt st n).bind allInts).bind fun is => if is.length < 64 then some (.lst ((isort is).map .int)) else none
  | _, _ => none
def wBi (rp : P → Sx) (b : Bi) (vs : List D) (st : Sto) (Q : K1) : Prop :=
  (∃ d, biD rp st b vs = some d ∧ Q d st) ∨ (∃ o, biO st b vs = some o ∧ Q (.ref st.length) (st ++ [o]))
/-- a method of a built-in type: the answer, the receiver behind it -/
def bmD (st : Sto) : Bm → D → List D → Option (D × Sto)
  | .append, .ref n, [y] => match st[n]? with
    | some (.lst xs) => if xs.length < LINE then some (.non, st.set n (.lst (xs ++ [y]))) else none
    | _ => none
  | .pop, .ref n, [] => match st[n]? with
    | some (.lst xs) => xs.getLast?.map fun y => (y, st.set n (.lst xs.dropLast))
    | _ => none
  | .popAt, .ref n, [.int i] => match st[n]? with
    | some (.lst xs) => match atN xs.length i with
      | some j => if -4611686018427387904 ≤ i ∧ i < 4611686018427387904 then xs[j]?.map fun y => (y, st.set n (.lst (xs.eraseIdx j))) else none
      | none => none
    | _ => none
  | .extend, .ref n, [.ref m] => match st[n]?, st[m]? with
    | some (.lst xs), some (.lst ys) => if xs.length + ys.length ≤ LINE then some (.non, st.set n (.lst (xs ++ ys))) else none
    | _, _ => none
  | .get1, .ref n, [k] => match st[n]? with
    | some o => (getO o k).map fun r => (r.getD .non, st)
    | none => none
  | .get2, .ref n, [k, d] => match st[n]? with
    | some o => (getO o k).map fun r => (r.getD d, st)
    | none => none
  | _, _, _ => none
def lstRcv (st : Sto) : D → Bool
  | .ref n => (lstAt st n).isSome
  | _ => false
def dctRcv (st : Sto) : D → Bool
  | .ref n => match st[n]? with
    | some (.dk _) => true
    | some (.dt _) => true
    | _ => false
  | _ => false
/-- a method of dicts -/
def dctM : Bm → Bool
  | .get1 | .get2 | .setdefault | .items => true
  | _ => false
/-- the receiver is of the method's type -/
def rcvOk (st : Sto) (x : D) (b : Bm) : Bool := if dctM b = true then dctRcv st x else lstRcv st x
/-! ### syntax -/
mutual
inductive E where
  | c (d : D) | v (i : Nat) | gd (k : Nat)
  | bin (o : Bop) (a b : E) | neg (a : E) | cmp (o : Cop) (a b : E) | chain (o o' : Cop) (a b c : E)
  | and (a b : E) | or (a b : E) | not (a : E) | ife (t : T) (a b : E)
  | tup (es : Es) | lst (es : Es) | dct (tk : Bool) (kvs : Es) | exc (c : Nat) (es : Es)
  | ix (a i : E) | sl (a : E) (lo hi : Es) | rev (a : E) | att (a : E) (f : Sx)
  | call (k : Nat) (es : Es) | callv (a : E) (es : Es) | new (c : Nat) (es : Es) | meth (a : E) (c : Nat) (m : Sx) (es : Es)
  | bi (b : Bi) (es : Es) | bm (b : Bm) (a : E) (es : Es) | isi (a : E) (t : List Nat)
  | lc (elt : E) (vs : List Nat) (tg : G) (it : I) (cond : T)
inductive T where
  | e (a : E) | and (a b : T) | or (a b : T) | not (a : T)
inductive Es where
  | nil | cons (e : E) (es : Es)
inductive I where
  | seq (e : E) | sgn (e : E) | rng1 (a : E) | rng2 (a b : E) | enum (e : E) | zip (a b : E)
inductive G where
  | nm (i : Nat) | tup (gs : Gs) | sub (a i : E) | att (a : E) (f : Sx)
inductive Gs where
  | nil | cons (g : G) (gs : Gs)
end
mutual
inductive S where
  | asg (g : G) (e : E) | par (is : List Nat) (es : Es) | aug (o : Bop) (i : Nat) (e : E) | ex (e : E) | ret (e : E) | ife (t : T) (a b : Ss)
  | for_ (g : G) (it : I) (b : Ss) | whl (t : T) (b : Ss) | brk | cont | pass | never
inductive Ss where
  | nil | cons (s : S) (ss : Ss)
end
mutual
/-- the slots that a target stores -/
def gsl : G → List Nat
  | .nm i => [i]
  | .tup gs => gsls gs
  | .sub _ _ => []
  | .att _ _ => []
def gsls : Gs → List Nat
  | .nil => []
  | .cons g gs => gsl g ++ gsls gs
end
def gsLen : Gs → Nat
  | .nil => 0
  | .cons _ gs => gsLen gs + 1
/-! ### what must hold -/
/-- what the code around gives: repr's words, what a call of def k asks, the methods and makers of classes, the dicts that stand -/
structure Cx where
  rp : P → Sx
  nf : Nat
  cls : Nat → Bool
  call : Nat → List D → Sto → K1 → Prop
  meth : Nat → Sx → Option Nat
  init : Nat → Option Nat
  gd : Nat → List (Ky × D)
  xc : Nat → Option (List Sx)
  isa : Nat → Nat → Option Bool
  isx : Nat → Nat → Option Bool
structure KS where
  nx : Env → Sto → Prop
  rt : D → Sto → Prop
  bk : Env → Sto → Prop
  ct : Env → Sto → Prop
def wipe (env : Env) : List Nat → Env
  | [] => env
  | i :: r => (wipe env r).set i none
def putF (f : Sx) (v : D) : List (Sx × D) → List (Sx × D)
  | [] => [(f, v)]
  | (g, w) :: r => if g = f then (g, v) :: r else (g, w) :: putF f v r
def getF (f : Sx) : List (Sx × D) → Option D
  | [] => none
  | (g, w) :: r => if g = f then some w else getF f r
/-- lists that a walk leans on stand as they were -/
def Live (st : Sto) (ls : List (Nat × List D)) : Prop := ∀ p ∈ ls, lstAt st p.1 = some p.2
/-- the turns of a for -/
def forW (tgt : D → Env → Sto → (Env → Sto → Prop) → Prop) (body : Env → Sto → KS → Prop) (live : List (Nat × List D)) (K : KS) : List D → Env → Sto → Prop
  | [], env, st => Live st live ∧ K.nx env st
  | x :: xs, env, st => Live st live ∧ tgt x env st fun env1 st1 => body env1 st1
      { nx := forW tgt body live K xs, ct := forW tgt body live K xs, bk := K.nx, rt := K.rt }
/-- the turns of a comprehension: the new list stands at n -/
def lcW (tgt : D → Env → Sto → (Env → Sto → Prop) → Prop) (cond : Env → Sto → (Bool → Sto → Prop) → Prop) (elt : Env → Sto → K1 → Prop) (live : List (Nat × List D)) (n : Nat) (env0 : Env) (Q : K1) : List D → Sto → Prop
  | [], st => Live st live ∧ Q (.ref n) st
  | x :: xs, st => Live st live ∧ tgt x env0 st fun env1 st1 => cond env1 st1 fun b st2 =>
      if b = true then elt env1 st2 fun y st3 => ∃ acc, st3[n]? = some (.lst acc) ∧ acc.length < LINE ∧ lcW tgt cond elt live n env0 Q xs (st3.set n (.lst (acc ++ [y])))
      else lcW tgt cond elt live n env0 Q xs st2
/-- a dict's pairs, put in one after another -/
def mergeD (kvs : List (Ky × D)) : List (Ky × D) → List (Ky × D)
  | [] => kvs
  | (k, v) :: r => mergeD (dPut kvs k v) r
/-- key, value, key, value .. -/
def pairUp : List D → Option (List (Ky × D))
  | [] => some []
  | k :: v :: r => match kyOf k, pairUp r with
    | some k, some ps => some ((k, v) :: ps)
    | _, _ => none
  | _ => none
/-- the fields of a new exception -/
def zipF : List Sx → List D → List (Sx × D)
  | f :: fs, d :: ds => (f, d) :: zipF fs ds
  | _, _ => []
/-- a field that may be read -/
def fldD (C : Cx) (st : Sto) (n : Nat) (f : Sx) : Option D := match st[n]? with
  | some (.ins c fs) => if C.cls c = true then getF f fs else none
  | some (.exc c fs) => match C.xc c with
    | some ns => if ns.contains f = true then getF f fs else none
    | none => none
  | _ => none
def isRef : D → Bool
  | .int _ => false
  | .str _ => false
  | _ => true
/-- is the value of one of these kinds? 0: int, 1: bool, 2: str, 3: tuple, 4: list, 5: dict; others by what is told of the classes -/
def isKind (C : Cx) (st : Sto) : D → Nat → Option Bool
  | .non, _ => some false
  | .bl _, k => some (k == 0 || k == 1)
  | .int _, k => some (k == 0)
  | .str _, k => some (k == 2)
  | .tup _, k => some (k == 3)
  | .gt _, k => some (k == 3)
  | .ref n, k => match st[n]? with
    | some (.lst _) => some (k == 4)
    | some (.rol _) => some (k == 4)
    | some (.ins c _) => C.isa c k
    | some (.exc c _) => C.isx c k
    | _ => none
  | .fn _, _ => none
def isAny (C : Cx) (st : Sto) (d : D) : List Nat → Option Bool
  | [] => some false
  | k :: ks => match isKind C st d k, isAny C st d ks with
    | some a, some b => some (a || b)
    | _, _ => none
mutual
def We (C : Cx) : E → Env → Sto → K1 → Prop
  | .c d, _, st, Q => Q d st
  | .v i, env, st, Q => ∃ d, env[i]? = some (some d) ∧ Q d st
  | .gd k, _, st, Q => Q (.ref k) st
  | .bin o a b, env, st, Q => We C a env st fun x st1 => We C b env st1 fun y st2 => wBin o x y st2 Q
  | .neg a, env, st, Q => We C a env st fun x st1 => ∃ i, x = .int i ∧ Q (.int (-i)) st1
  | .cmp o a b, env, st, Q => We C a env st fun x st1 => We C b env st1 fun y st2 => ∃ r, cmpD st2 o x y = some r ∧ Q (.bl r) st2
  | .chain o o' a b c, env, st, Q => We C a env st fun x st1 => We C b env st1 fun y st2 => ∃ r, cmpD st2 o x y = some r ∧
      if r = true then We C c env st2 fun z st3 => ∃ r', cmpD st3 o' y z = some r' ∧ Q (.bl r') st3 else Q (.bl false) st2
  | .and a b, env, st, Q => We C a env st fun x st1 => ∃ r, x = .bl r ∧ if r = true then We C b env st1 Q else Q (.bl false) st1
  | .or a b, env, st, Q => We C a env st fun x st1 => ∃ r, x = .bl r ∧ if r = true then Q (.bl true) st1 else We C b env st1 Q
  | .not a, env, st, Q => We C a env st fun x st1 => ∃ r, truD st1 x = some r ∧ Q (.bl (!r)) st1
  | .ife t a b, env, st, Q => Wt C t env st fun r st1 => if r = true then We C a env st1 Q else We C b env st1 Q
  | .tup es, env, st, Q => Wes C es env st fun xs st1 => xs.length ≤ LINE ∧ Q (.tup xs) st1
  | .lst es, env, st, Q => Wes C es env st fun xs st1 => xs.length ≤ LINE ∧ Q (.ref st1.length) (st1 ++ [.lst xs])
  | .dct _ .nil, _, st, Q => Q (.ref st.length) (st ++ [.dk []]) ∨ Q (.ref st.length) (st ++ [.dt []])
  | .dct _ (.cons e es), env, st, Q => Wes C (.cons e es) env (st ++ [.dk []]) fun xs st2 => ∃ ps, pairUp xs = some ps ∧ ps.length ≤ 15 ∧ st2[st.length]? = some (.dk []) ∧ Q (.ref st.length) (st2.set st.length (.dk (mergeD [] ps)))
  | .exc c es, env, st, Q => Wes C es env st fun xs st1 => ∃ ns, C.xc c = some ns ∧ xs.length = ns.length ∧ Q (.ref st1.length) (st1 ++ [.exc c (zipF ns xs)])
  | .ix a i, env, st, Q => We C a env st fun x st1 => We C i env st1 fun y st2 => ∃ d, ixD st2 x y = some d ∧ Q d st2
  | .sl a lo hi, env, st, Q => We C a env st fun x st1 => Wo C lo env st1 fun l st2 => Wo C hi env st2 fun h st3 => wSl x l h st3 Q
  | .rev a, env, st, Q => We C a env st fun x st1 => match x with
    | .tup xs => Q (.tup xs.reverse) st1
    | .ref n => ∃ xs, lstAt st1 n = some xs ∧ Q (.ref st1.length) (st1 ++ [.lst xs.reverse])
    | _ => False
  | .att a f, env, st, Q => We C a env st fun x st1 => ∃ n d, x = .ref n ∧ fldD C st1 n f = some d ∧ Q d st1
  | .call k es, env, st, Q => Wes C es env st fun xs st1 => C.call k xs st1 Q
  | .callv a es, env, st, Q => We C a env st fun x st1 => ∃ k, x = .fn k ∧ k < C.nf ∧ Wes C es env st1 fun xs st2 => C.call k xs st2 Q
  | .new c es, env, st, Q => Wes C es env st fun xs st1 => ∃ k, C.init c = some k ∧ C.call k (.ref st1.length :: xs) (st1 ++ [.ins c []]) fun _ st2 => Q (.ref st1.length) st2
  | .meth a c m es, env, st, Q => We C a env st fun x st1 => ∃ n fs k, x = .ref n ∧ st1[n]? = some (.ins c fs) ∧ getF m fs = none ∧ C.meth c m = some k ∧
      Wes C es env st1 fun xs st2 => C.call k (x :: xs) st2 Q
  | .bi b es, env, st, Q => Wes C es env st fun xs st1 => wBi C.rp b xs st1 Q
  | .bm b a es, env, st, Q => We C a env st fun x st1 => rcvOk st1 x b = true ∧ Wes C es env st1 fun xs st2 => ∃ r, bmD st2 b x xs = some r ∧ Q r.1 r.2
  | .isi a ks, env, st, Q => We C a env st fun x st1 => ∃ r, isAny C st1 x ks = some r ∧ Q (.bl r) st1
  | .lc elt vs tg it cond, env, st, Q => Wi C it env st fun live xs st1 =>
      lcW (Wg C tg) (Wt C cond) (We C elt) live st1.length (wipe env vs) Q xs (st1 ++ [.lst []])
/-- an expression as a test -/
def Wt (C : Cx) : T → Env → Sto → (Bool → Sto → Prop) → Prop
  | .and a b, env, st, Q => Wt C a env st fun r st1 => if r = true then Wt C b env st1 Q else Q false st1
  | .or a b, env, st, Q => Wt C a env st fun r st1 => if r = true then Q true st1 else Wt C b env st1 Q
  | .not a, env, st, Q => Wt C a env st fun r st1 => Q (!r) st1
  | .e a, env, st, Q => We C a env st fun x st1 => ∃ r, truD st1 x = some r ∧ Q r st1
def Wes (C : Cx) : Es → Env → Sto → (List D → Sto → Prop) → Prop
  | .nil, _, st, Q => Q [] st
  | .cons e es, env, st, Q => We C e env st fun x st1 => Wes C es env st1 fun xs st2 => Q (x :: xs) st2
/-- a bound of a slice, told or not -/
def Wo (C : Cx) : Es → Env → Sto → (Option Int → Sto → Prop) → Prop
  | .nil, _, st, Q => Q none st
  | .cons e _, env, st, Q => We C e env st fun x st1 => ∃ i, x = .int i ∧ Q (some i) st1
/-- what is walked -/
def Wi (C : Cx) : I → Env → Sto → (List (Nat × List D) → List D → Sto → Prop) → Prop
  | .seq e, env, st, R => We C e env st fun x st1 => match x with
    | .tup xs => R [] xs st1
    | .gt xs => R [] xs st1
    | .ref n => ∃ xs, lstAt st1 n = some xs ∧ R [(n, xs)] xs st1
    | _ => False
  | .sgn e, env, st, R => We C e env st fun x st1 => ∃ s, x = .str s ∧ R [] (s.map fun c => .str [c]) st1
  | .rng1 a, env, st, R => We C a env st fun x st1 => ∃ j : Int, x = .int j ∧ -(2 ^ 62) ≤ j ∧ j < 2 ^ 62 ∧ R [] ((List.range j.toNat).map fun (i : Nat) => D.int i) st1
  | .rng2 a b, env, st, R => We C a env st fun x st1 => We C b env st1 fun y st2 => ∃ i j : Int, x = .int i ∧ y = .int j ∧ (-(2 ^ 62) ≤ i ∧ i < 2 ^ 62 ∧ -(2 ^ 62) ≤ j ∧ j < 2 ^ 62) ∧
      R [] ((List.range (j - i).toNat).map fun (k : Nat) => D.int (i + k)) st2
  | .enum e, env, st, R => We C e env st fun x st1 => match x with
    | .ref n => ∃ xs, lstAt st1 n = some xs ∧ R [(n, xs)] (xs.zipIdx.map fun p => .tup [.int p.2, p.1]) st1
    | .tup xs => R [] (xs.zipIdx.map fun p => .tup [.int p.2, p.1]) st1
    | _ => False
  | .zip a b, env, st, R => We C a env st fun x st1 => We C b env st1 fun y st2 => ∃ xs ys lx ly,
      (x = .tup xs ∧ lx = [] ∨ ∃ n, x = .ref n ∧ lstAt st2 n = some xs ∧ lx = [(n, xs)]) ∧ (y = .tup ys ∧ ly = [] ∨ ∃ n, y = .ref n ∧ lstAt st2 n = some ys ∧ ly = [(n, ys)]) ∧
      R (lx ++ ly) ((xs.zip ys).map fun p => .tup [p.1, p.2]) st2
def Wg (C : Cx) : G → D → Env → Sto → (Env → Sto → Prop) → Prop
  | .nm i, d, env, st, Q => Q (env.set i (some d)) st
  | .tup gs, d, env, st, Q => ∃ xs, (d = .tup xs ∨ d = .gt xs) ∧ xs.length = gsLen gs ∧ Wgs C gs xs env st Q
  | .sub a i, d, env, st, Q => We C a env st fun x st1 => We C i env st1 fun y st2 => ∃ n, x = .ref n ∧
      ((∃ xs k j, y = .int k ∧ st2[n]? = some (.lst xs) ∧ atN xs.length k = some j ∧ Q env (st2.set n (.lst (xs.set j d)))) ∨
       (∃ o o', st2[n]? = some o ∧ putO o y d = some o' ∧ Q env (st2.set n o')))
  | .att a f, d, env, st, Q => We C a env st fun x st1 => ∃ n c fs, x = .ref n ∧ st1[n]? = some (.ins c fs) ∧ C.cls c = true ∧ fs.length < 900 ∧ Q env (st1.set n (.ins c (putF f d fs)))
def Wgs (C : Cx) : Gs → List D → Env → Sto → (Env → Sto → Prop) → Prop
  | .nil, xs, env, st, Q => xs = [] ∧ Q env st
  | .cons g gs, xs, env, st, Q => ∃ y ys, xs = y :: ys ∧ Wg C g y env st fun env1 st1 => Wgs C gs ys env1 st1 Q
end
def setAll : List Nat → List D → Env → Env
  | i :: is, x :: xs, env => setAll is xs (env.set i (some x))
  | _, _, env => env
mutual
def Ws (C : Cx) : S → Env → Sto → KS → Prop
  | .asg g e, env, st, K => We C e env st fun x st1 => Wg C g x env st1 K.nx
  | .par is es, env, st, K => Wes C es env st fun xs st1 => xs.length = is.length ∧ K.nx (setAll is xs env) st1
  | .aug o i e, env, st, K => ∃ x, env[i]? = some (some x) ∧ isRef x = false ∧ We C e env st fun y st1 => wBin o x y st1 fun z st2 => K.nx (env.set i (some z)) st2
  | .ex e, env, st, K => We C e env st fun _ st1 => K.nx env st1
  | .ret e, env, st, K => We C e env st K.rt
  | .ife t a b, env, st, K => Wt C t env st fun r st1 => if r = true then Wss C a env st1 K else Wss C b env st1 K
  | .for_ g it b, env, st, K => Wi C it env st fun live xs st1 => forW (Wg C g) (Wss C b) live K xs env st1
  | .whl t b, env, st, K => ∃ W : Nat → Env → Sto → Prop, (∃ m, W m env st) ∧ ∀ m env st, W m env st → Wt C t env st fun r st1 =>
      if r = true then Wss C b env st1 { nx := fun e s => ∃ m', m' < m ∧ W m' e s, ct := fun e s => ∃ m', m' < m ∧ W m' e s, bk := K.nx, rt := K.rt } else K.nx env st1
  | .brk, env, st, K => K.bk env st
  | .cont, env, st, K => K.ct env st
  | .pass, env, st, K => K.nx env st
  | .never, _, _, _ => False
def Wss (C : Cx) : Ss → Env → Sto → KS → Prop
  | .nil, env, st, K => K.nx env st
  | .cons s ss, env, st, K => Ws C s env st { K with nx := fun env1 st1 => Wss C ss env1 st1 K }
end
end Py
end
section
set_option autoImplicit false
namespace Py
abbrev LeK (Q Q' : K1) : Prop := ∀ d st, Q d st → Q' d st
def Cx.Mono (C : Cx) : Prop := ∀ k xs st Q Q', LeK Q Q' → C.call k xs st Q → C.call k xs st Q'
structure LeS (K K' : KS) : Prop where
  nx : ∀ e s, K.nx e s → K'.nx e s
  rt : ∀ d s, K.rt d s → K'.rt d s
  bk : ∀ e s, K.bk e s → K'.bk e s
  ct : ∀ e s, K.ct e s → K'.ct e s
theorem wBin_mono {Q Q' : K1} (h : LeK Q Q') (o : Bop) (x y : D) (st : Sto) (w : wBin o x y st Q) : wBin o x y st Q' := by
  unfold wBin at w ⊢
  split at w
  all_goals first
    | exact h _ _ w
    | exact ⟨w.1, h _ _ w.2⟩
    | exact w.elim
    | (obtain ⟨a, b, h1, h2, h3, h4⟩ := w
       exact ⟨a, b, h1, h2, h3, h _ _ h4⟩)
theorem wSl_mono {Q Q' : K1} (h : LeK Q Q') (x : D) (l u : Option Int) (st : Sto) (w : wSl x l u st Q) : wSl x l u st Q' := by
  unfold wSl at w ⊢
  split at w
  · exact h _ _ w
  · exact h _ _ w
  · obtain ⟨xs, h1, h2⟩ := w
    exact ⟨xs, h1, h _ _ h2⟩
  · exact w.elim
theorem wBi_mono {Q Q' : K1} (h : LeK Q Q') {rp : P → Sx} {b : Bi} {vs : List D} {st : Sto} (w : wBi rp b vs st Q) : wBi rp b vs st Q' := by
  rcases w with ⟨d, e, q⟩ | ⟨o, e, q⟩
  · exact .inl ⟨d, e, h _ _ q⟩
  · exact .inr ⟨o, e, h _ _ q⟩
theorem forW_mono {tgt : D → Env → Sto → (Env → Sto → Prop) → Prop} {body : Env → Sto → KS → Prop} {live : List (Nat × List D)} {K K' : KS}
    (ht : ∀ d e s Q Q', (∀ e s, Q e s → Q' e s) → tgt d e s Q → tgt d e s Q') (hb : ∀ e s K K', LeS K K' → body e s K → body e s K') (hK : LeS K K') :
    ∀ (xs : List D) e s, forW tgt body live K xs e s → forW tgt body live K' xs e s
  | [], _, _, w => ⟨w.1, hK.nx _ _ w.2⟩
  | _ :: xs, _, _, w => ⟨w.1, ht _ _ _ _ _ (fun e1 s1 q => hb e1 s1 { nx := forW tgt body live K xs, ct := forW tgt body live K xs, bk := K.nx, rt := K.rt } _ ⟨fun e s => forW_mono ht hb hK xs e s, hK.rt, hK.nx, fun e s => forW_mono ht hb hK xs e s⟩ q) w.2⟩
theorem lcW_mono {tgt : D → Env → Sto → (Env → Sto → Prop) → Prop} {cond : Env → Sto → (Bool → Sto → Prop) → Prop} {elt : Env → Sto → K1 → Prop} {live : List (Nat × List D)} {n : Nat} {env0 : Env} {Q Q' : K1}
    (ht : ∀ d e s Q Q', (∀ e s, Q e s → Q' e s) → tgt d e s Q → tgt d e s Q') (hc : ∀ e s Q Q', (∀ b s, Q b s → Q' b s) → cond e s Q → cond e s Q')
    (he : ∀ e s Q Q', LeK Q Q' → elt e s Q → elt e s Q') (h : LeK Q Q') :
    ∀ (xs : List D) s, lcW tgt cond elt live n env0 Q xs s → lcW tgt cond elt live n env0 Q' xs s
  | [], _, w => ⟨w.1, h _ _ w.2⟩
  | _ :: xs, _, w => ⟨w.1, ht _ _ _ _ _ (fun _ _ q => hc _ _ _ _ (fun b s q => by
      cases b with
      | true => exact he _ _ _ _ (fun y s ⟨acc, h1, h2, h3⟩ => ⟨acc, h1, h2, lcW_mono ht hc he h xs _ h3⟩) q
      | false => exact lcW_mono ht hc he h xs _ q) q) w.2⟩
theorem ite_mono {b : Bool} {p q p' q' : Prop} (h1 : p → p') (h2 : q → q') (w : if b = true then p else q) : if b = true then p' else q' := by
  cases b
  · exact h2 w
  · exact h1 w
mutual
theorem We_mono {C : Cx} (hC : C.Mono) : ∀ (e : E) (env : Env) (st : Sto) (Q Q' : K1), LeK Q Q' → We C e env st Q → We C e env st Q'
  | .c d, env, st, Q, Q', h, w => by unfold We at w ⊢; exact h _ _ w
  | .v i, env, st, Q, Q', h, w => by unfold We at w ⊢; obtain ⟨d, a, b⟩ := w; exact ⟨d, a, h _ _ b⟩
  | .gd k, env, st, Q, Q', h, w => by unfold We at w ⊢; exact h _ _ w
  | .bin o a b, env, st, Q, Q', h, w => by
    unfold We at w ⊢
    exact We_mono hC a env st _ _ (fun x s q => We_mono hC b env s _ _ (fun y s q => wBin_mono h o x y s q) q) w
  | .neg a, env, st, Q, Q', h, w => by
    unfold We at w ⊢
    exact We_mono hC a env st _ _ (fun x s ⟨i, e, q⟩ => ⟨i, e, h _ _ q⟩) w
  | .cmp o a b, env, st, Q, Q', h, w => by
    unfold We at w ⊢
    exact We_mono hC a env st _ _ (fun x s q => We_mono hC b env s _ _ (fun y s ⟨r, e, q⟩ => ⟨r, e, h _ _ q⟩) q) w
  | .chain o o' a b c, env, st, Q, Q', h, w => by
    unfold We at w ⊢
    exact We_mono hC a env st _ _ (fun x s q => We_mono hC b env s _ _ (fun y s ⟨r, e, q⟩ => ⟨r, e, ite_mono (fun q => We_mono hC c env s _ _ (fun z s ⟨r, e, q⟩ => ⟨r, e, h _ _ q⟩) q) (h _ _) q⟩) q) w
  | .and a b, env, st, Q, Q', h, w => by
    unfold We at w ⊢
    exact We_mono hC a env st _ _ (fun x s ⟨r, e, q⟩ => ⟨r, e, ite_mono (fun q => We_mono hC b env s _ _ h q) (h _ _) q⟩) w
  | .or a b, env, st, Q, Q', h, w => by
    unfold We at w ⊢
    exact We_mono hC a env st _ _ (fun x s ⟨r, e, q⟩ => ⟨r, e, ite_mono (h _ _) (fun q => We_mono hC b env s _ _ h q) q⟩) w
  | .not a, env, st, Q, Q', h, w => by
    unfold We at w ⊢
    exact We_mono hC a env st _ _ (fun x s ⟨r, e, q⟩ => ⟨r, e, h _ _ q⟩) w
  | .ife t a b, env, st, Q, Q', h, w => by
    unfold We at w ⊢
    exact Wt_mono hC t env st _ _ (fun x s q => ite_mono (fun q => We_mono hC a env s _ _ h q) (fun q => We_mono hC b env s _ _ h q) q) w
  | .tup es, env, st, Q, Q', h, w => by
    unfold We at w ⊢
    exact Wes_mono hC es env st _ _ (fun x s q => ⟨q.1, h _ _ q.2⟩) w
  | .lst es, env, st, Q, Q', h, w => by
    unfold We at w ⊢
    exact Wes_mono hC es env st _ _ (fun x s q => ⟨q.1, h _ _ q.2⟩) w
  | .dct _ .nil, env, st, Q, Q', h, w => by
    unfold We at w ⊢
    exact w.elim (fun q => .inl (h _ _ q)) fun q => .inr (h _ _ q)
  | .dct _ (.cons e es), env, st, Q, Q', h, w => by
    unfold We at w ⊢
    exact Wes_mono hC (.cons e es) env _ _ _ (fun x s ⟨ps, e1, e2, e3, q⟩ => ⟨ps, e1, e2, e3, h _ _ q⟩) w
  | .exc c es, env, st, Q, Q', h, w => by
    unfold We at w ⊢
    exact Wes_mono hC es env st _ _ (fun x s ⟨ns, e1, e2, q⟩ => ⟨ns, e1, e2, h _ _ q⟩) w
  | .ix a i, env, st, Q, Q', h, w => by
    unfold We at w ⊢
    exact We_mono hC a env st _ _ (fun x s q => We_mono hC i env s _ _ (fun y s ⟨r, e, q⟩ => ⟨r, e, h _ _ q⟩) q) w
  | .sl a lo hi, env, st, Q, Q', h, w => by
    unfold We at w ⊢
    exact We_mono hC a env st _ _ (fun x s q => Wo_mono hC lo env s _ _ (fun y s q => Wo_mono hC hi env s _ _ (fun z s q => wSl_mono h _ _ _ _ q) q) q) w
  | .rev a, env, st, Q, Q', h, w => by
    unfold We at w ⊢
    exact We_mono hC a env st _ _ (fun x s q => by
      cases x with
      | tup xs => exact h _ _ q
      | ref n => obtain ⟨xs, e, q⟩ := q; exact ⟨xs, e, h _ _ q⟩
      | _ => exact q.elim) w
  | .att a f, env, st, Q, Q', h, w => by
    unfold We at w ⊢
    exact We_mono hC a env st _ _ (fun x s ⟨n, d, e1, e2, q⟩ => ⟨n, d, e1, e2, h _ _ q⟩) w
  | .call k es, env, st, Q, Q', h, w => by
    unfold We at w ⊢
    exact Wes_mono hC es env st _ _ (fun x s q => hC _ _ _ _ _ h q) w
  | .callv a es, env, st, Q, Q', h, w => by
    unfold We at w ⊢
    exact We_mono hC a env st _ _ (fun x s ⟨k, e, e2, q⟩ => ⟨k, e, e2, Wes_mono hC es env s _ _ (fun x s q => hC _ _ _ _ _ h q) q⟩) w
  | .new c es, env, st, Q, Q', h, w => by
    unfold We at w ⊢
    exact Wes_mono hC es env st _ _ (fun x s ⟨k, e, q⟩ => ⟨k, e, hC _ _ _ _ _ (fun _ _ q => h _ _ q) q⟩) w
  | .meth a c m es, env, st, Q, Q', h, w => by
    unfold We at w ⊢
    exact We_mono hC a env st _ _ (fun x s ⟨n, fs, k, e1, e2, e3, e4, q⟩ => ⟨n, fs, k, e1, e2, e3, e4, Wes_mono hC es env s _ _ (fun x s q => hC _ _ _ _ _ h q) q⟩) w
  | .bi b es, env, st, Q, Q', h, w => by
    unfold We at w ⊢
    exact Wes_mono hC es env st _ _ (fun x s q => wBi_mono h q) w
  | .bm b a es, env, st, Q, Q', h, w => by
    unfold We at w ⊢
    exact We_mono hC a env st _ _ (fun x s ⟨e0, q⟩ => ⟨e0, Wes_mono hC es env s _ _ (fun y s ⟨r, e, q⟩ => ⟨r, e, h _ _ q⟩) q⟩) w
  | .isi a ks, env, st, Q, Q', h, w => by
    unfold We at w ⊢
    exact We_mono hC a env st _ _ (fun x s ⟨r, e, q⟩ => ⟨r, e, h _ _ q⟩) w
  | .lc elt vs tg it cond, env, st, Q, Q', h, w => by
    unfold We at w ⊢
    exact Wi_mono hC it env st _ _ (fun live xs s q => lcW_mono (fun d e s Q Q' h q => Wg_mono hC tg d e s Q Q' h q) (fun e s Q Q' h q => Wt_mono hC cond e s Q Q' h q) (fun e s Q Q' h q => We_mono hC elt e s Q Q' h q) h xs _ q) w
theorem Wt_mono {C : Cx} (hC : C.Mono) : ∀ (e : T) (env : Env) (st : Sto) (Q Q' : Bool → Sto → Prop), (∀ b s, Q b s → Q' b s) → Wt C e env st Q → Wt C e env st Q'
  | .and a b, env, st, Q, Q', h, w => by
    unfold Wt at w ⊢
    exact Wt_mono hC a env st _ _ (fun x s q => ite_mono (fun q => Wt_mono hC b env s _ _ h q) (h _ _) q) w
  | .or a b, env, st, Q, Q', h, w => by
    unfold Wt at w ⊢
    exact Wt_mono hC a env st _ _ (fun x s q => ite_mono (h _ _) (fun q => Wt_mono hC b env s _ _ h q) q) w
  | .not a, env, st, Q, Q', h, w => by
    unfold Wt at w ⊢
    exact Wt_mono hC a env st _ _ (fun x s q => h _ _ q) w
  | .e a, env, st, Q, Q', h, w => by
    unfold Wt at w ⊢
    exact We_mono hC a env st _ _ (fun x s ⟨r, e, q⟩ => ⟨r, e, h _ _ q⟩) w
theorem Wes_mono {C : Cx} (hC : C.Mono) : ∀ (es : Es) (env : Env) (st : Sto) (Q Q' : List D → Sto → Prop), (∀ b s, Q b s → Q' b s) → Wes C es env st Q → Wes C es env st Q'
  | .nil, env, st, Q, Q', h, w => by unfold Wes at w ⊢; exact h _ _ w
  | .cons e es, env, st, Q, Q', h, w => by
    unfold Wes at w ⊢
    exact We_mono hC e env st _ _ (fun x s q => Wes_mono hC es env s _ _ (fun y s q => h _ _ q) q) w
theorem Wo_mono {C : Cx} (hC : C.Mono) : ∀ (es : Es) (env : Env) (st : Sto) (Q Q' : Option Int → Sto → Prop), (∀ b s, Q b s → Q' b s) → Wo C es env st Q → Wo C es env st Q'
  | .nil, env, st, Q, Q', h, w => by unfold Wo at w ⊢; exact h _ _ w
  | .cons e es, env, st, Q, Q', h, w => by
    unfold Wo at w ⊢
    exact We_mono hC e env st _ _ (fun x s ⟨i, e, q⟩ => ⟨i, e, h _ _ q⟩) w
theorem Wi_mono {C : Cx} (hC : C.Mono) : ∀ (it : I) (env : Env) (st : Sto) (R R' : List (Nat × List D) → List D → Sto → Prop), (∀ l x s, R l x s → R' l x s) → Wi C it env st R → Wi C it env st R'
  | .seq e, env, st, R, R', h, w => by
    unfold Wi at w ⊢
    exact We_mono hC e env st _ _ (fun x s q => by
      cases x with
      | tup xs => exact h _ _ _ q
      | gt xs => exact h _ _ _ q
      | ref n => obtain ⟨xs, e, q⟩ := q; exact ⟨xs, e, h _ _ _ q⟩
      | _ => exact q.elim) w
  | .sgn e, env, st, R, R', h, w => by
    unfold Wi at w ⊢
    exact We_mono hC e env st _ _ (fun x s ⟨z, e, q⟩ => ⟨z, e, h _ _ _ q⟩) w
  | .rng1 a, env, st, R, R', h, w => by
    unfold Wi at w ⊢
    exact We_mono hC a env st _ _ (fun x s ⟨j, e, h1, h2, q⟩ => ⟨j, e, h1, h2, h _ _ _ q⟩) w
  | .rng2 a b, env, st, R, R', h, w => by
    unfold Wi at w ⊢
    exact We_mono hC a env st _ _ (fun x s q => We_mono hC b env s _ _ (fun y s ⟨i, j, e, h1, h2, q⟩ => ⟨i, j, e, h1, h2, h _ _ _ q⟩) q) w
  | .enum e, env, st, R, R', h, w => by
    unfold Wi at w ⊢
    exact We_mono hC e env st _ _ (fun x s q => by
      cases x with
      | tup xs => exact h _ _ _ q
      | ref n => obtain ⟨xs, e, q⟩ := q; exact ⟨xs, e, h _ _ _ q⟩
      | _ => exact q.elim) w
  | .zip a b, env, st, R, R', h, w => by
    unfold Wi at w ⊢
    exact We_mono hC a env st _ _ (fun x s q => We_mono hC b env s _ _ (fun y s ⟨xs, ys, lx, ly, h1, h2, q⟩ => ⟨xs, ys, lx, ly, h1, h2, h _ _ _ q⟩) q) w
theorem Wg_mono {C : Cx} (hC : C.Mono) : ∀ (g : G) (d : D) (env : Env) (st : Sto) (Q Q' : Env → Sto → Prop), (∀ e s, Q e s → Q' e s) → Wg C g d env st Q → Wg C g d env st Q'
  | .nm i, d, env, st, Q, Q', h, w => by unfold Wg at w ⊢; exact h _ _ w
  | .tup gs, d, env, st, Q, Q', h, w => by
    unfold Wg at w ⊢
    obtain ⟨xs, e, e2, q⟩ := w
    exact ⟨xs, e, e2, Wgs_mono hC gs xs env st Q Q' h q⟩
  | .sub a i, d, env, st, Q, Q', h, w => by
    unfold Wg at w ⊢
    exact We_mono hC a env st _ _ (fun x s q => We_mono hC i env s _ _ (fun y s ⟨n, e, q⟩ => ⟨n, e, q.elim (fun ⟨xs, k, j, e1, e2, e3, q⟩ => .inl ⟨xs, k, j, e1, e2, e3, h _ _ q⟩) fun ⟨o, o', e1, e2, q⟩ => .inr ⟨o, o', e1, e2, h _ _ q⟩⟩) q) w
  | .att a f, d, env, st, Q, Q', h, w => by
    unfold Wg at w ⊢
    exact We_mono hC a env st _ _ (fun x s ⟨n, c, fs, e1, e2, e3, e4, q⟩ => ⟨n, c, fs, e1, e2, e3, e4, h _ _ q⟩) w
theorem Wgs_mono {C : Cx} (hC : C.Mono) : ∀ (g : Gs) (d : List D) (env : Env) (st : Sto) (Q Q' : Env → Sto → Prop), (∀ e s, Q e s → Q' e s) → Wgs C g d env st Q → Wgs C g d env st Q'
  | .nil, d, env, st, Q, Q', h, w => by unfold Wgs at w ⊢; exact ⟨w.1, h _ _ w.2⟩
  | .cons g gs, d, env, st, Q, Q', h, w => by
    unfold Wgs at w ⊢
    obtain ⟨y, ys, e, q⟩ := w
    exact ⟨y, ys, e, Wg_mono hC g y env st _ _ (fun e s q => Wgs_mono hC gs ys e s Q Q' h q) q⟩
end
mutual
theorem Ws_mono {C : Cx} (hC : C.Mono) : ∀ (t : S) (env : Env) (st : Sto) (K K' : KS), LeS K K' → Ws C t env st K → Ws C t env st K'
  | .asg g e, env, st, K, K', h, w => by
    unfold Ws at w ⊢
    exact We_mono hC e env st _ _ (fun x s q => Wg_mono hC g x env s _ _ h.nx q) w
  | .par is es, env, st, K, K', h, w => by
    unfold Ws at w ⊢
    exact Wes_mono hC es env st _ _ (fun x s q => ⟨q.1, h.nx _ _ q.2⟩) w
  | .aug o i e, env, st, K, K', h, w => by
    unfold Ws at w ⊢
    obtain ⟨x, e1, e2, q⟩ := w
    exact ⟨x, e1, e2, We_mono hC e env st _ _ (fun y s q => wBin_mono (fun z s q => h.nx _ _ q) o x y s q) q⟩
  | .ex e, env, st, K, K', h, w => by
    unfold Ws at w ⊢
    exact We_mono hC e env st _ _ (fun x s q => h.nx _ _ q) w
  | .ret e, env, st, K, K', h, w => by
    unfold Ws at w ⊢
    exact We_mono hC e env st _ _ h.rt w
  | .ife t a b, env, st, K, K', h, w => by
    unfold Ws at w ⊢
    exact Wt_mono hC t env st _ _ (fun x s q => ite_mono (fun q => Wss_mono hC a env s _ _ h q) (fun q => Wss_mono hC b env s _ _ h q) q) w
  | .for_ g it b, env, st, K, K', h, w => by
    unfold Ws at w ⊢
    exact Wi_mono hC it env st _ _ (fun live xs s q => forW_mono (fun d e s Q Q' h q => Wg_mono hC g d e s Q Q' h q) (fun e s K K' h q => Wss_mono hC b e s K K' h q) h xs env s q) w
  | .whl t b, env, st, K, K', h, w => by
    unfold Ws at w ⊢
    obtain ⟨W, h0, hs⟩ := w
    exact ⟨W, h0, fun m e s hw => Wt_mono hC t e s _ _ (fun x s q => ite_mono (fun q => Wss_mono hC b e s { nx := fun e s => ∃ m', m' < m ∧ W m' e s, ct := fun e s => ∃ m', m' < m ∧ W m' e s, bk := K.nx, rt := K.rt } _ ⟨fun _ _ q => q, h.rt, h.nx, fun _ _ q => q⟩ q) (fun q => h.nx _ _ q) q) (hs m e s hw)⟩
  | .brk, env, st, K, K', h, w => by unfold Ws at w ⊢; exact h.bk _ _ w
  | .cont, env, st, K, K', h, w => by unfold Ws at w ⊢; exact h.ct _ _ w
  | .pass, env, st, K, K', h, w => by unfold Ws at w ⊢; exact h.nx _ _ w
  | .never, env, st, K, K', h, w => by unfold Ws at w; exact w.elim
theorem Wss_mono {C : Cx} (hC : C.Mono) : ∀ (t : Ss) (env : Env) (st : Sto) (K K' : KS), LeS K K' → Wss C t env st K → Wss C t env st K'
  | .nil, env, st, K, K', h, w => by unfold Wss at w ⊢; exact h.nx _ _ w
  | .cons s ss, env, st, K, K', h, w => by
    unfold Wss at w ⊢
    exact Ws_mono hC s env st { K with nx := fun env1 st1 => Wss C ss env1 st1 K } _ ⟨fun e s q => Wss_mono hC ss e s K K' h q, h.rt, h.bk, h.ct⟩ w
end
theorem cmpD_isn {st : Sto} {x y : D} {b : Bool} (h : cmpD st .isn x y = some b) : y = .non ∧ b = isNon x := by
  unfold cmpD at h
  split at h <;> first
    | contradiction
    | (cases h; exact ⟨rfl, rfl⟩)
theorem cmpD_isnn {st : Sto} {x y : D} {b : Bool} (h : cmpD st .isnn x y = some b) : y = .non ∧ b = !isNon x := by
  unfold cmpD at h
  split at h <;> first
    | contradiction
    | (cases h; exact ⟨rfl, rfl⟩)
end Py
end
section
set_option Elab.async false
set_option linter.all false
set_option maxRecDepth 100000
set_option maxHeartbeats 2000000
namespace Py
open PySem L2
/-- where the defs and the classes stand -/
structure Tab where
  fa : Nat → Addr
  ca : Nat → Addr
def tx (s : Sx) : Str := ⟨s.toArray⟩
/-- a text that may be: its signs are signs, and it is not too long -/
def OkS (s : Sx) : Prop := (∀ c ∈ s, c < 1114112) ∧ s.length ≤ LINE
def ky : Ky → L2.Key
  | .i z => Sum.inl z
  | .s x => Sum.inr (tx x)
section
variable (K : PySem.W.Frag) (T : Tab)
mutual
/-- the value v is d -/
inductive Rp (m : Nat → Addr) (n : Nat) (H : Hp) : D → V → Prop
  | non : Rp m n H .non .non
  | bl (b : Bool) : Rp m n H (.bl b) (.bl b)
  | int (i : Int) : Rp m n H (.int i) (.int i)
  | str (s : Sx) : OkS s → Rp m n H (.str s) (.str (tx s))
  | tup {a : Addr} {vs : List V} {ds : List D} : H a = some (.tup vs) → RpA m n H ds vs → Rp m n H (.tup ds) (.ref a)
  | gt {a : Addr} {vs : List V} {ds : List D} : (∀ H', SqT K H' a vs) → RpA m n H ds vs → Rp m n H (.gt ds) (.ref a)
  | ref {k : Nat} : k < n → Rp m n H (.ref k) (.ref (m k))
  | fn (k : Nat) : Rp m n H (.fn k) (.ref (T.fa k))
inductive RpA (m : Nat → Addr) (n : Nat) (H : Hp) : List D → List V → Prop
  | nil : RpA m n H [] []
  | cons {d : D} {v : V} {ds : List D} {vs : List V} : Rp m n H d v → RpA m n H ds vs → RpA m n H (d :: ds) (v :: vs)
end
def RpK {κ μ : Type} (f : κ → μ) (m : Nat → Addr) (n : Nat) (H : Hp) : List (κ × D) → List (μ × V) → Prop := Paired fun p q => q.1 = f p.1 ∧ Rp K T m n H p.2 q.2
/-- a list that is only read: locked, or of the written part -/
def RoL (H : Hp) (a : Addr) (vs : List V) : Prop := (∃ ob, H a = some (.frz ob (.lst vs))) ∨ ∀ H', SqL K H' a vs
def Muts : O → Prop
  | .rol _ => False
  | .exc _ _ => False
  | _ => True
/-- what stands at a is o -/
def RpO (m : Nat → Addr) (n : Nat) (H : Hp) : O → Addr → Prop
  | .lst xs, a => ∃ vs, H a = some (.lst vs) ∧ RpA K T m n H xs vs
  | .rol xs, a => ∃ vs, RoL K H a vs ∧ RpA K T m n H xs vs
  | .dk kvs, a => ∃ ws, H a = some (.dK ws) ∧ RpK K T ky m n H kvs ws
  | .dt kvs, a => ∃ ws, H a = some (.dT ws) ∧ RpK K T (List.map ky) m n H kvs ws
  | .ins c fs, a => ∃ dx ws, H a = some (.ins (T.ca c) dx ws) ∧ RpK K T tx m n H fs ws
  | .lok _, _ => False
  | .exc c fs, a => (fs = [] ∧ H a = some (exo a (T.ca c) none)) ∨ ∃ (d : Addr) (ws : List (Str × V)), H a = some (exo a (T.ca c) (some d)) ∧ H d = some (exd d ws) ∧ ∀ f x, getF f fs = some x → ∃ v, ws.lookup (tx f) = some v ∧ Rp K T m n H x v
/-- the store -/
structure Wd (m : Nat → Addr) (st : Sto) (H : Hp) : Prop where
  inj : ∀ i j o u, st[i]? = some o → st[j]? = some u → Muts o → Muts u → m i = m j → i = j
  obj : ∀ i o, st[i]? = some o → RpO K T m st.length H o (m i)
/-- what stays true from one state to a later one -/
structure Gr (K : PySem.W.Frag) (m : Nat → Addr) (n : Nat) (H : Hp) (m' : Nat → Addr) (n' : Nat) (H' : Hp) : Prop where
  le : n ≤ n'
  ag : ∀ i, i < n → m' i = m i
  tk : ∀ a vs, H a = some (.tup vs) → H' a = some (.tup vs)
/-- the slots -/
structure EnvR (m : Nat → Addr) (n : Nat) (H : Hp) (env : Env) (σ : L2.St) : Prop where
  len : env.length = σ.length
  at_ : ∀ (i : Nat) (d : D), env[i]? = some (some d) → ∃ v : V, σ[i]? = some (some v) ∧ Rp K T m n H d v
end
section
variable {K : PySem.W.Frag} {T : Tab} {m m' m'' : Nat → Addr} {n n' n'' : Nat} {H H' H'' : Hp}
theorem Gr.refl : Gr K m n H m n H := ⟨Nat.le_refl _, fun _ _ => rfl, fun _ _ h => h⟩
theorem Gr.trans (a : Gr K m n H m' n' H') (b : Gr K m' n' H' m'' n'' H'') : Gr K m n H m'' n'' H'' :=
  ⟨Nat.le_trans a.le b.le, fun i h => (b.ag i (Nat.lt_of_lt_of_le h a.le)).trans (a.ag i h), fun x vs h => b.tk x vs (a.tk x vs h)⟩
mutual
theorem Rp.gr (g : Gr K m n H m' n' H') : ∀ {d : D} {v : V}, Rp K T m n H d v → Rp K T m' n' H' d v
  | _, _, .non => .non
  | _, _, .bl b => .bl b
  | _, _, .int i => .int i
  | _, _, .str s h => .str s h
  | _, _, .tup h a => .tup (g.tk _ _ h) (RpA.gr g a)
  | _, _, .gt h a => .gt h (RpA.gr g a)
  | _, _, .ref (k := k) h => by
    have e := g.ag k h
    rw [← e]
    exact .ref (Nat.lt_of_lt_of_le h g.le)
  | _, _, .fn k => .fn k
theorem RpA.gr (g : Gr K m n H m' n' H') : ∀ {d : List D} {v : List V}, RpA K T m n H d v → RpA K T m' n' H' d v
  | _, _, .nil => .nil
  | _, _, .cons h a => .cons (Rp.gr g h) (RpA.gr g a)
end
theorem RpK.gr {κ μ : Type} {f : κ → μ} (g : Gr K m n H m' n' H') {a : List (κ × D)} {b : List (μ × V)} (h : RpK K T f m n H a b) : RpK K T f m' n' H' a b :=
  Paired.mapP h fun _ _ z => ⟨z.1, z.2.gr g⟩
theorem EnvR.gr {env : Env} {σ : L2.St} (g : Gr K m n H m' n' H') (e : EnvR K T m n H env σ) : EnvR K T m' n' H' env σ :=
  ⟨e.len, fun i d h => let ⟨v, h1, h2⟩ := e.at_ i d h; ⟨v, h1, h2.gr g⟩⟩
theorem RpA.length : ∀ {ds : List D} {vs : List V}, RpA K T m n H ds vs → ds.length = vs.length
  | _, _, .nil => rfl
  | _, _, .cons _ a => by simp [RpA.length a]
theorem RpA.get : ∀ {ds : List D} {vs : List V} {i : Nat} {d : D}, RpA K T m n H ds vs → ds[i]? = some d → ∃ v, vs[i]? = some v ∧ Rp K T m n H d v
  | _, _, _, _, .nil, e => by simp at e
  | _, _, 0, _, .cons h a, e => by simp at e; subst e; exact ⟨_, rfl, h⟩
  | _, _, i + 1, d, .cons h a, e => by
    obtain ⟨v, h1, h2⟩ := RpA.get (i := i) (d := d) a (by simpa using e)
    exact ⟨v, by simpa using h1, h2⟩
theorem RpA.append : ∀ {a b : List D} {x y : List V}, RpA K T m n H a x → RpA K T m n H b y → RpA K T m n H (a ++ b) (x ++ y)
  | _, _, _, _, .nil, s => s
  | _, _, _, _, .cons h a, s => .cons h (RpA.append a s)
theorem RpA.take : ∀ {a : List D} {x : List V} (k : Nat), RpA K T m n H a x → RpA K T m n H (a.take k) (x.take k)
  | _, _, 0, _ => .nil
  | _, _, _ + 1, .nil => .nil
  | _, _, k + 1, .cons h a => .cons h (RpA.take k a)
theorem RpA.drop : ∀ {a : List D} {x : List V} (k : Nat), RpA K T m n H a x → RpA K T m n H (a.drop k) (x.drop k)
  | _, _, 0, r => r
  | _, _, _ + 1, .nil => .nil
  | _, _, k + 1, .cons _ a => RpA.drop k a
theorem RpA.set {d : D} {v : V} (r : Rp K T m n H d v) : ∀ {a : List D} {x : List V} (k : Nat), RpA K T m n H a x → RpA K T m n H (a.set k d) (x.set k v)
  | _, _, _, .nil => .nil
  | _, _, 0, .cons _ a => .cons r a
  | _, _, k + 1, .cons h a => .cons h (RpA.set r k a)
theorem RpA.dropLast {a : List D} {x : List V} (r : RpA K T m n H a x) : RpA K T m n H a.dropLast x.dropLast := by
  rw [List.dropLast_eq_take, List.dropLast_eq_take, r.length]
  exact r.take _
theorem RpA.eraseIdx : ∀ {a : List D} {x : List V} (k : Nat), RpA K T m n H a x → RpA K T m n H (a.eraseIdx k) (x.eraseIdx k)
  | _, _, _, .nil => .nil
  | _, _, 0, .cons _ a => a
  | _, _, k + 1, .cons h a => .cons h (RpA.eraseIdx k a)
theorem RpA.reverse {a : List D} {x : List V} (r : RpA K T m n H a x) : RpA K T m n H a.reverse x.reverse := by
  induction r using RpA.rec (motive_1 := fun _ _ _ => True) with
  | nil => exact .nil
  | cons h _ _ ih => rw [List.reverse_cons, List.reverse_cons]; exact ih.append (.cons h .nil)
  | _ => trivial
/-- a new object in the store -/
def mapAdd (m : Nat → Addr) (n : Nat) (p : Addr) : Nat → Addr := fun i => if i = n then p else m i
theorem gr_upd {p : Addr} {o : HO} (hp : H p = none) : Gr K m n H m n (upd H p o) := ⟨Nat.le_refl _, fun _ _ => rfl, fun a vs h => by
  rw [upd_ne (ne_of_none h hp)]
  exact h⟩
theorem gr_add {p : Addr} {o : HO} (hp : H p = none) : Gr K m n H (mapAdd m n p) (n + 1) (upd H p o) :=
  ⟨Nat.le_succ _, fun i h => by unfold mapAdd; rw [if_neg (Nat.ne_of_lt h)], (gr_upd (K := K) (m := m) (n := n) hp).tk⟩
theorem RoL.sq {a : Addr} {vs : List V} (h : RoL K H a vs) : SqL K H a vs := by
  rcases h with ⟨ob, h⟩ | h
  · exact .inl (.inr ⟨ob, h⟩)
  · exact h H
theorem RoL.chg {a p : Addr} {vs : List V} {o : HO} (hp : ∀ ob u, H p ≠ some (.frz ob u)) (h : RoL K H a vs) : RoL K (upd H p o) a vs := by
  rcases h with ⟨ob, h⟩ | h
  · refine .inl ⟨ob, ?_⟩
    by_cases e : a = p
    · subst e; exact absurd h (hp _ _)
    · rw [upd_ne e]; exact h
  · exact .inr h
theorem exo_upd {a p C : Addr} {d : Option Addr} {u : HO} (hx : ∀ f, H p ≠ some (.ext f)) (e : H a = some (exo a C d)) : upd H p u a = some (exo a C d) := by
  rw [upd_ne (fun z => by subst z; exact hx _ e)]
  exact e
theorem exd_upd {a p : Addr} {ws : List (Str × V)} {u : HO} (hx : ∀ f, H p ≠ some (.ext f)) (e : H a = some (exd a ws)) : upd H p u a = some (exd a ws) := by
  rw [upd_ne (fun z => by subst z; exact hx _ e)]
  exact e
theorem RpO.keep {o : O} {a p : Addr} {u : HO} (g : Gr K m n H m' n' (upd H p u)) (hp : ∀ ob u, H p ≠ some (.frz ob u)) (hx : ∀ f, H p ≠ some (.ext f)) (hne : Muts o → a ≠ p) (h : RpO K T m n H o a) : RpO K T m' n' (upd H p u) o a := by
  cases o with
  | lst xs => obtain ⟨vs, e, r⟩ := h; exact ⟨vs, by rw [upd_ne (hne trivial)]; exact e, r.gr g⟩
  | rol xs => obtain ⟨vs, e, r⟩ := h; exact ⟨vs, e.chg hp, r.gr g⟩
  | dk kvs => obtain ⟨vs, e, r⟩ := h; exact ⟨vs, by rw [upd_ne (hne trivial)]; exact e, r.gr g⟩
  | dt kvs => obtain ⟨vs, e, r⟩ := h; exact ⟨vs, by rw [upd_ne (hne trivial)]; exact e, r.gr g⟩
  | ins c fs => obtain ⟨dx, vs, e, r⟩ := h; exact ⟨dx, vs, by rw [upd_ne (hne trivial)]; exact e, r.gr g⟩
  | lok o => exact h.elim
  | exc c fs =>
    rcases h with ⟨h1, h2⟩ | ⟨d, ws, h1, h2, h3⟩
    · exact .inl ⟨h1, exo_upd hx h2⟩
    · exact .inr ⟨d, ws, exo_upd hx h1, exd_upd hx h2, fun f x e => let ⟨v, e1, r⟩ := h3 f x e; ⟨v, e1, r.gr g⟩⟩
theorem RpO.some {o : O} {a : Addr} (hm : Muts o) (h : RpO K T m n H o a) : ∃ u, H a = some u ∧ (∀ ob w, u ≠ .frz ob w) ∧ (∀ xs, u ≠ .tup xs) ∧ ∀ f, u ≠ .ext f := by
  cases o with
  | exc c fs => exact hm.elim
  | lst xs => obtain ⟨vs, e, r⟩ := h; exact ⟨_, e, (fun _ _ z => nomatch z), (fun _ z => nomatch z), fun _ z => nomatch z⟩
  | rol xs => exact hm.elim
  | dk kvs => obtain ⟨vs, e, r⟩ := h; exact ⟨_, e, (fun _ _ z => nomatch z), (fun _ z => nomatch z), fun _ z => nomatch z⟩
  | dt kvs => obtain ⟨vs, e, r⟩ := h; exact ⟨_, e, (fun _ _ z => nomatch z), (fun _ z => nomatch z), fun _ z => nomatch z⟩
  | ins c fs => obtain ⟨dx, vs, e, r⟩ := h; exact ⟨_, e, (fun _ _ z => nomatch z), (fun _ z => nomatch z), fun _ z => nomatch z⟩
  | lok o => exact h.elim
/-- a new object, a tuple or anything that the store does not name -/
theorem Wd.new {st : Sto} {p : Addr} {o : HO} (w : Wd K T m st H) (hp : H p = none) : Wd K T m st (upd H p o) :=
  ⟨w.inj, fun i u e => (w.obj i u e).keep (gr_upd hp) (fun ob u z => by rw [hp] at z; cases z) (fun f z => by rw [hp] at z; cases z) fun hm => by
    obtain ⟨v, h1, _⟩ := (w.obj i u e).some hm
    exact ne_of_none h1 hp⟩
/-- a new object that the store names -/
theorem Wd.add {st : Sto} {p : Addr} {o : HO} {u : O} (w : Wd K T m st H) (hp : H p = none) (hu : RpO K T (mapAdd m st.length p) (st.length + 1) (upd H p o) u p) : Wd K T (mapAdd m st.length p) (st ++ [u]) (upd H p o) := by
  have hl : ∀ i x, (st ++ [u])[i]? = some x → (i < st.length ∧ st[i]? = some x) ∨ (i = st.length ∧ x = u) := fun i x e => by
    by_cases h : i < st.length
    · rw [List.getElem?_append_left h] at e; exact .inl ⟨h, e⟩
    · rw [List.getElem?_append_right (by omega)] at e
      have h2 : i = st.length := by
        cases q : i - st.length with
        | zero => omega
        | succ k => rw [q] at e; simp at e
      subst h2
      rw [Nat.sub_self] at e
      simp at e
      exact .inr ⟨rfl, e.symm⟩
  have old : ∀ i x, st[i]? = some x → Muts x → i < st.length → m i ≠ p := fun i x e hm _ => by
    obtain ⟨v, h1, _⟩ := (w.obj i x e).some hm
    exact ne_of_none h1 hp
  refine ⟨fun i j x y ei ej hx hy e => ?_, fun i x e => ?_⟩
  · unfold mapAdd at e
    rcases hl i x ei with ⟨a, b⟩ | ⟨a, b⟩ <;> rcases hl j y ej with ⟨c, d⟩ | ⟨c, d⟩
    · rw [if_neg (Nat.ne_of_lt a), if_neg (Nat.ne_of_lt c)] at e
      exact w.inj i j x y b d hx hy e
    · rw [if_neg (Nat.ne_of_lt a), if_pos c] at e
      exact absurd e (old i x b hx a)
    · rw [if_pos a, if_neg (Nat.ne_of_lt c)] at e
      exact absurd e.symm (old j y d hy c)
    · rw [a, c]
  · rw [List.length_append, List.length_singleton]
    rcases hl i x e with ⟨a, b⟩ | ⟨a, b⟩
    · have h0 := w.obj i x b
      have e1 : mapAdd m st.length p i = m i := by unfold mapAdd; rw [if_neg (Nat.ne_of_lt a)]
      rw [e1]
      exact h0.keep (gr_add hp) (fun ob u z => by rw [hp] at z; cases z) (fun f z => by rw [hp] at z; cases z) fun hm => old i x b hm a
    · subst a b
      have e1 : mapAdd m st.length p st.length = p := by unfold mapAdd; rw [if_pos rfl]
      rw [e1]
      exact hu
/-- an object of the store changes -/
theorem Wd.put {st : Sto} {i : Nat} {o : HO} {u u' : O} (w : Wd K T m st H) (hi : st[i]? = some u) (hm : Muts u) (hm' : Muts u') (g : Gr K m st.length H m st.length (upd H (m i) o) → RpO K T m st.length (upd H (m i) o) u' (m i)) :
    Wd K T m (st.set i u') (upd H (m i) o) ∧ Gr K m st.length H m st.length (upd H (m i) o) := by
  obtain ⟨v, h1, h2, h3, h4⟩ := (w.obj i u hi).some hm
  have gr : Gr K m st.length H m st.length (upd H (m i) o) := ⟨Nat.le_refl _, fun _ _ => rfl, fun a vs h => by
    rw [upd_ne (fun z => by subst z; rw [h1] at h; exact h3 _ (Option.some.inj h))]
    exact h⟩
  have lt : i < st.length := (List.getElem?_eq_some_iff.mp hi).1
  have hl : ∀ j x, (st.set i u')[j]? = some x → (j = i ∧ x = u') ∨ (j ≠ i ∧ st[j]? = some x) := fun j x e => by
    by_cases h : j = i
    · subst h
      rw [List.getElem?_set_self lt] at e
      exact .inl ⟨rfl, (Option.some.inj e).symm⟩
    · rw [List.getElem?_set_ne (fun z => h z.symm)] at e
      exact .inr ⟨h, e⟩
  refine ⟨⟨fun a b x y ea eb hx hy e => ?_, fun j x e => ?_⟩, gr⟩
  · rcases hl a x ea with ⟨c, d⟩ | ⟨c, d⟩ <;> rcases hl b y eb with ⟨c', d'⟩ | ⟨c', d'⟩
    · rw [c, c']
    · subst c; exact w.inj _ _ u y hi d' hm hy e
    · subst c'; exact w.inj _ _ x u d hi hx hm e
    · exact w.inj _ _ x y d d' hx hy e
  · rw [List.length_set]
    rcases hl j x e with ⟨c, d⟩ | ⟨c, d⟩
    · subst c d; exact g gr
    · exact (w.obj j x d).keep gr (fun ob u z => by rw [h1] at z; exact h2 _ _ (Option.some.inj z)) (fun f z => by rw [h1] at z; exact h4 _ (Option.some.inj z)) fun hx z => c (w.inj j i x u d hi hx hm z)
end
end Py
end
section
set_option Elab.async false
set_option linter.all false
set_option maxRecDepth 100000
set_option maxHeartbeats 2000000
namespace Py
open PySem L2
theorem LINE_eq : LINE = sizeLine := by rw [PySem.sizeLine_eq]; rfl
section
variable (K : PySem.W.Frag) (T : Tab) (C : Py.Cx)
/-- what the walk wants of a value and a heap, said of the store -/
def KD (m : Nat → Addr) (n : Nat) (H : Hp) (Q : VK) : K1 := fun d st' => ∀ m' H' v, Wd K T m' st' H' → Gr K m n H m' st'.length H' → Rp K T m' st'.length H' d v → Q v H'
def KB (m : Nat → Addr) (n : Nat) (H : Hp) (Q : Bool → Hp → Prop) : Bool → Sto → Prop := fun b st' => ∀ m' H', Wd K T m' st' H' → Gr K m n H m' st'.length H' → Q b H'
def KA (m : Nat → Addr) (n : Nat) (H : Hp) (Q : List V → Hp → Prop) : List D → Sto → Prop := fun ds st' => ∀ m' H' vs, Wd K T m' st' H' → Gr K m n H m' st'.length H' → RpA K T m' st'.length H' ds vs → Q vs H'
def KN (m : Nat → Addr) (n : Nat) (H : Hp) (Q : L2.St → Hp → Prop) : Env → Sto → Prop := fun env st' => ∀ m' σ' H', EnvR K T m' st'.length H' env σ' → Wd K T m' st' H' → Gr K m n H m' st'.length H' → Q σ' H'
def KE (m : Nat → Addr) (n : Nat) (H : Hp) (D : Ends) : KS := ⟨KN K T m n H D.nx, KD K T m n H D.rt, KN K T m n H D.bk, KN K T m n H D.ct⟩
def tE (e : E) : TE := fun σ H Q => ∃ env st m, EnvR K T m st.length H env σ ∧ Wd K T m st H ∧ We C e env st (KD K T m st.length H Q)
def tT (e : Py.T) : TT := fun σ H Q => ∃ env st m, EnvR K T m st.length H env σ ∧ Wd K T m st H ∧ Wt C e env st (KB K T m st.length H Q)
def tA (es : Es) : TA := fun σ H Q => ∃ env st m, EnvR K T m st.length H env σ ∧ Wd K T m st H ∧ Wes C es env st (KA K T m st.length H Q)
/-- slots that are not named stay -/
def Out (σ σ' : L2.St) (l : List Nat) : Prop := σ'.length = σ.length ∧ ∀ i : Nat, i ∉ l → σ'[i]? = σ[i]?
def KG (m : Nat → Addr) (n : Nat) (H : Hp) (σ : L2.St) (l : List Nat) (Q : L2.St → Hp → Prop) : Env → Sto → Prop := fun env st' => ∀ m' σ' H', EnvR K T m' st'.length H' env σ' → Wd K T m' st' H' → Gr K m n H m' st'.length H' → Out σ σ' l → Q σ' H'
def tG (g : G) : TG := fun v σ H Q => ∃ d env st m, Rp K T m st.length H d v ∧ EnvR K T m st.length H env σ ∧ Wd K T m st H ∧ Wg C g d env st (KG K T m st.length H σ (gsl g) Q)
def tGs (g : Gs) : TGs := fun vs σ H Q => ∃ ds env st m, RpA K T m st.length H ds vs ∧ EnvR K T m st.length H env σ ∧ Wd K T m st H ∧ Wgs C g ds env st (KG K T m st.length H σ (gsls g) Q)
def tS (s : S) : TS := fun D σ H => ∃ env st m, EnvR K T m st.length H env σ ∧ Wd K T m st H ∧ Ws C s env st (KE K T m st.length H D)
def tSs (s : Ss) : TS := fun D σ H => ∃ env st m, EnvR K T m st.length H env σ ∧ Wd K T m st H ∧ Wss C s env st (KE K T m st.length H D)
end
section
variable {K : PySem.W.Frag} {T : Tab} {C : Py.Cx} {X : L2.Cx}
theorem _root_.L2.PE.imp {e : Expr} {t t' : TE} (h : PE X e t) (i : ∀ σ H Q, t' σ H Q → t σ H Q) : PE X e t' := ⟨fun pins s σ H Q I w => h.run pins s σ H Q I (i σ H Q w)⟩
theorem _root_.L2.PT.imp {e : Expr} {t t' : TT} (h : PT X e t) (i : ∀ σ H Q, t' σ H Q → t σ H Q) : PT X e t' := ⟨fun pins s σ H Q I w => h.run pins s σ H Q I (i σ H Q w)⟩
theorem _root_.L2.PW.imp {e : Expr} {t t' : TT} (h : PW X e t) (i : ∀ σ H Q, t' σ H Q → t σ H Q) : PW X e t' := ⟨fun wh pins s σ H Q I w => h.run wh pins s σ H Q I (i σ H Q w)⟩
theorem _root_.L2.PA.imp {e : List Expr} {t t' : TA} (h : PA X e t) (i : ∀ σ H Q, t' σ H Q → t σ H Q) : PA X e t' := ⟨fun pos pins s σ H Q I w => h.run pos pins s σ H Q I (i σ H Q w)⟩
theorem _root_.L2.PS.imp {e : Stmt} {t t' : TS} (h : PS X e t) (i : ∀ D σ H, t' D σ H → t D σ H) : PS X e t' := ⟨fun pins s σ H Q I w => h.run pins s σ H Q I (i Q σ H w)⟩
theorem _root_.L2.PSs.imp {e : List Stmt} {t t' : TS} (h : PSs X e t) (i : ∀ D σ H, t' D σ H → t D σ H) : PSs X e t' := ⟨fun pins s σ H Q I w => h.run pins s σ H Q I (i Q σ H w)⟩
theorem _root_.L2.PG.imp {e : Expr} {t t' : TG} (h : PG X e t) (i : ∀ v σ H Q, t' v σ H Q → t v σ H Q) : PG X e t' := ⟨fun pins s σ H v u Q I r w => h.run pins s σ H v u Q I r (i v σ H Q w)⟩
theorem _root_.L2.PGs.imp {e : List Expr} {t t' : TGs} (h : PGs X e t) (i : ∀ v σ H Q, t' v σ H Q → t v σ H Q) : PGs X e t' := ⟨fun pins s σ H v u Q I r w => h.run pins s σ H v u Q I r (i v σ H Q w)⟩
theorem _root_.L2.PI.imp {tg e : Expr} {t t' : TI} (h : PI X tg e t) (i : ∀ σ H Q, t' σ H Q → t σ H Q) : PI X tg e t' := ⟨fun pins s σ H R I w => h.run pins s σ H R I (i σ H R w)⟩
/-! ### going on -/
section
variable {m : Nat → Addr} {st : Sto} {H : Hp} {env : Env} {σ : L2.St}
theorem tE.go (hC : C.Mono) {e : E} {R : K1} {Q : VK} (er : EnvR K T m st.length H env σ) (w : Wd K T m st H) (h : We C e env st R)
    (k : ∀ d st1 m1 H1 v, R d st1 → Wd K T m1 st1 H1 → Gr K m st.length H m1 st1.length H1 → Rp K T m1 st1.length H1 d v → Q v H1) : tE K T C e σ H Q :=
  ⟨env, st, m, er, w, We_mono hC e env st _ _ (fun d st1 r m1 H1 v w1 g1 rv => k d st1 m1 H1 v r w1 g1 rv) h⟩
theorem tT.go (hC : C.Mono) {e : Py.T} {R : Bool → Sto → Prop} {Q : Bool → Hp → Prop} (er : EnvR K T m st.length H env σ) (w : Wd K T m st H) (h : Wt C e env st R)
    (k : ∀ d st1 m1 H1, R d st1 → Wd K T m1 st1 H1 → Gr K m st.length H m1 st1.length H1 → Q d H1) : tT K T C e σ H Q :=
  ⟨env, st, m, er, w, Wt_mono hC e env st _ _ (fun d st1 r m1 H1 w1 g1 => k d st1 m1 H1 r w1 g1) h⟩
theorem tA.go (hC : C.Mono) {e : Es} {R : List D → Sto → Prop} {Q : List V → Hp → Prop} (er : EnvR K T m st.length H env σ) (w : Wd K T m st H) (h : Wes C e env st R)
    (k : ∀ d st1 m1 H1 v, R d st1 → Wd K T m1 st1 H1 → Gr K m st.length H m1 st1.length H1 → RpA K T m1 st1.length H1 d v → Q v H1) : tA K T C e σ H Q :=
  ⟨env, st, m, er, w, Wes_mono hC e env st _ _ (fun d st1 r m1 H1 v w1 g1 rv => k d st1 m1 H1 v r w1 g1 rv) h⟩
theorem tG.go (hC : C.Mono) {g : G} {d : D} {v : V} {R : Env → Sto → Prop} {Q : L2.St → Hp → Prop} (rd : Rp K T m st.length H d v) (er : EnvR K T m st.length H env σ) (w : Wd K T m st H) (h : Wg C g d env st R)
    (k : ∀ env1 st1 m1 σ1 H1, R env1 st1 → EnvR K T m1 st1.length H1 env1 σ1 → Wd K T m1 st1 H1 → Gr K m st.length H m1 st1.length H1 → Out σ σ1 (gsl g) → Q σ1 H1) : tG K T C g v σ H Q :=
  ⟨d, env, st, m, rd, er, w, Wg_mono hC g d env st _ _ (fun env1 st1 r m1 σ1 H1 e1 w1 g1 o1 => k env1 st1 m1 σ1 H1 r e1 w1 g1 o1) h⟩
theorem tGs.go (hC : C.Mono) {g : Gs} {d : List D} {v : List V} {R : Env → Sto → Prop} {Q : L2.St → Hp → Prop} (rd : RpA K T m st.length H d v) (er : EnvR K T m st.length H env σ) (w : Wd K T m st H) (h : Wgs C g d env st R)
    (k : ∀ env1 st1 m1 σ1 H1, R env1 st1 → EnvR K T m1 st1.length H1 env1 σ1 → Wd K T m1 st1 H1 → Gr K m st.length H m1 st1.length H1 → Out σ σ1 (gsls g) → Q σ1 H1) : tGs K T C g v σ H Q :=
  ⟨d, env, st, m, rd, er, w, Wgs_mono hC g d env st _ _ (fun env1 st1 r m1 σ1 H1 e1 w1 g1 o1 => k env1 st1 m1 σ1 H1 r e1 w1 g1 o1) h⟩
theorem KD.gr {n1 : Nat} {m1 : Nat → Addr} {H1 : Hp} {n : Nat} {Q : VK} {d : D} {s : Sto} (g : Gr K m n H m1 n1 H1) (h : KD K T m n H Q d s) : KD K T m1 n1 H1 Q d s := fun m' H' v w g1 r => h m' H' v w (g.trans g1) r
theorem KB.gr {n1 : Nat} {m1 : Nat → Addr} {H1 : Hp} {n : Nat} {Q : Bool → Hp → Prop} {d : Bool} {s : Sto} (g : Gr K m n H m1 n1 H1) (h : KB K T m n H Q d s) : KB K T m1 n1 H1 Q d s := fun m' H' w g1 => h m' H' w (g.trans g1)
theorem KN.gr {n1 : Nat} {m1 : Nat → Addr} {H1 : Hp} {n : Nat} {Q : L2.St → Hp → Prop} {d : Env} {s : Sto} (g : Gr K m n H m1 n1 H1) (h : KN K T m n H Q d s) : KN K T m1 n1 H1 Q d s := fun m' σ' H' e w g1 => h m' σ' H' e w (g.trans g1)
theorem KA.gr {n1 : Nat} {m1 : Nat → Addr} {H1 : Hp} {n : Nat} {Q : List V → Hp → Prop} {d : List D} {s : Sto} (g : Gr K m n H m1 n1 H1) (h : KA K T m n H Q d s) : KA K T m1 n1 H1 Q d s := fun m' H' v w g1 r => h m' H' v w (g.trans g1) r
theorem KE.gr {n1 : Nat} {m1 : Nat → Addr} {H1 : Hp} {n : Nat} {D : Ends} (g : Gr K m n H m1 n1 H1) : LeS (KE K T m n H D) (KE K T m1 n1 H1 D) :=
  ⟨fun _ _ h => h.gr g, fun _ _ h => h.gr g, fun _ _ h => h.gr g, fun _ _ h => h.gr g⟩
/-- the value as it stands -/
theorem KD.same {Q : VK} {d : D} {v : V} (h : KD K T m st.length H Q d st) (w : Wd K T m st H) (r : Rp K T m st.length H d v) : Q v H := h m H v w Gr.refl r
/-- a new tuple -/
theorem KD.tup {Q : VK} {ds : List D} {vs : List V} {p : Addr} (h : KD K T m st.length H Q (.tup ds) st) (w : Wd K T m st H) (hp : H p = none) (r : RpA K T m st.length H ds vs) : Q (.ref p) (upd H p (.tup vs)) :=
  h m _ _ (w.new hp) (gr_upd hp) (.tup upd_same (r.gr (gr_upd hp)))
/-- a new object -/
theorem KD.new {Q : VK} {o : O} {u : HO} {p : Addr} (h : KD K T m st.length H Q (.ref st.length) (st ++ [o])) (w : Wd K T m st H) (hp : H p = none)
    (r : Gr K m st.length H (mapAdd m st.length p) (st.length + 1) (upd H p u) → RpO K T (mapAdd m st.length p) (st.length + 1) (upd H p u) o p) : Q (.ref p) (upd H p u) := by
  have g : Gr K m st.length H (mapAdd m st.length p) (st.length + 1) (upd H p u) := gr_add hp
  have e : (V.ref p) = .ref (mapAdd m st.length p st.length) := by unfold mapAdd; rw [if_pos rfl]
  rw [e]
  refine h _ _ _ (w.add hp (r g)) (by rw [List.length_append]; exact g) (.ref ?_)
  rw [List.length_append]
  exact Nat.lt_succ_self _
theorem KD.lst {Q : VK} {ds : List D} {vs : List V} {p : Addr} (h : KD K T m st.length H Q (.ref st.length) (st ++ [.lst ds])) (w : Wd K T m st H) (hp : H p = none) (r : RpA K T m st.length H ds vs) : Q (.ref p) (upd H p (.lst vs)) :=
  h.new w hp fun g => ⟨vs, upd_same, r.gr g⟩
/-- an object of the store is changed, the value d is handed on -/
theorem KD.put {Q : VK} {i : Nat} {d : D} {v : V} {o : HO} {u u' : O} (h : KD K T m st.length H Q d (st.set i u')) (w : Wd K T m st H) (hi : st[i]? = some u) (hm : Muts u) (hm' : Muts u') (rd : Rp K T m st.length H d v)
    (g : Gr K m st.length H m st.length (upd H (m i) o) → RpO K T m st.length (upd H (m i) o) u' (m i)) : Q v (upd H (m i) o) := by
  obtain ⟨w1, g1⟩ := w.put hi hm hm' g
  exact h m _ v w1 (by rw [List.length_set]; exact g1) (by rw [List.length_set]; exact rd.gr g1)
theorem KN.put {Q : L2.St → Hp → Prop} {i : Nat} {o : HO} {u u' : O} (h : KN K T m st.length H Q env (st.set i u')) (er : EnvR K T m st.length H env σ) (w : Wd K T m st H) (hi : st[i]? = some u) (hm : Muts u) (hm' : Muts u')
    (g : Gr K m st.length H m st.length (upd H (m i) o) → RpO K T m st.length (upd H (m i) o) u' (m i)) : Q σ (upd H (m i) o) := by
  obtain ⟨w1, g1⟩ := w.put hi hm hm' g
  exact h m σ _ (by rw [List.length_set]; exact er.gr g1) w1 (by rw [List.length_set]; exact g1)
/-- the list that stands at n -/
theorem Wd.lstAt {n : Nat} {xs : List D} (w : Wd K T m st H) (h : Py.lstAt st n = some xs) : ∃ vs, SqL K H (m n) vs ∧ RpA K T m st.length H xs vs ∧ n < st.length := by
  unfold Py.lstAt at h
  split at h
  · rename_i ys e
    cases h
    obtain ⟨vs, h1, h2⟩ := w.obj n _ e
    exact ⟨vs, SqL.of h1, h2, (List.getElem?_eq_some_iff.mp e).1⟩
  · rename_i ys e
    cases h
    obtain ⟨vs, h1, h2⟩ := w.obj n _ e
    exact ⟨vs, h1.sq, h2, (List.getElem?_eq_some_iff.mp e).1⟩
  · cases h
theorem Out.refl {l : List Nat} : Out σ σ l := ⟨rfl, fun _ _ => rfl⟩
theorem Out.mono {σ' : L2.St} {l l' : List Nat} (o : Out σ σ' l) (h : ∀ i ∈ l, i ∈ l') : Out σ σ' l' := ⟨o.1, fun i hi => o.2 i fun z => hi (h i z)⟩
theorem Out.trans {σ' σ'' : L2.St} {l : List Nat} (o : Out σ σ' l) (p : Out σ' σ'' l) : Out σ σ'' l := ⟨p.1.trans o.1, fun i hi => (p.2 i hi).trans (o.2 i hi)⟩
theorem Out.set {i : Nat} {v : Option V} : Out σ (σ.set i v) [i] := ⟨List.length_set, fun j hj => List.getElem?_set_ne fun z => hj (by rw [z]; exact List.mem_singleton.mpr rfl)⟩
theorem wipe_get (l : List Nat) : ∀ (τ : L2.St) (i : Nat), (L2.wipe τ l)[i]? = if i ∈ l ∧ i < τ.length then some none else τ[i]? := by
  induction l with
  | nil => intro τ i; rw [if_neg (by simp)]; rfl
  | cons a r ih =>
    intro τ i
    show ((L2.wipe τ r).set a none)[i]? = _
    by_cases h : a = i
    · subst h
      by_cases hl : a < τ.length
      · rw [List.getElem?_set_self (by rw [wipe_length]; exact hl), if_pos ⟨List.mem_cons_self, hl⟩]
      · rw [List.getElem?_eq_none (by rw [List.length_set, wipe_length]; omega), if_neg (fun z => hl z.2), List.getElem?_eq_none (by omega)]
    · rw [List.getElem?_set_ne h, ih τ i]
      have e : (i ∈ a :: r) ↔ (i ∈ r) := by
        rw [List.mem_cons]
        exact ⟨fun z => z.elim (fun z => absurd z.symm h) id, .inr⟩
      by_cases c : i ∈ r ∧ i < τ.length
      · rw [if_pos c, if_pos ⟨e.mpr c.1, c.2⟩]
      · rw [if_neg c, if_neg fun z => c ⟨e.mp z.1, z.2⟩]
theorem Out.wipe {σ' : L2.St} {l vs : List Nat} (o : Out (L2.wipe σ vs) σ' l) (h : ∀ i ∈ l, i ∈ vs) : L2.wipe σ' vs = L2.wipe σ vs := by
  apply List.ext_getElem?
  intro i
  have hl : σ'.length = σ.length := by rw [o.1, wipe_length]
  rw [wipe_get, wipe_get, hl]
  by_cases c : i ∈ vs
  · by_cases d : i < σ.length
    · rw [if_pos ⟨c, d⟩, if_pos ⟨c, d⟩]
    · rw [if_neg (fun z => d z.2), if_neg (fun z => d z.2), List.getElem?_eq_none (by omega), List.getElem?_eq_none (by omega)]
  · rw [if_neg (fun z => c z.1), if_neg (fun z => c z.1), o.2 i fun z => c (h i z), wipe_get, if_neg (fun z => c z.1)]
theorem EnvR.wipe (vs : List Nat) (er : EnvR K T m st.length H env σ) : EnvR K T m st.length H (Py.wipe env vs) (L2.wipe σ vs) := by
  induction vs with
  | nil => exact er
  | cons a r ih =>
    refine ⟨?_, fun i d e => ?_⟩
    · show ((Py.wipe env r).set a none).length = ((L2.wipe σ r).set a none).length
      rw [List.length_set, List.length_set]
      exact ih.len
    · have e' : ((Py.wipe env r).set a none)[i]? = some (some d) := e
      show ∃ v : V, ((L2.wipe σ r).set a none)[i]? = some (some v) ∧ _
      by_cases h : a = i
      · subst h
        by_cases hl : a < (Py.wipe env r).length
        · rw [List.getElem?_set_self hl] at e'
          cases e'
        · rw [List.getElem?_eq_none (by rw [List.length_set]; omega)] at e'
          cases e'
      · rw [List.getElem?_set_ne h] at e'
        obtain ⟨v, h1, h2⟩ := ih.at_ i d e'
        exact ⟨v, by rw [List.getElem?_set_ne h]; exact h1, h2⟩
theorem EnvR.set {i : Nat} {d : D} {v : V} (er : EnvR K T m st.length H env σ) (r : Rp K T m st.length H d v) : EnvR K T m st.length H (env.set i (some d)) (σ.set i (some v)) := by
  refine ⟨by rw [List.length_set, List.length_set]; exact er.len, fun j x e => ?_⟩
  by_cases h : i = j
  · subst h
    by_cases hl : i < env.length
    · rw [List.getElem?_set_self hl] at e
      obtain rfl : d = x := Option.some.inj (Option.some.inj e)
      exact ⟨v, List.getElem?_set_self (by rw [← er.len]; exact hl), r⟩
    · rw [List.getElem?_eq_none (by rw [List.length_set]; omega)] at e
      cases e
  · rw [List.getElem?_set_ne h] at e
    obtain ⟨u, h1, h2⟩ := er.at_ j x e
    exact ⟨u, by rw [List.getElem?_set_ne h]; exact h1, h2⟩
end
end
end Py
end
section
set_option Elab.async false
set_option linter.all false
set_option maxRecDepth 100000
set_option maxHeartbeats 2000000
namespace Py
open PySem L2
section
variable {K : PySem.W.Frag} {T : Tab} {C : Py.Cx} {X : L2.Cx}
theorem okS_of {s : Sx} (ok : (s.all fun c => decide (c < 1114112)) = true ∧ s.length ≤ 16777216) : OkS s :=
  ⟨fun c hc => of_decide_eq_true (List.all_eq_true.mp ok.1 c hc), ok.2⟩
theorem OkS.append {a b : Sx} (ha : OkS a) (hb : OkS b) (h : a.length + b.length ≤ LINE) : OkS (a ++ b) :=
  ⟨fun c hc => (List.mem_append.mp hc).elim (ha.1 c) (hb.1 c), by rw [List.length_append]; exact h⟩
theorem OkS.sub {a b : Sx} (ha : OkS a) (h : b.Sublist a) : OkS b := ⟨fun c hc => ha.1 c (h.subset hc), Nat.le_trans h.length_le ha.2⟩
/-! ### leaves -/
theorem se_v {i : Nat} {x : Str} {pos : Pos} (hN : X.N[i]? = some x) (hv : Vis X.env.scope x) (hd : (x == ("__debug__" : Str)) = false := by decide) (hcd : (x == ("__classdict__" : Str)) = false := by decide) :
    PE X (.Name x pos) (tE X.K T C (.v i)) := (pe_var hN hv hd hcd).imp fun σ H Q ⟨env, st, m, er, w, h⟩ => by
  unfold We at h
  obtain ⟨d, e, q⟩ := h
  obtain ⟨v, h1, h2⟩ := er.at_ i d e
  exact ⟨v, h1, q.same w h2⟩
theorem se_int {i j pos} : PE X (.Constant (.int i) j pos) (tE X.K T C (.c (.int i))) := pe_int.imp fun σ H Q ⟨env, st, m, er, w, h⟩ => by
  unfold We at h
  exact h.same w (.int i)
theorem se_bl {i j pos} : PE X (.Constant (.bool i) j pos) (tE X.K T C (.c (.bl i))) := pe_bl.imp fun σ H Q ⟨env, st, m, er, w, h⟩ => by
  unfold We at h
  exact h.same w (.bl i)
theorem se_non {j pos} : PE X (.Constant .none j pos) (tE X.K T C (.c .non)) := pe_non.imp fun σ H Q ⟨env, st, m, er, w, h⟩ => by
  unfold We at h
  exact h.same w .non
theorem se_str {x : Str} {s : Sx} {j pos} (e : x = tx s) (ok : (s.all fun c => decide (c < 1114112)) = true ∧ s.length ≤ 16777216) : PE X (.Constant (.str x) j pos) (tE X.K T C (.c (.str s))) := pe_str.imp fun σ H Q ⟨env, st, m, er, w, h⟩ => by
  unfold We at h
  subst e
  exact h.same w (.str s (okS_of ok))
/-- a module's name that holds a plain value -/
theorem se_gc {x : Str} {d : D} {v : V} {u : Value} {pos : Pos} (hg : Gl X x) (hm : X.mg x = some u) (r : RelV v u) (rd : ∀ m n H, Rp X.K T m n H d v) (hd : (x == ("__debug__" : Str)) = false := by decide) :
    PE X (.Name x pos) (tE X.K T C (.c d)) := (pe_glob hg hm r hd).imp fun σ H Q ⟨env, st, m, er, w, h⟩ => by
  unfold We at h
  exact h.same w (rd _ _ _)
/-! ### operators on values -/
theorem RpA.nil_iff {m : Nat → Addr} {n : Nat} {H : Hp} {ds : List D} {vs : List V} (r : RpA K T m n H ds vs) : vs = [] ↔ ds = [] := by
  cases r with
  | nil => simp
  | cons _ _ => simp
theorem tx_append (a b : Sx) : tx a ++ tx b = tx (a ++ b) := by
  show Str.mk (a.toArray ++ b.toArray) = Str.mk (a ++ b).toArray
  rw [List.append_toArray]
theorem tx_length (a : Sx) : (tx a).length = a.length := by
  show a.toArray.size = a.length
  simp
theorem tx_inj {a b : Sx} (h : tx a = tx b) : a = b := by
  have h1 : a.toArray = b.toArray := congrArg Str.cps h
  simpa using h1
def BinOk (X : L2.Cx) (T : Tab) (o : Bop) (r : R2) : Prop :=
  ∀ (m : Nat → Addr) (st : Sto) (H : Hp) (Q : VK) (x y : D) (v u : V), Wd X.K T m st H → Rp X.K T m st.length H x v → Rp X.K T m st.length H y u → wBin o x y st (KD X.K T m st.length H Q) → r v u H Q
theorem se_bin {op : Operator} {o : Bop} {r : R2} {a b : Expr} {ea eb : E} {pos : Pos} (hC : C.Mono) (ho : OpR X (binaryOp op) r) (hb : BinOk X T o r) (ha : PE X a (tE X.K T C ea)) (hbb : PE X b (tE X.K T C eb)) :
    PE X (.BinOp a op b pos) (tE X.K T C (.bin o ea eb)) := (pe_op ho ha hbb).imp fun σ H Q ⟨env, st, m, er, w, h⟩ => by
  unfold We at h
  refine tE.go hC er w h fun x st1 m1 H1 v h1 w1 g1 r1 => tE.go hC (er.gr g1) w1 h1 fun y st2 m2 H2 u h2 w2 g2 r2 => ?_
  exact hb m2 st2 H2 Q x y v u w2 (r1.gr g2) r2 (wBin_mono (fun d s q => q.gr (g1.trans g2)) _ _ _ _ h2)
def rAdd4 (K : PySem.W.Frag) : R2 := fun x y H Q => (rI0 fun i j => .int (i + j)) x y H Q ∨ (∃ i j, x = .str i ∧ y = .str j ∧ i.length + j.length ≤ sizeLine ∧ Q (.str (i ++ j)) H) ∨ rCatA K x y H Q ∨ rCat x y H Q
theorem op_add4 : OpR X (binaryOp .Add) (rAdd4 X.K) := op_add.or (op_add_str.or (op_catA.or op_cat))
theorem bin_add : BinOk X T .add (rAdd4 X.K) := by
  intro m st H Q x y v u w rx ry h
  cases rx with
  | int i => cases ry with
    | int j => exact .inl ⟨i, j, rfl, rfl, KD.same h w (.int _)⟩
    | _ => exact (show False from h).elim
  | str a oa => cases ry with
    | str b ob =>
      obtain ⟨h1, h2⟩ : a.length + b.length ≤ LINE ∧ _ := h
      exact .inr (.inl ⟨tx a, tx b, rfl, rfl, by rw [tx_length, tx_length, ← LINE_eq]; exact h1, by rw [tx_append]; exact KD.same h2 w (.str _ (oa.append ob h1))⟩)
    | _ => exact (show False from h).elim
  | @tup a vs ds ha ra => cases ry with
    | @tup b us es hb rb =>
      obtain ⟨h1, h2⟩ : ds.length + es.length ≤ LINE ∧ KD X.K T m st.length H Q (.tup (ds ++ es)) st := h
      refine .inr (.inr (.inl ⟨a, b, vs, us, rfl, rfl, SqT.of ha, SqT.of hb, by rw [← ra.length, ← rb.length, ← LINE_eq]; exact h1, fun e => ?_, fun _ e => ?_, fun _ _ p hp => ?_⟩))
      · rw [ra.nil_iff] at e
        subst e
        exact h2.same w (.tup hb rb)
      · rw [rb.nil_iff] at e
        subst e
        rw [List.append_nil] at h2
        exact h2.same w (.tup ha ra)
      · exact h2.tup w hp (ra.append rb)
    | _ => exact (show False from h).elim
  | @ref i hi => cases ry with
    | @ref j hj =>
      obtain ⟨a, b, h1, h2, h3, h4⟩ : ∃ a b, st[i]? = some (O.lst a) ∧ st[j]? = some (O.lst b) ∧ a.length + b.length ≤ LINE ∧ KD X.K T m st.length H Q (.ref st.length) (st ++ [O.lst (a ++ b)]) := h
      obtain ⟨vs, e1, r1⟩ := w.obj _ _ h1
      obtain ⟨us, e2, r2⟩ := w.obj _ _ h2
      exact .inr (.inr (.inr ⟨_, _, vs, us, rfl, rfl, e1, e2, by rw [← r1.length, ← r2.length, ← LINE_eq]; exact h3, fun p hp => h4.lst w hp (r1.append r2)⟩))
    | _ => exact (show False from h).elim
  | _ => exact (show False from h).elim
/-- an operator on two ints -/
theorem bin_int {o : Bop} {G : Int → Int → Prop} {g : Int → Int → Int} (hw : ∀ x y st Q, wBin o x y st Q → ∃ i j, x = .int i ∧ y = .int j ∧ G i j ∧ Q (.int (g i j)) st) : BinOk X T o (rI G fun i j => .int (g i j)) := by
  intro m st H Q x y v u w rx ry h
  obtain ⟨i, j, rfl, rfl, h1, h2⟩ := hw x y st _ h
  cases rx
  cases ry
  exact ⟨i, j, rfl, rfl, h1, h2.same w (.int _)⟩
theorem bin_sub : BinOk X T .sub (rI0 fun i j => .int (i - j)) := by
  intro m st H Q x y v u w rx ry h
  have h' : ∃ i j, x = .int i ∧ y = .int j ∧ KD X.K T m st.length H Q (.int (i - j)) st := by
    unfold wBin at h
    split at h
    all_goals first
      | exact ⟨_, _, rfl, rfl, h⟩
      | exact h.elim
      | contradiction
  obtain ⟨i, j, rfl, rfl, h2⟩ := h'
  cases rx
  cases ry
  exact ⟨i, j, rfl, rfl, h2.same w (.int _)⟩
theorem bin_mul : BinOk X T .mul (rI CMulW fun i j => .int (i * j)) := bin_int (by intro x y st Q h; unfold wBin at h; split at h <;> first | exact ⟨_, _, rfl, rfl, h.1, h.2⟩ | exact h.elim | contradiction)
theorem bin_fdiv : BinOk X T .fdiv (rI CDivW fun i j => .int (i / j)) := bin_int (by intro x y st Q h; unfold wBin at h; split at h <;> first | exact ⟨_, _, rfl, rfl, h.1, h.2⟩ | exact h.elim | contradiction)
theorem bin_mod : BinOk X T .mod (rI (fun _ j => 0 < j) fun i j => .int (i % j)) := bin_int (by intro x y st Q h; unfold wBin at h; split at h <;> first | exact ⟨_, _, rfl, rfl, h.1, h.2⟩ | exact h.elim | contradiction)
theorem bin_pow : BinOk X T .pow (rI CPow fun i j => .int (i ^ j.toNat)) := bin_int (by intro x y st Q h; unfold wBin at h; split at h <;> first | exact ⟨_, _, rfl, rfl, h.1, h.2⟩ | exact h.elim | contradiction)
theorem bin_shl : BinOk X T .shl (rI CPow fun i j => .int (i * 2 ^ j.toNat)) := bin_int (by intro x y st Q h; unfold wBin at h; split at h <;> first | exact ⟨_, _, rfl, rfl, h.1, h.2⟩ | exact h.elim | contradiction)
theorem bin_shr : BinOk X T .shr (rI (fun _ j => 0 ≤ j) fun i j => .int (i / 2 ^ j.toNat)) := bin_int (by intro x y st Q h; unfold wBin at h; split at h <;> first | exact ⟨_, _, rfl, rfl, h.1, h.2⟩ | exact h.elim | contradiction)
theorem bin_band : BinOk X T .band (fun x y H Q => ∃ n : Nat, x = .int (n : Int) ∧ y = .int 1 ∧ Q (.int ((n % 2 : Nat) : Int)) H) := by
  intro m st H Q x y v u w rx ry h
  have h' : ∃ i j, x = .int i ∧ y = .int j ∧ (j = 1 ∧ 0 ≤ i) ∧ KD X.K T m st.length H Q (.int (i % 2)) st := by
    revert h
    unfold wBin
    split <;> intro h
    all_goals first
      | exact ⟨_, _, rfl, rfl, h.1, h.2⟩
      | exact h.elim
      | contradiction
  obtain ⟨i, j, rfl, rfl, ⟨rfl, h1⟩, h2⟩ := h'
  cases rx
  cases ry
  obtain ⟨n, rfl⟩ := Int.eq_ofNat_of_zero_le h1
  exact ⟨n, rfl, rfl, h2.same w (.int _)⟩
theorem se_neg {a : Expr} {ea : E} {pos : Pos} (hC : C.Mono) (ha : PE X a (tE X.K T C ea)) : PE X (.UnaryOp .USub a pos) (tE X.K T C (.neg ea)) := (pe_un un_neg ha).imp fun σ H Q ⟨env, st, m, er, w, h⟩ => by
  unfold We at h
  refine tE.go hC er w h fun x st1 m1 H1 v h1 w1 g1 r1 => ?_
  obtain ⟨i, rfl, q⟩ := h1
  cases r1
  exact ⟨i, rfl, (q.gr g1).same w1 (.int _)⟩
/-! ### argument lists, tuples, lists -/
theorem sa_nil (hC : C.Mono) : PA X [] (tA X.K T C .nil) := pa_nil.imp fun σ H Q ⟨env, st, m, er, w, h⟩ => by
  unfold Wes at h
  exact h m H [] w Gr.refl .nil
theorem sa_cons {e : Expr} {es : List Expr} {ea : E} {eas : Es} (hC : C.Mono) (ha : PE X e (tE X.K T C ea)) (hr : PA X es (tA X.K T C eas)) (hs : starEach (e :: es) X.env = (false, eval e X.env) :: starEach es X.env := by rfl) :
    PA X (e :: es) (tA X.K T C (.cons ea eas)) := (pa_cons ha hr hs).imp fun σ H Q ⟨env, st, m, er, w, h⟩ => by
  unfold Wes at h
  exact tE.go hC er w h fun x st1 m1 H1 v h1 w1 g1 r1 => tA.go hC (er.gr g1) w1 h1 fun y st2 m2 H2 u h2 w2 g2 r2 => h2 m2 H2 (v :: u) w2 (g1.trans g2) (.cons (r1.gr g2) r2)
theorem se_tup {es : List Expr} {eas : Es} {x1} {pos : Pos} (hC : C.Mono) (ha : PA X es (tA X.K T C eas)) : PE X (.Tuple es x1 pos) (tE X.K T C (.tup eas)) := (pe_tup ha).imp fun σ H Q ⟨env, st, m, er, w, h⟩ => by
  unfold We at h
  exact tA.go hC er w h fun y st2 m2 H2 u h2 w2 g2 r2 => ⟨by rw [← r2.length, ← LINE_eq]; exact h2.1, fun p hp => (KD.gr g2 h2.2).tup w2 hp r2⟩
theorem se_lst {es : List Expr} {eas : Es} {pos : Pos} (hC : C.Mono) (ha : PA X es (tA X.K T C eas)) : PE X (.List es pos) (tE X.K T C (.lst eas)) := (pe_lst ha).imp fun σ H Q ⟨env, st, m, er, w, h⟩ => by
  unfold We at h
  exact tA.go hC er w h fun y st2 m2 H2 u h2 w2 g2 r2 => ⟨by rw [← r2.length, ← LINE_eq]; exact h2.1, fun p hp => (KD.gr g2 h2.2).lst w2 hp r2⟩
end
end Py
end
section
set_option Elab.async false
set_option linter.all false
set_option maxRecDepth 100000
set_option maxHeartbeats 2000000
namespace Py
open PySem L2
mutual
def pd : P → PyData
  | .non => .none
  | .bl b => .bool b
  | .int i => .int i
  | .str s => .str (tx s)
  | .lst xs => .list (pds xs)
  | .tup xs => .tuple (pds xs)
def pds : List P → List PyData
  | [] => []
  | x :: xs => pd x :: pds xs
end
theorem tx_beq (a b : Sx) : (tx a == tx b) = (a == b) := by
  by_cases h : a = b
  · subst h; simp
  · rw [beq_eq_false_iff_ne.mpr h, beq_eq_false_iff_ne.mpr fun e => h (tx_inj e)]
mutual
theorem eqv_pd : ∀ p q : P, PyData.eqv (pd p) (pd q) = eqP p q
  | .non, .non | .non, .bl _ | .non, .int _ | .non, .str _ | .non, .lst _ | .non, .tup _ => by simp [pd, PyData.eqv, eqP]
  | .bl _, .non | .bl _, .bl _ | .bl _, .int _ | .bl _, .str _ | .bl _, .lst _ | .bl _, .tup _ => by simp [pd, PyData.eqv, eqP]
  | .int _, .non | .int _, .bl _ | .int _, .int _ | .int _, .str _ | .int _, .lst _ | .int _, .tup _ => by simp [pd, PyData.eqv, eqP]
  | .str _, .non | .str _, .bl _ | .str _, .int _ | .str _, .lst _ | .str _, .tup _ => by simp [pd, PyData.eqv, eqP]
  | .str a, .str b => by simp only [pd, PyData.eqv, eqP]; exact tx_beq a b
  | .lst _, .non | .lst _, .bl _ | .lst _, .int _ | .lst _, .str _ | .lst _, .tup _ => by simp [pd, PyData.eqv, eqP]
  | .lst a, .lst b => by simp only [pd, PyData.eqv, eqP]; exact eqv_pds a b
  | .tup _, .non | .tup _, .bl _ | .tup _, .int _ | .tup _, .str _ | .tup _, .lst _ => by simp [pd, PyData.eqv, eqP]
  | .tup a, .tup b => by simp only [pd, PyData.eqv, eqP]; exact eqv_pds a b
theorem eqv_pds : ∀ p q : List P, PyData.eqvAll (pds p) (pds q) = eqPs p q
  | [], [] | [], _ :: _ | _ :: _, [] => by simp [pds, PyData.eqvAll, eqPs]
  | a :: r, b :: s => by simp only [pds, PyData.eqvAll, eqPs]; rw [eqv_pd a b, eqv_pds r s]
end
theorem strOk_of {s : Sx} (h : OkS s) : PyData.strOk (tx s) = true := by
  unfold PyData.strOk tx
  rw [List.all_toArray, List.all_eq_true]
  exact fun c hc => decide_eq_true (h.1 c hc)
section
variable {K : PySem.W.Frag} {T : Tab} {m : Nat → Addr} {st : Sto} {H : Hp}
def DpN (K : PySem.W.Frag) (H : Hp) (v : V) (p : P) (n : Nat) : Prop := Dp K H v (pd p) ∧ (pd p).canLay0 = true ∧ (pd p).depth ≤ n
def DpsN (K : PySem.W.Frag) (H : Hp) (v : List V) (p : List P) (n : Nat) : Prop := DpAll K H v (pds p) ∧ PyData.canLayAll0 (pds p) = true ∧ PyData.depthAll (pds p) ≤ n
theorem omap_dp {n : Nat} (ih : ∀ d p v, toP st n d = some p → Rp K T m st.length H d v → DpN K H v p n) : ∀ (ds : List D) (ps : List P) (vs : List V), omap (toP st n) ds = some ps → RpA K T m st.length H ds vs → DpsN K H vs ps n
  | [], ps, vs, h, r => by
    cases r
    cases h
    exact ⟨.nil, by simp [pds, PyData.canLayAll0], by simp [pds, PyData.depthAll]⟩
  | d :: ds, ps, vs, h, r => by
    cases r with
    | cons r1 r2 =>
      unfold omap at h
      cases e1 : toP st n d with
      | none => rw [e1] at h; cases h
      | some p =>
        cases e2 : omap (toP st n) ds with
        | none => rw [e1, e2] at h; cases h
        | some qs =>
          rw [e1, e2] at h
          cases h
          obtain ⟨a1, a2, a3⟩ := ih d p _ e1 r1
          obtain ⟨b1, b2, b3⟩ := omap_dp ih ds qs _ e2 r2
          refine ⟨.cons a1 b1, by simp [pds, PyData.canLayAll0, a2, b2], ?_⟩
          simp only [pds, PyData.depthAll]
          omega
theorem toP_dp (w : Wd K T m st H) : ∀ (n : Nat) (d : D) (p : P) (v : V), toP st n d = some p → Rp K T m st.length H d v → DpN K H v p n
  | 0, d, p, v, h, r => by unfold toP at h; cases h
  | n + 1, d, p, v, h, r => by
    cases r with
    | non => unfold toP at h; cases h; exact ⟨.non, by simp [pd, PyData.canLay0], by simp [pd, PyData.depth]⟩
    | bl b => unfold toP at h; cases h; exact ⟨.bl b, by simp [pd, PyData.canLay0], by simp [pd, PyData.depth]⟩
    | int b => unfold toP at h; cases h; exact ⟨.int b, by simp [pd, PyData.canLay0], by simp [pd, PyData.depth]⟩
    | str b ob => unfold toP at h; cases h; exact ⟨.str _, by simp only [pd, PyData.canLay0]; exact strOk_of ob, by simp [pd, PyData.depth]⟩
    | @tup a vs ds ha ra =>
      unfold toP at h
      cases e : omap (toP st n) ds with
      | none => rw [e] at h; cases h
      | some ps =>
        rw [e] at h
        cases h
        obtain ⟨b1, b2, b3⟩ := omap_dp (toP_dp w n) ds ps vs e ra
        refine ⟨.tup (SqT.of ha) b1, by simp [pd, PyData.canLay0, b2], ?_⟩
        simp only [pd, PyData.depth]
        omega
    | @gt a vs ds ha ra =>
      unfold toP at h
      cases e : omap (toP st n) ds with
      | none => rw [e] at h; cases h
      | some ps =>
        rw [e] at h
        cases h
        obtain ⟨b1, b2, b3⟩ := omap_dp (toP_dp w n) ds ps vs e ra
        refine ⟨.tup (ha H) b1, by simp [pd, PyData.canLay0, b2], ?_⟩
        simp only [pd, PyData.depth]
        omega
    | @ref k hk =>
      unfold toP at h
      cases e0 : Py.lstAt st k with
      | none => rw [e0] at h; cases h
      | some ds =>
        rw [e0] at h
        simp only at h
        cases e : omap (toP st n) ds with
        | none => rw [e] at h; cases h
        | some ps =>
          rw [e] at h
          cases h
          obtain ⟨vs, h1, h2, _⟩ := w.lstAt e0
          obtain ⟨b1, b2, b3⟩ := omap_dp (toP_dp w n) ds ps vs e h2
          refine ⟨.lst h1 b1, by simp [pd, PyData.canLay0, b2], ?_⟩
          simp only [pd, PyData.depth]
          omega
    | fn k => unfold toP at h; cases h
theorem shaped_of {v : V} {p : P} {n : Nat} (h : DpN K H v p n) (hn : n ≤ 64) : SeqAt.shaped (pd p) = true := by
  unfold SeqAt.shaped
  rw [h.2.1]
  have h3 := h.2.2
  exact decide_eq_true (by omega)
end
/-! ### comparisons -/
section
variable {K : PySem.W.Frag} {T : Tab} {C : Py.Cx} {X : L2.Cx}
def CmpOk (X : L2.Cx) (T : Tab) (o : Cop) (r : R2) : Prop :=
  ∀ (m : Nat → Addr) (st : Sto) (H : Hp) (Q : VK) (x y : D) (v u : V) (b : Bool), Wd X.K T m st H → Rp X.K T m st.length H x v → Rp X.K T m st.length H y u → cmpD st o x y = some b → Q (.bl b) H → r v u H Q
theorem cmp_eq : CmpOk X T .eq (rEqD X.K) := by
  intro m st H Q x y v u b w rx ry h q
  have h' : eqD st x y = some b := h
  unfold eqD at h'
  cases e1 : toP st 60 x with
  | none => rw [e1] at h'; cases h'
  | some p =>
    cases e2 : toP st 60 y with
    | none => rw [e1, e2] at h'; cases h'
    | some p' =>
      rw [e1, e2] at h'
      cases h'
      have a := toP_dp w 60 x p v e1 rx
      have c := toP_dp w 60 y p' u e2 ry
      exact ⟨pd p, pd p', a.1, c.1, shaped_of a (by decide), shaped_of c (by decide), by rw [eqv_pd]; exact q⟩
theorem cmp_ne : CmpOk X T .ne (rNeD X.K) := by
  intro m st H Q x y v u b w rx ry h q
  have h' : (eqD st x y).map (!·) = some b := h
  cases e0 : eqD st x y with
  | none => rw [e0] at h'; cases h'
  | some b' =>
    rw [e0] at h'
    cases h'
    obtain ⟨d, e, a1, a2, a3, a4, a5⟩ := cmp_eq (X := X) (T := T) m st H (fun z _ => z = .bl b') x y v u b' w rx ry e0 rfl
    refine ⟨d, e, a1, a2, a3, a4, ?_⟩
    rw [V.bl.inj a5]
    exact q
theorem cmp_int {o : Cop} {p : Int → Int → Bool} (hw : ∀ st x y b, cmpD st o x y = some b → ∃ i j, x = .int i ∧ y = .int j ∧ b = p i j) : CmpOk X T o (rI0 fun i j => .bl (p i j)) := by
  intro m st H Q x y v u b w rx ry h q
  obtain ⟨i, j, rfl, rfl, rfl⟩ := hw st x y b h
  cases rx
  cases ry
  exact ⟨i, j, rfl, rfl, q⟩
theorem cmp_lt : CmpOk X T .lt (rI0 fun i j => .bl (decide (i < j))) := cmp_int (by intro st x y b h; unfold cmpD at h; split at h <;> first | contradiction | (cases h; exact ⟨_, _, rfl, rfl, rfl⟩))
theorem cmp_le : CmpOk X T .le (rI0 fun i j => .bl (decide (i ≤ j))) := cmp_int (by intro st x y b h; unfold cmpD at h; split at h <;> first | contradiction | (cases h; exact ⟨_, _, rfl, rfl, rfl⟩))
theorem cmp_gt : CmpOk X T .gt (rI0 fun i j => .bl (decide (j < i))) := cmp_int (by intro st x y b h; unfold cmpD at h; split at h <;> first | contradiction | (cases h; exact ⟨_, _, rfl, rfl, rfl⟩))
theorem cmp_ge : CmpOk X T .ge (rI0 fun i j => .bl (decide (j ≤ i))) := cmp_int (by intro st x y b h; unfold cmpD at h; split at h <;> first | contradiction | (cases h; exact ⟨_, _, rfl, rfl, rfl⟩))
theorem rp_non {m : Nat → Addr} {n : Nat} {H : Hp} {d : D} {v : V} (r : Rp K T m n H d v) : decide (v = V.non) = isNon d := by
  cases r <;> simp [isNon]
theorem cmp_isn : CmpOk X T .isn (fun x y H Q => y = .non ∧ Q (.bl (decide (x = .non))) H) := by
  intro m st H Q x y v u b w rx ry h q
  obtain ⟨rfl, rfl⟩ := cmpD_isn h
  cases ry
  exact ⟨rfl, by rw [rp_non rx]; exact q⟩
theorem cmp_isnn : CmpOk X T .isnn (fun x y H Q => y = .non ∧ Q (.bl (!decide (x = .non))) H) := by
  intro m st H Q x y v u b w rx ry h q
  obtain ⟨rfl, rfl⟩ := cmpD_isnn h
  cases ry
  exact ⟨rfl, by rw [rp_non rx]; exact q⟩
theorem cmp_isb : CmpOk X T .isb rIsB := by
  intro m st H Q x y v u b w rx ry h q
  unfold cmpD at h
  split at h <;> first | contradiction | skip
  cases h
  cases rx
  cases ry
  exact ⟨_, _, rfl, rfl, by rw [← Bool.beq_eq_decide_eq]; exact q⟩
theorem cmp_isnb : CmpOk X T .isnb rNotB := by
  intro m st H Q x y v u b w rx ry h q
  unfold cmpD at h
  split at h <;> first | contradiction | skip
  cases h
  cases rx
  cases ry
  exact ⟨_, _, rfl, rfl, by rw [← Bool.beq_eq_decide_eq]; exact q⟩
end
end Py
end
section
set_option Elab.async false
set_option linter.all false
set_option maxRecDepth 100000
set_option maxHeartbeats 2000000
namespace Py
open PySem L2
/-! ### in -/
section
variable {K : PySem.W.Frag} {T : Tab} {C : Py.Cx} {X : L2.Cx}
def rInDT (K : PySem.W.Frag) : R2 := fun x y H Q => ∃ d ds, Dp K H x d ∧ Dp K H y (.tuple ds) ∧ SeqAt.shaped d = true ∧ SeqAt.shaped (.tuple ds) = true ∧ Q (.bl (ds.any fun z => PyData.eqv z d)) H
def rNiDT (K : PySem.W.Frag) : R2 := fun x y H Q => ∃ d ds, Dp K H x d ∧ Dp K H y (.tuple ds) ∧ SeqAt.shaped d = true ∧ SeqAt.shaped (.tuple ds) = true ∧ Q (.bl (!ds.any fun z => PyData.eqv z d)) H
theorem op_inT (hu : X.A.units + 65 < cLine) : OpR X (compareOp .In) (rInDT X.K) := by
  intro pins s σ H x y v u Q I rx ry h
  obtain ⟨d, ds, hd, he, sd, se, q⟩ := h
  obtain ⟨as, r1⟩ := Dp.reads I d x v hd rx
  obtain ⟨bs, r2⟩ := Dp.reads I (.tuple ds) y u he ry
  exact SeqAt.in_tuple_reads r2 r1 (SeqAt.canLay_of_shaped se) (SeqAt.canLay_of_shaped sd) (PyProof.Rows.room_in_shaped sd hu) ⟨.bl _, H, I, rfl, q⟩
theorem op_niT (hu : X.A.units + 65 < cLine) : OpR X (compareOp .NotIn) (rNiDT X.K) := by
  intro pins s σ H x y v u Q I rx ry h
  obtain ⟨d, ds, hd, he, sd, se, q⟩ := h
  obtain ⟨as, r1⟩ := Dp.reads I d x v hd rx
  obtain ⟨bs, r2⟩ := Dp.reads I (.tuple ds) y u he ry
  exact SeqAt.notIn_tuple_reads r2 r1 (SeqAt.canLay_of_shaped se) (SeqAt.canLay_of_shaped sd) (PyProof.Rows.room_in_shaped sd hu) ⟨.bl _, H, I, rfl, q⟩
def rInDi : R2 := fun x y H Q => ∃ a o, y = .ref a ∧ DGet H a x o ∧ Q (.bl o.isSome) H
def rNiDi : R2 := fun x y H Q => ∃ a o, y = .ref a ∧ DGet H a x o ∧ Q (.bl !o.isSome) H
theorem op_inDi (hu : X.A.units + 65 < cLine) : OpR X (compareOp .In) rInDi := by
  intro pins s σ H x y v u Q I rx ry h
  obtain ⟨a, o, rfl, g, q⟩ := h
  cases ry
  exact d_in (by omega) I g rx fun s1 I1 => ⟨.bl _, H, I1, rfl, q⟩
theorem op_niDi (hu : X.A.units + 65 < cLine) : OpR X (compareOp .NotIn) rNiDi := by
  intro pins s σ H x y v u Q I rx ry h
  obtain ⟨a, o, rfl, g, q⟩ := h
  cases ry
  exact d_notIn (by omega) I g rx fun s1 I1 => ⟨.bl _, H, I1, rfl, q⟩
/-- keys of dicts -/
theorem kv_rp {m : Nat → Addr} {n : Nat} {H : Hp} {d : D} {v : V} {k : Ky} (h : kyOf d = some k) (r : Rp K T m n H d v) : v = kV (ky k) := by
  cases r with
  | int i => cases h; rfl
  | str s o => cases h; rfl
  | _ => cases h
theorem kvs_rp {m : Nat → Addr} {n : Nat} {H : Hp} : ∀ {ds : List D} {vs : List V} {ks : List Ky}, omap kyOf ds = some ks → RpA K T m n H ds vs → vs = (ks.map ky).map kV
  | _, _, _, h, .nil => by cases h; rfl
  | d :: ds, v :: vs, ks, h, .cons r a => by
    unfold omap at h
    cases e1 : kyOf d with
    | none => rw [e1] at h; cases h
    | some k =>
      cases e2 : omap kyOf ds with
      | none => rw [e1, e2] at h; cases h
      | some js =>
        rw [e1, e2] at h
        cases h
        rw [kv_rp e1 r, kvs_rp e2 a]
        rfl
theorem ky_inj {a b : Ky} (h : ky a = ky b) : a = b := by
  cases a with
  | i z => cases b with
    | i y => exact congrArg Ky.i (Sum.inl.inj h)
    | s y => cases h
  | s x => cases b with
    | i y => cases h
    | s y => exact congrArg Ky.s (tx_inj (Sum.inr.inj h))
theorem kys_inj {a b : List Ky} (h : a.map ky = b.map ky) : a = b := by
  induction a generalizing b with
  | nil => cases b with
    | nil => rfl
    | cons _ _ => cases h
  | cons x r ih => cases b with
    | nil => cases h
    | cons y s =>
      rw [List.map_cons, List.map_cons] at h
      rw [ky_inj (List.cons.inj h).1, ih (List.cons.inj h).2]
section
variable {κ μ : Type} [DecidableEq κ] [DecidableEq μ] {f : κ → μ}
theorem get_rel {m : Nat → Addr} {n : Nat} {H : Hp} (hf : ∀ a b, f a = f b → a = b) (k : κ) : ∀ {kvs : List (κ × D)} {ws : List (μ × V)}, RpK K T f m n H kvs ws → (∀ d, dGet kvs k = some d → ∃ v, valV ws (f k) = some v ∧ Rp K T m n H d v) ∧ (dGet kvs k = none → valV ws (f k) = none)
  | _, _, .nil => ⟨(fun _ h => nomatch h), (fun _ => rfl)⟩
  | (j, x) :: r, (j', v) :: s, .cons h t => by
    obtain ⟨e, rv⟩ := h
    have ih := get_rel hf k t
    have e' : j' = f j := e
    subst e'
    by_cases c : j = k
    · subst c
      refine ⟨fun d h => ?_, fun h => ?_⟩
      · unfold dGet at h
        rw [if_pos rfl] at h
        cases h
        exact ⟨v, valV_pos rfl, rv⟩
      · unfold dGet at h
        rw [if_pos rfl] at h
        cases h
    · have c' : ¬ f j = f k := fun z => c (hf _ _ z)
      refine ⟨fun d h => ?_, fun h => ?_⟩
      · unfold dGet at h
        rw [if_neg c] at h
        obtain ⟨u, h1, h2⟩ := ih.1 d h
        exact ⟨u, by rw [valV_neg (p := (f j, v)) c']; exact h1, h2⟩
      · unfold dGet at h
        rw [if_neg c] at h
        rw [valV_neg (p := (f j, v)) c']
        exact ih.2 h
theorem set_rel {m : Nat → Addr} {n : Nat} {H : Hp} (hf : ∀ a b, f a = f b → a = b) (k : κ) {d : D} {v : V} (rv : Rp K T m n H d v) : ∀ {kvs : List (κ × D)} {ws : List (μ × V)}, RpK K T f m n H kvs ws →
    RpK K T f m n H (dSet kvs k d) (ws.map fun kv => if kv.1 = f k then (kv.1, v) else kv)
  | _, _, .nil => .nil
  | (j, x) :: r, (j', u) :: s, .cons h t => by
    obtain ⟨e, ru⟩ := h
    have e' : j' = f j := e
    subst e'
    refine .cons ?_ (set_rel hf k rv t)
    by_cases c : j = k
    · subst c
      show (if f j = f j then ((f j, v) : μ × V) else (f j, u)).1 = f (if j = j then (j, d) else (j, x)).1 ∧ Rp K T m n H (if j = j then (j, d) else (j, x)).2 (if f j = f j then ((f j, v) : μ × V) else (f j, u)).2
      rw [if_pos rfl, if_pos rfl]
      exact ⟨rfl, rv⟩
    · have c' : ¬ f j = f k := fun z => c (hf _ _ z)
      show (if f j = f k then ((f j, v) : μ × V) else (f j, u)).1 = f (if j = k then (j, d) else (j, x)).1 ∧ Rp K T m n H (if j = k then (j, d) else (j, x)).2 (if f j = f k then ((f j, v) : μ × V) else (f j, u)).2
      rw [if_neg c, if_neg c']
      exact ⟨rfl, ru⟩
theorem RpK.append {m : Nat → Addr} {n : Nat} {H : Hp} : ∀ {a b : List (κ × D)} {x y : List (μ × V)}, RpK K T f m n H a x → RpK K T f m n H b y → RpK K T f m n H (a ++ b) (x ++ y)
  | _, _, _, _, .nil, s => s
  | _, _, _, _, .cons h t, s => .cons h (RpK.append t s)
theorem put_rel {m : Nat → Addr} {n : Nat} {H : Hp} (hf : ∀ a b, f a = f b → a = b) (k : κ) {d : D} {v : V} (rv : Rp K T m n H d v) {kvs : List (κ × D)} {ws : List (μ × V)} (h : RpK K T f m n H kvs ws) :
    RpK K T f m n H (dPut kvs k d) (putK ws (f k) v) := by
  unfold dPut putK
  rw [valV_any]
  have g := get_rel hf k h
  cases e : dGet kvs k with
  | none =>
    rw [g.2 e]
    exact h.append (.cons ⟨rfl, rv⟩ .nil)
  | some x =>
    obtain ⟨u, h1, _⟩ := g.1 x e
    rw [h1]
    exact set_rel hf k rv h
end
theorem RpK.length {κ μ : Type} {f : κ → μ} {m : Nat → Addr} {n : Nat} {H : Hp} {a : List (κ × D)} {b : List (μ × V)} (h : RpK K T f m n H a b) : a.length = b.length := Paired.length h
/-- what a dict of the store says of a key -/
theorem getO_rel {m : Nat → Addr} {st : Sto} {H : Hp} {i : Nat} {o : O} {k : D} {v : V} {r : Option D} (w : Wd K T m st H) (hi : st[i]? = some o) (rk : Rp K T m st.length H k v) (h : getO o k = some r) :
    ∃ rv, DGet H (m i) v rv ∧ rv.isSome = r.isSome ∧ ∀ d, r = some d → ∃ u, rv = some u ∧ Rp K T m st.length H d u := by
  have ro := w.obj i o hi
  cases o with
  | dk kvs =>
    obtain ⟨ws, e, rr⟩ := ro
    have h' : (kyOf k).map (dGet kvs) = some r := h
    cases e1 : kyOf k with
    | none => rw [e1] at h'; cases h'
    | some q =>
      rw [e1] at h'
      cases h'
      have g := get_rel (fun a b => ky_inj) q rr
      have ev := kv_rp e1 rk
      subst ev
      refine ⟨_, DGet.k (k := ky q) e, ?_, ?_⟩
      · cases e2 : dGet kvs q with
        | none => rw [g.2 e2]; rfl
        | some d => obtain ⟨u, h1, _⟩ := g.1 d e2; rw [h1]; rfl
      · intro d hd
        exact g.1 d hd
  | dt kvs =>
    obtain ⟨ws, e, rr⟩ := ro
    have h' : (kysOf k).map (dGet kvs) = some r := h
    cases e1 : kysOf k with
    | none => rw [e1] at h'; cases h'
    | some q =>
      rw [e1] at h'
      cases h'
      cases rk with
      | @tup b vs ds hb rb =>
        have ev := kvs_rp (show omap kyOf ds = some q from e1) rb
        subst ev
        have g := get_rel (fun a b => kys_inj) q rr
        refine ⟨_, DGet.t (k := q.map ky) e hb, ?_, ?_⟩
        · cases e2 : dGet kvs q with
          | none => rw [g.2 e2]; rfl
          | some d => obtain ⟨u, h1, _⟩ := g.1 d e2; rw [h1]; rfl
        · intro d hd
          exact g.1 d hd
      | _ => cases e1
  | lok o => exact ro.elim
  | _ => cases h
theorem tx_one (c : Nat) : tx [c] = ⟨#[c]⟩ := rfl
def rIn4 (K : PySem.W.Frag) : R2 := fun x y H Q => rInDT K x y H Q ∨ rInD K x y H Q ∨ rInDi x y H Q ∨ (∃ (c : Nat) (z : Str), x = .str ⟨#[c]⟩ ∧ y = .str z ∧ Q (.bl (decide (c ∈ z.cps.toList))) H)
def rNi4 (K : PySem.W.Frag) : R2 := fun x y H Q => rNiDT K x y H Q ∨ rNotInD K x y H Q ∨ rNiDi x y H Q ∨ (∃ (c : Nat) (z : Str), x = .str ⟨#[c]⟩ ∧ y = .str z ∧ Q (.bl (!decide (c ∈ z.cps.toList))) H)
theorem op_in4 (hu : X.A.units + 65 < cLine) : OpR X (compareOp .In) (rIn4 X.K) := (op_inT hu).or ((op_inD hu).or ((op_inDi hu).or op_in_sign))
theorem op_ni4 (hu : X.A.units + 65 < cLine) : OpR X (compareOp .NotIn) (rNi4 X.K) := (op_niT hu).or ((op_notInD hu).or ((op_niDi hu).or op_notIn_sign))
theorem any_pd (p : P) : ∀ qs : List P, ((pds qs).any fun z => PyData.eqv z (pd p)) = qs.any fun q => eqP q p
  | [] => rfl
  | q :: r => by simp only [pds, List.any_cons]; rw [eqv_pd, any_pd p r]
theorem anyEq_rel {m : Nat → Addr} {st : Sto} {H : Hp} {x : D} {v : V} {ys : List D} {us : List V} {b : Bool} (w : Wd K T m st H) (rx : Rp K T m st.length H x v) (ry : RpA K T m st.length H ys us) (h : anyEq st x ys = some b) :
    ∃ d ds, Dp K H v d ∧ DpAll K H us ds ∧ SeqAt.shaped d = true ∧ PyData.canLayAll0 ds = true ∧ PyData.depthAll ds ≤ 60 ∧ (ds.any fun z => PyData.eqv z d) = b := by
  unfold anyEq at h
  cases e1 : toP st 60 x with
  | none => rw [e1] at h; cases h
  | some p =>
    cases e2 : omap (toP st 60) ys with
    | none => rw [e1, e2] at h; cases h
    | some qs =>
      rw [e1, e2] at h
      cases h
      have a := toP_dp w 60 x p v e1 rx
      obtain ⟨b1, b2, b3⟩ := omap_dp (toP_dp w 60) ys qs us e2 ry
      exact ⟨pd p, pds qs, a.1, b1, shaped_of a (by decide), b2, b3, any_pd p qs⟩
theorem shaped_t {ds : List PyData} (h : PyData.canLayAll0 ds = true) (h2 : PyData.depthAll ds ≤ 60) : SeqAt.shaped (.tuple ds) = true := by
  unfold SeqAt.shaped
  simp only [PyData.canLay0, PyData.depth]
  rw [h]
  exact decide_eq_true (by omega)
theorem shaped_l {ds : List PyData} (h : PyData.canLayAll0 ds = true) (h2 : PyData.depthAll ds ≤ 60) : SeqAt.shaped (.list ds) = true := by
  unfold SeqAt.shaped
  simp only [PyData.canLay0, PyData.depth]
  rw [h]
  exact decide_eq_true (by omega)
theorem in_rel {m : Nat → Addr} {st : Sto} {H : Hp} {x y : D} {v u : V} {b : Bool} {Q Q' : VK} (w : Wd X.K T m st H) (rx : Rp X.K T m st.length H x v) (ry : Rp X.K T m st.length H y u) (h : inD st x y = some b) (q : Q (.bl b) H) (q' : Q' (.bl !b) H) :
    rIn4 X.K v u H Q ∧ rNi4 X.K v u H Q' := by
  have lst : ∀ ys i, y = .ref i → Py.lstAt st i = some ys → anyEq st x ys = some b → rIn4 X.K v u H Q ∧ rNi4 X.K v u H Q' := fun ys i e hl ha => by
    subst e
    cases ry
    obtain ⟨us, h1, h2, _⟩ := w.lstAt hl
    obtain ⟨d, ds, a1, a2, a3, a4, a5, a6⟩ := anyEq_rel w rx h2 ha
    exact ⟨.inr (.inl ⟨d, ds, a1, .lst h1 a2, a3, shaped_l a4 a5, by rw [a6]; exact q⟩), .inr (.inl ⟨d, ds, a1, .lst h1 a2, a3, shaped_l a4 a5, by rw [a6]; exact q'⟩)⟩
  cases y with
  | tup ys =>
    cases ry with
    | tup hb rb =>
      obtain ⟨d, ds, a1, a2, a3, a4, a5, a6⟩ := anyEq_rel w rx rb (show anyEq st x ys = some b from h)
      exact ⟨.inl ⟨d, ds, a1, .tup (SqT.of hb) a2, a3, shaped_t a4 a5, by rw [a6]; exact q⟩, .inl ⟨d, ds, a1, .tup (SqT.of hb) a2, a3, shaped_t a4 a5, by rw [a6]; exact q'⟩⟩
  | gt ys =>
    cases ry with
    | gt hb rb =>
      obtain ⟨d, ds, a1, a2, a3, a4, a5, a6⟩ := anyEq_rel w rx rb (show anyEq st x ys = some b from h)
      exact ⟨.inl ⟨d, ds, a1, .tup (hb H) a2, a3, shaped_t a4 a5, by rw [a6]; exact q⟩, .inl ⟨d, ds, a1, .tup (hb H) a2, a3, shaped_t a4 a5, by rw [a6]; exact q'⟩⟩
  | ref i =>
    simp only [inD] at h
    cases e : st[i]? with
    | none => rw [e] at h; cases h
    | some o =>
      rw [e] at h
      have di : (getO o x).map (·.isSome) = some b → rIn4 X.K v u H Q ∧ rNi4 X.K v u H Q' := fun h => by
        cases e1 : getO o x with
        | none => rw [e1] at h; cases h
        | some r =>
          rw [e1] at h
          cases h
          cases ry
          obtain ⟨rv, g, g1, _⟩ := getO_rel w e rx e1
          exact ⟨.inr (.inr (.inl ⟨_, rv, rfl, g, by rw [g1]; exact q⟩)), .inr (.inr (.inl ⟨_, rv, rfl, g, by rw [g1]; exact q'⟩))⟩
      cases o with
      | lst ys => exact lst ys i rfl (by unfold Py.lstAt; rw [e]) h
      | rol ys => exact lst ys i rfl (by unfold Py.lstAt; rw [e]) h
      | dk kvs => exact di h
      | dt kvs => exact di h
      | ins c fs => exact di h
      | exc c fs => exact di h
      | lok o => exact di h
  | str z =>
    simp only [inD] at h
    split at h
    · rename_i _ c
      cases rx with
      | str _ oc =>
        cases ry
        cases h
        have e : (List.contains z c) = decide (c ∈ z) := List.contains_eq_mem c z
        refine ⟨.inr (.inr (.inr ⟨c, tx z, rfl, rfl, ?_⟩)), .inr (.inr (.inr ⟨c, tx z, rfl, rfl, ?_⟩))⟩
        · rw [e] at q
          exact q
        · rw [e] at q'
          exact q'
    · cases h
  | _ => cases h
theorem cmp_in : CmpOk X T .isin (rIn4 X.K) := fun m st H Q x y v u b w rx ry h q => (in_rel (Q' := fun _ _ => True) w rx ry (show inD st x y = some b by cases x <;> cases y <;> exact h) q trivial).1
theorem cmp_ni : CmpOk X T .nin (rNi4 X.K) := fun m st H Q x y v u b w rx ry h q => by
  have h' : (inD st x y).map (!·) = some b := by cases x <;> cases y <;> exact h
  cases e : inD st x y with
  | none => rw [e] at h'; cases h'
  | some b' =>
    rw [e] at h'
    cases h'
    exact (in_rel (Q := fun _ _ => True) w rx ry e trivial q).2
end
end Py
end
section
set_option Elab.async false
set_option linter.all false
set_option maxRecDepth 100000
set_option maxHeartbeats 2000000
namespace Py
open PySem L2
section
variable {K : PySem.W.Frag} {T : Tab} {C : Py.Cx} {X : L2.Cx}
theorem se_cmp {op : CmpOp} {o : Cop} {r : R2} {a b : Expr} {ea eb : E} {pos : Pos} (hC : C.Mono) (ho : OpR X (compareOp op) r) (hb : CmpOk X T o r) (ha : PE X a (tE X.K T C ea)) (hbb : PE X b (tE X.K T C eb)) (hm : behindInMarks op b = false) :
    PE X (.Compare a [op] [b] pos) (tE X.K T C (.cmp o ea eb)) := (pe_cmpR ho ha hbb hm).imp fun σ H Q ⟨env, st, m, er, w, h⟩ => by
  unfold We at h
  refine tE.go hC er w h fun x st1 m1 H1 v h1 w1 g1 r1 => tE.go hC (er.gr g1) w1 h1 fun y st2 m2 H2 u h2 w2 g2 r2 => ?_
  obtain ⟨b, e, q⟩ := h2
  exact hb m2 st2 H2 Q x y v u b w2 (r1.gr g2) r2 e ((q.gr (g1.trans g2)).same w2 (.bl b))
theorem se_chain {op op' : CmpOp} {o o' : Cop} {r r' : R2} {a b c : Expr} {ea eb ec : E} {pos : Pos} (hC : C.Mono) (ho : OpR X (compareOp op) r) (ho' : OpR X (compareOp op') r') (hb : CmpOk X T o r) (hb' : CmpOk X T o' r')
    (ha : PE X a (tE X.K T C ea)) (hbb : PE X b (tE X.K T C eb)) (hc : PE X c (tE X.K T C ec)) (hm : lastMarks [op, op'] [b, c] = false := by with_unfolding_all rfl) :
    PE X (.Compare a [op, op'] [b, c] pos) (tE X.K T C (.chain o o' ea eb ec)) := (pe_chain ho ho' ha hbb hc hm).imp fun σ H Q ⟨env, st, m, er, w, h⟩ => by
  unfold We at h
  refine tE.go hC er w h fun x st1 m1 H1 v h1 w1 g1 r1 => tE.go hC (er.gr g1) w1 h1 fun y st2 m2 H2 u h2 w2 g2 r2 => ?_
  obtain ⟨b, e, q⟩ := h2
  refine hb m2 st2 H2 _ x y v u b w2 (r1.gr g2) r2 e ⟨b, rfl, ?_⟩
  cases b with
  | false => exact (KD.gr (g1.trans g2) (show KD X.K T m st.length H Q (.bl false) st2 from q)).same w2 (.bl false)
  | true =>
    refine tE.go hC ((er.gr g1).gr g2) w2 (show We C ec env st2 _ from q) fun z st3 m3 H3 v3 h3 w3 g3 r3 => ?_
    obtain ⟨b, e, q⟩ := h3
    exact hb' m3 st3 H3 Q y z u v3 b w3 (r2.gr g3) r3 e ((q.gr ((g1.trans g2).trans g3)).same w3 (.bl b))
theorem se_one {op} {a : Expr} {ea : E} {pos : Pos} (ha : PE X a (tE X.K T C ea)) : PE X (.BoolOp op [a] pos) (tE X.K T C ea) := pe_one ha
theorem se_and {a b : Expr} {rest : List Expr} {ea eb : E} {pos : Pos} (hC : C.Mono) (ha : PE X a (tE X.K T C ea)) (hb : PE X (.BoolOp .And (b :: rest) pos) (tE X.K T C eb)) :
    PE X (.BoolOp .And (a :: b :: rest) pos) (tE X.K T C (.and ea eb)) := (pe_and ha hb).imp fun σ H Q ⟨env, st, m, er, w, h⟩ => by
  unfold We at h
  refine tE.go hC er w h fun x st1 m1 H1 v h1 w1 g1 r1 => ?_
  obtain ⟨r, rfl, q⟩ := h1
  cases r1
  refine ⟨r, rfl, ?_⟩
  cases r with
  | false => exact (KD.gr g1 (show KD X.K T m st.length H Q (.bl false) st1 from q)).same w1 (.bl false)
  | true => exact tE.go hC (er.gr g1) w1 (show We C eb env st1 _ from q) fun z st3 m3 H3 v3 h3 w3 g3 r3 => h3 m3 H3 v3 w3 (g1.trans g3) r3
theorem se_or {a b : Expr} {rest : List Expr} {ea eb : E} {pos : Pos} (hC : C.Mono) (ha : PE X a (tE X.K T C ea)) (hb : PE X (.BoolOp .Or (b :: rest) pos) (tE X.K T C eb)) :
    PE X (.BoolOp .Or (a :: b :: rest) pos) (tE X.K T C (.or ea eb)) := (pe_or ha hb).imp fun σ H Q ⟨env, st, m, er, w, h⟩ => by
  unfold We at h
  refine tE.go hC er w h fun x st1 m1 H1 v h1 w1 g1 r1 => ?_
  obtain ⟨r, rfl, q⟩ := h1
  cases r1
  refine ⟨r, rfl, ?_⟩
  cases r with
  | true => exact (KD.gr g1 (show KD X.K T m st.length H Q (.bl true) st1 from q)).same w1 (.bl true)
  | false => exact tE.go hC (er.gr g1) w1 (show We C eb env st1 _ from q) fun z st3 m3 H3 v3 h3 w3 g3 r3 => h3 m3 H3 v3 w3 (g1.trans g3) r3
/-! ### truth, tests -/
theorem isEmpty_rp {m : Nat → Addr} {n : Nat} {H : Hp} {ds : List D} {vs : List V} (r : RpA K T m n H ds vs) : vs.isEmpty = ds.isEmpty := by
  cases r <;> rfl
theorem tru_rel {m : Nat → Addr} {st : Sto} {H : Hp} {x : D} {v : V} {b : Bool} (w : Wd K T m st H) (r : Rp K T m st.length H x v) (h : truD st x = some b) : TruV K v H b := by
  cases r with
  | non => cases h; rfl
  | bl c => cases h; rfl
  | int i => cases h; rfl
  | str s o =>
    cases h
    refine ⟨by rw [tx_length, ← LINE_eq]; exact o.2, ?_⟩
    rw [tx_length]
    cases s with
    | nil => rfl
    | cons c s => simp; omega
  | tup ha ra => cases h; exact .inr (.inl ⟨_, SqT.of ha, by rw [isEmpty_rp ra]⟩)
  | gt ha ra => cases h; exact .inr (.inl ⟨_, ha H, by rw [isEmpty_rp ra]⟩)
  | @ref i hi =>
    simp only [truD] at h
    split at h
    · rename_i xs e
      cases h
      obtain ⟨vs, h1, h2⟩ := w.obj i _ e
      exact .inl ⟨vs, SqL.of h1, by rw [isEmpty_rp h2]⟩
    · rename_i xs e
      cases h
      obtain ⟨vs, h1, h2⟩ := w.obj i _ e
      exact .inl ⟨vs, h1.sq, by rw [isEmpty_rp h2]⟩
    · rename_i xs e
      cases h
      obtain ⟨vs, h1, h2⟩ := w.obj i _ e
      refine .inr (.inr ⟨vs, h1, ?_⟩)
      cases h2 <;> rfl
    · cases h
  | fn k => cases h
theorem st_e {e : Expr} {ea : E} (hC : C.Mono) (ha : PE X e (tE X.K T C ea)) (he : ∀ whole, isTrue e X.env whole = (do let v ← whole; standAt e.pos; holding [v] (truthy v)) := by intro _; rfl) : PT X e (tT X.K T C (.e ea)) :=
  (pt_truth ha he).imp fun σ H Q ⟨env, st, m, er, w, h⟩ => by
    unfold Wt at h
    refine tE.go hC er w h fun x st1 m1 H1 v h1 w1 g1 r1 => ?_
    obtain ⟨r, e, q⟩ := h1
    exact ⟨r, tru_rel w1 r1 e, q m1 H1 w1 g1⟩
/-- a comparison as a test -/
theorem st_cmp {op : CmpOp} {o : Cop} {r : R2} {a b : Expr} {ea eb : E} {pos : Pos} (hC : C.Mono) (ho : OpR X (compareOp op) r) (hb : CmpOk X T o r) (ha : PE X a (tE X.K T C ea)) (hbb : PE X b (tE X.K T C eb)) (hm : behindInMarks op b = false) :
    PT X (.Compare a [op] [b] pos) (tT X.K T C (.e (.cmp o ea eb))) := (pt_cmpR ho ha hbb hm).imp fun σ H Q ⟨env, st, m, er, w, h⟩ => by
  unfold Wt We at h
  refine tE.go hC er w h fun x st1 m1 H1 v h1 w1 g1 r1 => tE.go hC (er.gr g1) w1 h1 fun y st2 m2 H2 u h2 w2 g2 r2 => ?_
  obtain ⟨b, e, r, e2, q⟩ := h2
  cases e2
  exact hb m2 st2 H2 _ x y v u b w2 (r1.gr g2) r2 e ⟨b, rfl, q m2 H2 w2 (g1.trans g2)⟩
theorem st_chain {op op' : CmpOp} {o o' : Cop} {r r' : R2} {a b c : Expr} {ea eb ec : E} {pos : Pos} (hC : C.Mono) (ho : OpR X (compareOp op) r) (ho' : OpR X (compareOp op') r') (hb : CmpOk X T o r) (hb' : CmpOk X T o' r')
    (ha : PE X a (tE X.K T C ea)) (hbb : PE X b (tE X.K T C eb)) (hc : PE X c (tE X.K T C ec)) (hm : lastMarks [op, op'] [b, c] = false := by with_unfolding_all rfl) :
    PT X (.Compare a [op, op'] [b, c] pos) (tT X.K T C (.e (.chain o o' ea eb ec))) := (pt_chain ho ho' ha hbb hc hm).imp fun σ H Q ⟨env, st, m, er, w, h⟩ => by
  unfold Wt We at h
  refine tE.go hC er w h fun x st1 m1 H1 v h1 w1 g1 r1 => tE.go hC (er.gr g1) w1 h1 fun y st2 m2 H2 u h2 w2 g2 r2 => ?_
  obtain ⟨b, e, q⟩ := h2
  refine hb m2 st2 H2 _ x y v u b w2 (r1.gr g2) r2 e ⟨b, rfl, ?_⟩
  cases b with
  | false =>
    obtain ⟨b, e, q⟩ : ∃ r, truD st2 (.bl false) = some r ∧ KB X.K T m st.length H Q r st2 := q
    cases e
    exact ⟨false, rfl, q m2 H2 w2 (g1.trans g2)⟩
  | true =>
    refine tE.go hC ((er.gr g1).gr g2) w2 (show We C ec env st2 _ from q) fun z st3 m3 H3 v3 h3 w3 g3 r3 => ?_
    obtain ⟨b, e, r, e2, q⟩ := h3
    cases e2
    exact hb' m3 st3 H3 _ y z u v3 b w3 (r2.gr g3) r3 e ⟨b, rfl, q m3 H3 w3 ((g1.trans g2).trans g3)⟩
theorem sw_and1 {a : Expr} {ta : Py.T} {pos : Pos} (ha : PT X a (tT X.K T C ta)) : PW X (.BoolOp .And [a] pos) (tT X.K T C ta) := pw_and1 ha
theorem sw_or1 {a : Expr} {ta : Py.T} {pos : Pos} (ha : PT X a (tT X.K T C ta)) : PW X (.BoolOp .Or [a] pos) (tT X.K T C ta) := pw_or1 ha
theorem sw_and {a b : Expr} {rest : List Expr} {ta tb : Py.T} {pos : Pos} (hC : C.Mono) (ha : PT X a (tT X.K T C ta)) (hb : PW X (.BoolOp .And (b :: rest) pos) (tT X.K T C tb)) :
    PW X (.BoolOp .And (a :: b :: rest) pos) (tT X.K T C (.and ta tb)) := (pw_and ha hb).imp fun σ H Q ⟨env, st, m, er, w, h⟩ => by
  unfold Wt at h
  refine tT.go hC er w h fun r st1 m1 H1 h1 w1 g1 => ?_
  cases r with
  | false => exact (show KB X.K T m st.length H Q false st1 from h1) m1 H1 w1 g1
  | true => exact tT.go hC (er.gr g1) w1 (show Wt C tb env st1 _ from h1) fun r st2 m2 H2 h2 w2 g2 => h2 m2 H2 w2 (g1.trans g2)
theorem sw_or {a b : Expr} {rest : List Expr} {ta tb : Py.T} {pos : Pos} (hC : C.Mono) (ha : PT X a (tT X.K T C ta)) (hb : PW X (.BoolOp .Or (b :: rest) pos) (tT X.K T C tb)) :
    PW X (.BoolOp .Or (a :: b :: rest) pos) (tT X.K T C (.or ta tb)) := (pw_or ha hb).imp fun σ H Q ⟨env, st, m, er, w, h⟩ => by
  unfold Wt at h
  refine tT.go hC er w h fun r st1 m1 H1 h1 w1 g1 => ?_
  cases r with
  | true => exact (show KB X.K T m st.length H Q true st1 from h1) m1 H1 w1 g1
  | false => exact tT.go hC (er.gr g1) w1 (show Wt C tb env st1 _ from h1) fun r st2 m2 H2 h2 w2 g2 => h2 m2 H2 w2 (g1.trans g2)
theorem st_not {a : Expr} {ta : Py.T} {pos : Pos} (hC : C.Mono) (ha : PT X a (tT X.K T C ta)) : PT X (.UnaryOp .Not a pos) (tT X.K T C (.not ta)) := (pt_not ha).imp fun σ H Q ⟨env, st, m, er, w, h⟩ => by
  unfold Wt at h
  exact tT.go hC er w h fun r st1 m1 H1 h1 w1 g1 => h1 m1 H1 w1 g1
theorem se_ife {t a b : Expr} {et : Py.T} {ea eb : E} {pos : Pos} (hC : C.Mono) (ht : PT X t (tT X.K T C et)) (ha : PE X a (tE X.K T C ea)) (hb : PE X b (tE X.K T C eb)) : PE X (.IfExp t a b pos) (tE X.K T C (.ife et ea eb)) :=
  (pe_ifExp ht ha hb).imp fun σ H Q ⟨env, st, m, er, w, h⟩ => by
    unfold We at h
    refine tT.go hC er w h fun r st1 m1 H1 h1 w1 g1 => ?_
    cases r with
    | true => exact tE.go hC (er.gr g1) w1 (show We C ea env st1 _ from h1) fun z st3 m3 H3 v3 h3 w3 g3 r3 => h3 m3 H3 v3 w3 (g1.trans g3) r3
    | false => exact tE.go hC (er.gr g1) w1 (show We C eb env st1 _ from h1) fun z st3 m3 H3 v3 h3 w3 g3 r3 => h3 m3 H3 v3 w3 (g1.trans g3) r3
end
end Py
end
section
set_option Elab.async false
set_option linter.all false
set_option maxRecDepth 100000
set_option maxHeartbeats 2000000
/-! Defs whose promise may lean on the list of guards being empty (so that repr of rows may be asked). -/
namespace Py
open PySem L2 PyProof.Rows
structure FnG (P : Program) (w : World) (K : PySem.W.Frag) (mg : Str → Option Value) (base : Heap) (XX : CXT) (lv : Nat) (f : Addr) (fd : FuncData) (ps : List Str) (sp : Sp) : Prop where
  ln : ∀ xs H Q E, sp xs H Q E → xs.length = ps.length
  go : ∀ (A : Around) (up : List PySem.Env) (s : Shared) (H : Hp) (ar : Args) (us : List Value) (xs : List V) (Q : VK) (E : XK), Room lv A → A.guards = some [] → Env0 P w K mg base A up s H → BindsTo s fd ar (ps.zip us) → Vals xs us → sp xs H Q E →
    codeAny (model P w) A (.call (.ref f) ar) (CR XX up P w H s Q E) s
section
variable {P : Program} {w : World} {K : PySem.W.Frag} {mg : Str → Option Value} {base : Heap} {XX : CXT} {lv : Nat} {f C : Addr} {fd : FuncData} {ps : List Str} {sp : Sp}
theorem FnG.up {lv' : Nat} (F : FnG P w K mg base XX lv f fd ps sp) (h : lv ≤ lv') : FnG P w K mg base XX lv' f fd ps sp :=
  ⟨F.ln, fun A up s H ar us xs Q E r g => F.go A up s H ar us xs Q E (r.mono h) g⟩
/-- a def of the text, by its body -/
theorem FnG.body {nm qual : Str} {params : Arguments} {body : List Stmt} {scope : Scope} {dvs : List V} {kws : List (Str × V)} {N : List Str} (F : FunD K nm qual params body scope dvs kws f fd) (S : FnScope N ps scope)
    (ln : ∀ xs H Q E, sp xs H Q E → xs.length = ps.length)
    (hb : ∀ (cd : Value) (A : Around) (up : List PySem.Env) (s : Shared) (H : Hp) (xs : List V) (Q : VK) (E : XK), Room lv (A.deeper (envOfC qual scope s.heap.objs.size f cd)) → A.guards = some [] → sp xs H Q E →
      ∃ t, PSs (cxOf XX P w K mg base N qual scope f cd A up s H E) body t ∧ t { nx := fun _ H' => Q .non H', rt := Q } (start N xs) H) :
    FnG P w K mg base XX (lv + 1) f fd ps sp := by
  obtain ⟨oc, od, dV, kV, doc, pm, an, cd, ct, osl, rfl, lk, hcd, _, _⟩ := F.ex
  refine ⟨ln, fun A up s H ar us xs Q E rm gd e0 bi rv hsp => ?_⟩
  have kin : K.In s.heap := e0.mod.kin.keeps (fun b o z => (e0.bs b o z).1)
  have nol : s.heap.NoLimit := e0.mod.nolimit.keeps (fun b o z => (e0.bs b o z).1)
  have kinds : ∀ y ∈ ps.zip us, scope.names.lookup y.1 = some .local ∨
      (scope.names.lookup y.1 = some .cell ∧ ((cellsFrom (s.heap.objs.size + 1) scope.names []).lookup y.1).isSome = true) := by
    rintro ⟨n, v⟩ hy
    exact (S.par n (List.of_mem_zip hy).1).elim .inl fun q => .inr ⟨q, PySem.W.cellsFrom_some _ _ _ (.inl q)⟩
  refine codeAny_call_function rm.depth (kin _ _ lk) rfl S.co S.gen rfl (PySem.W.codeRec_of kin hcd) (bi _ _ _ _ ?_)
  refine wpAny_newFunctionEnv_cells S.kind kinds fun env he s1 x => ?_
  subst he
  refine ⟨nol.keeps x.toInCall.keep, codeAny_func ?_⟩
  obtain ⟨t, ht, hq⟩ := hb cd A up s H xs Q E (rm.deeper _) gd hsp
  have I := inv_start (CX := XX) (P := P) (w := w) (mg := mg) (base := base) (E := E) S rm.hd e0 (ln _ _ _ _ hsp) rv x
  refine wpAny_mono (ht.run [] s1 (start N xs) H _ I hq) (fun fl s2 hs => ?_) (fun _ _ z => z)
  match fl, hs with
  | .ret u, ⟨v, σ2, H2, J, ru, q⟩ => exact ⟨v, H2, J.os, J.bare, J.base, J.hok, ru, q⟩
  | .next, ⟨σ2, H2, J, q⟩ => exact ⟨.non, H2, J.os, J.bare, J.base, J.hok, rfl, q⟩
  | .brk, ⟨_, _, _, q⟩ => exact (show False from q).elim
  | .cont, ⟨_, _, _, q⟩ => exact (show False from q).elim
end
section
variable {X : L2.Cx} {XX : CXT} {lv : Nat} {f C : Addr} {fd : FuncData} {ps : List Str} {sp : Sp} {E : XK} {x m : Str} {p pos apos : Pos} {e o : Expr} {es : List Expr} {ta : TE} {t : TA}
theorem FnG.run {pins : List (Addr × Obj)} {σ : L2.St} {H : Hp} {s : Shared} {Q : VK} {us : List Value} {xs : List V} (F : FnG X.prog X.w X.K X.mg X.base XX lv f fd ps sp) (rm : Room lv X.A) (gd : X.A.guards = some []) (bi : Binds X.K fd ps []) (hx : Passes XX X E)
    (I : Inv X pins σ H s) (rv : Vals xs us) (h : sp xs H Q E) : wpAny (model X.prog X.w) X.A (call (.ref f) us) (EP X pins σ Q) X.xe s := by
  have hl : (us ++ []).length = ps.length := by rw [List.append_nil, ← rv.length]; exact F.ln _ _ _ _ h
  have b := bi s us I.kIn hl
  rw [List.append_nil] at b
  refine wpAny_call (codeAny_mono (F.go X.A X.stack s H ⟨us, []⟩ us xs Q E rm gd I.env0 b rv h) fun r s2 hq => ?_)
  match r, hq with
  | .error ex, hq => exact hx pins σ H s ex s2 I hq
  | .ok (.ret u), hq => exact I.after hq
  | .ok .next, hq => exact (show False from hq).elim
  | .ok .brk, hq => exact (show False from hq).elim
  | .ok .cont, hq => exact (show False from hq).elim
theorem pe_callG (F : FnG X.prog X.w X.K X.mg X.base XX lv f fd ps sp) (rm : Room lv X.A) (gd : X.A.guards = some []) (hg : Gl X x) (hm : X.mg x = some (.ref f)) (kp : PySem.W.keepIn X.K (.ref f) = true) (bi : Binds X.K fd ps []) (hx : Passes XX X E)
    (ha : PA X (e :: es) t) (hdb : (x == ("__debug__" : Str)) = false := by decide) (hs : starEach (e :: es) X.env = (false, eval e X.env) :: starEach es X.env := by rfl)
    (hp : (backTo pos (starEach es X.env)).any (·.1) = false := by rfl) : PE X (.Call (.Name x p) (e :: es) [] pos) (fun σ H Q => t σ H fun vs H1 => sp vs H1 Q E) :=
  ⟨fun pins s σ H Q I h => wpAny_Call_Name_kw (ld_glob I hg hm (PySem.W.callWith_K (h₀ := X.base) I.ok.mod.kin kp
    (thn (ha.run pos pins s σ H _ I h) fun us s1 ⟨vs, H1, I1, rv, q⟩ => ⟨I1.kIn, F.run rm gd bi hx I1 rv q⟩) hs hp) hdb)⟩
theorem pe_callG0 (F : FnG X.prog X.w X.K X.mg X.base XX lv f fd ps sp) (rm : Room lv X.A) (gd : X.A.guards = some []) (hg : Gl X x) (hm : X.mg x = some (.ref f)) (kp : PySem.W.keepIn X.K (.ref f) = true) (bi : Binds X.K fd ps []) (hx : Passes XX X E)
    (hdb : (x == ("__debug__" : Str)) = false := by decide) : PE X (.Call (.Name x p) [] [] pos) (fun σ H Q => sp [] H Q E) :=
  ⟨fun pins s σ H Q I h => wpAny_Call_Name_kw (ld_glob I hg hm (PySem.W.callWith_K0 I.kIn kp (F.run (us := []) rm gd bi hx I .nil h)) hdb)⟩
theorem pe_callLG {i : Nat} (hN : X.N[i]? = some x) (hv : Vis X.env.scope x) (rm : Room lv X.A) (gd : X.A.guards = some []) (hx : Passes XX X E)
    (ha : PA X (e :: es) t) (hdb : (x == ("__debug__" : Str)) = false := by decide) (hcd : (x == ("__classdict__" : Str)) = false := by decide) (hs : starEach (e :: es) X.env = (false, eval e X.env) :: starEach es X.env := by rfl)
    (hp : (backTo pos (starEach es X.env)).any (·.1) = false := by rfl) : PE X (.Call (.Name x p) (e :: es) [] pos)
      (fun σ H Q => ∃ (f : Addr) (fd : FuncData) (ps : List Str) (sp : Sp), σ[i]? = some (some (.ref f)) ∧ FnG X.prog X.w X.K X.mg X.base XX lv f fd ps sp ∧ PySem.W.keepIn X.K (.ref f) = true ∧ Binds X.K fd ps [] ∧ t σ H fun vs H1 => sp vs H1 Q E) := by
  refine ⟨fun pins s σ H Q I ⟨f, fd, ps, sp, h1, F, kp, bi, h⟩ => ?_⟩
  refine wpAny_Call_Name_kw (thn ((pe_var (pos := p) hN hv hdb hcd).run pins s σ H (fun v H1 => v = .ref f ∧ H1 = H) I ⟨_, h1, rfl, rfl⟩) fun u s1 ⟨v, H1, I1, r1, q1⟩ => ?_)
  obtain ⟨rfl, rfl⟩ := q1
  cases r1
  exact PySem.W.callWith_K (h₀ := X.base) I.ok.mod.kin kp (thn (ha.run pos pins s1 σ _ _ I1 h) fun us s2 ⟨vs, H2, I2, rv, q⟩ => ⟨I2.kIn, F.run rm gd bi hx I2 rv q⟩) hs hp
theorem guards_make {A : Around} {C : Addr} {us : List Value} {kw : List (Str × Value)} (h : A.guards = some []) : (A.under (.builtin "type.__call__" ⟨.ref C :: us, kw⟩)).guards = some [] := by
  have e : ¬ ("type.__call__" ∈ guardIds) := by decide +kernel
  simp [Around.under, h, pushGuards, Code.guards, Code.isGuard, e]
theorem FnG.make {pins : List (Addr × Obj)} {σ : L2.St} {H : Hp} {s : Shared} {Q : VK} {us : List Value} {xs : List V} (M : Mk X.K C f) (F : FnG X.prog X.w X.K X.mg X.base XX lv f fd ps sp) (rm : Room (lv + 1) X.A) (gd : X.A.guards = some []) (bi : Binds X.K fd ps [])
    (hx : Passes XX X E) (I : Inv X pins σ H s) (rv : Vals xs us)
    (h : ∀ y dx, H y = none → H dx = none → dx ≠ y → sp (.ref y :: xs) (upd (upd H dx (.own y)) y (.ins C dx [])) (fun v H2 => v = .non ∧ Q (.ref y) H2) E) :
    wpAny (model X.prog X.w) X.A (call (.ref C) us) (EP X pins σ Q) X.xe s := by
  have hq := h (s.heap.objs.size + 1) s.heap.objs.size (I.hok.fresh (Nat.le_succ _)) (I.hok.fresh (Nat.le_refl _)) (Nat.ne_of_lt (Nat.lt_succ_self _))
  have J := Inv.made (C := C) I
  have rs : Vals (V.ref (s.heap.objs.size + 1) :: xs) (Value.ref (s.heap.objs.size + 1) :: us) := .cons rfl rv
  have hl : (Value.ref (s.heap.objs.size + 1) :: us ++ []).length = ps.length := by
    rw [List.append_nil, ← rs.length]
    exact F.ln _ _ _ _ hq
  have b := bi _ (Value.ref (s.heap.objs.size + 1) :: us) J.kIn hl
  rw [List.append_nil] at b
  refine wpAny_call (make_map (f := f) I.kIn M.makes M.init (beq_iff_eq.mp M.fn) (codeAny_mono (F.go _ X.stack _ _ ⟨_, []⟩ _ _ _ E (rm.make C us []) (guards_make gd) (J.env0.make C us []) b rs hq) fun r s2 hq2 => ?_))
  match r, hq2 with
  | .error ex, hq2 => exact hx pins σ _ _ ex s2 J hq2
  | .ok (.ret u), hq2 =>
    obtain ⟨v, H3, I3, ru, ev, q3⟩ := J.after hq2
    subst ev
    exact ⟨ru, ⟨V.ref (s.heap.objs.size + 1), H3, I3, rfl, q3⟩⟩
  | .ok .next, hq2 => exact (show False from hq2).elim
  | .ok .brk, hq2 => exact (show False from hq2).elim
  | .ok .cont, hq2 => exact (show False from hq2).elim
theorem pe_makeG (M : Mk X.K C f) (F : FnG X.prog X.w X.K X.mg X.base XX lv f fd ps sp) (rm : Room (lv + 1) X.A) (gd : X.A.guards = some []) (hg : Gl X x) (hm : X.mg x = some (.ref C)) (bi : Binds X.K fd ps []) (hx : Passes XX X E)
    (ha : PA X (e :: es) t) (hdb : (x == ("__debug__" : Str)) = false := by decide) (hs : starEach (e :: es) X.env = (false, eval e X.env) :: starEach es X.env := by rfl)
    (hp : (backTo pos (starEach es X.env)).any (·.1) = false := by rfl) : PE X (.Call (.Name x p) (e :: es) [] pos) (fun σ H Q => t σ H fun vs H1 => ∀ y dx, H1 y = none → H1 dx = none → dx ≠ y →
      sp (.ref y :: vs) (upd (upd H1 dx (.own y)) y (.ins C dx [])) (fun v H2 => v = .non ∧ Q (.ref y) H2) E) :=
  ⟨fun pins s σ H Q I h => wpAny_Call_Name_kw (ld_glob I hg hm (PySem.W.callWith_K (h₀ := X.base) I.ok.mod.kin M.kp
    (thn (ha.run pos pins s σ H _ I h) fun us s1 ⟨vs, H1, I1, rv, q⟩ => ⟨I1.kIn, FnG.make M F rm gd bi hx I1 rv q⟩) hs hp) hdb)⟩
theorem pe_methG {pl : Sem Bool} (he : PE X o ta) (c : Cls X.K C) (hm : Meth X.K C m f) (F : FnG X.prog X.w X.K X.mg X.base XX lv f fd ps sp) (rm : Room lv X.A) (gd : X.A.guards = some []) (bi : Binds X.K fd ps []) (hx : Passes XX X E) (ha : PA X (e :: es) t)
    (hs : starEach (e :: es) X.env = (false, eval e X.env) :: starEach es X.env := by rfl) (hp : (backTo pos (starEach es X.env)).any (·.1) = false := by rfl)
    (ht : eval (.Call (.Attribute o m apos) (e :: es) [] pos) X.env = (do
      let ov ← eval o X.env
      standAt apos.atName
      let (f, first) ← holding [ov] (getMethod ov m pl)
      callWith pos f first (backTo pos (starEach (e :: es) X.env)) (backToKw pos (keywordEach [] X.env))) := by rfl) :
    PE X (.Call (.Attribute o m apos) (e :: es) [] pos) (fun σ H Q => ta σ H fun y H1 => ∃ a dx fs, y = .ref a ∧ H1 a = some (.ins C dx fs) ∧ fs.lookup m = none ∧ t σ H1 fun vs H2 => sp (y :: vs) H2 Q E) := by
  refine ⟨fun pins s σ H Q I h => PySem.W.methodCall_KW (pl := pl) (thn (he.run pins s σ H _ I h) fun u s1 ⟨y, H1, I1, ry, a, dx, fs, ey, ea, l, q⟩ => ?_) ht⟩
  subst ey
  obtain rfl : u = Value.ref a := ry
  refine getmeth_ok I1 ea c hm l ?_
  exact PySem.W.callWith_K (first := [.ref a]) (h₀ := X.base) I.ok.mod.kin hm.kp (thn (ha.run pos pins s1 σ H1 _ I1 q) fun us s2 ⟨vs, H2, I2, rv, q2⟩ => ⟨I2.kIn, FnG.run (us := .ref a :: us) (xs := .ref a :: vs) F rm gd bi hx I2 (.cons rfl rv) q2⟩) hs hp
theorem pe_methG0 {pl : Sem Bool} (he : PE X o ta) (c : Cls X.K C) (hm : Meth X.K C m f) (F : FnG X.prog X.w X.K X.mg X.base XX lv f fd ps sp) (rm : Room lv X.A) (gd : X.A.guards = some []) (bi : Binds X.K fd ps []) (hx : Passes XX X E)
    (ht : eval (.Call (.Attribute o m apos) [] [] pos) X.env = (do
      let ov ← eval o X.env
      standAt apos.atName
      let (f, first) ← holding [ov] (getMethod ov m pl)
      callWith pos f first (backTo pos (starEach [] X.env)) (backToKw pos (keywordEach [] X.env))) := by rfl) :
    PE X (.Call (.Attribute o m apos) [] [] pos) (fun σ H Q => ta σ H fun y H1 => ∃ a dx fs, y = .ref a ∧ H1 a = some (.ins C dx fs) ∧ fs.lookup m = none ∧ sp [y] H1 Q E) := by
  refine ⟨fun pins s σ H Q I h => PySem.W.methodCall_KW (pl := pl) (thn (he.run pins s σ H _ I h) fun u s1 ⟨y, H1, I1, ry, a, dx, fs, ey, ea, l, q⟩ => ?_) ht⟩
  subst ey
  obtain rfl : u = Value.ref a := ry
  refine getmeth_ok I1 ea c hm l ?_
  exact PySem.W.callWith_K0 (first := [.ref a]) I1.kIn hm.kp (FnG.run (us := [.ref a]) (xs := [.ref a]) F rm gd bi hx I1 (.cons rfl .nil) q)
end
end Py
end
section
set_option Elab.async false
set_option linter.all false
set_option maxRecDepth 100000
set_option maxHeartbeats 2000000
namespace Py
open PySem L2
/-- the promise of def k -/
def spD (K : PySem.W.Frag) (T : Tab) (C : Py.Cx) (k : Nat) : Sp := fun vs H Q _ => ∃ ds st m, Wd K T m st H ∧ RpA K T m st.length H ds vs ∧ C.call k ds st (KD K T m st.length H Q)
/-- def k keeps it -/
structure FnH (P : Program) (w : World) (K : PySem.W.Frag) (mg : Str → Option Value) (base : Heap) (T : Tab) (C : Py.Cx) (lv k : Nat) : Prop where
  ex : ∃ (fd : FuncData) (ps : List Str), FnG P w K mg base CX0 lv (T.fa k) fd ps (spD K T C k) ∧ PySem.W.keepIn K (.ref (T.fa k)) = true ∧ Binds K fd ps []
section
variable {K : PySem.W.Frag} {T : Tab} {C : Py.Cx} {X : L2.Cx}
theorem passN : Passes CX0 X (fun _ _ _ => False) := pass0
theorem se_call {lv k : Nat} {x : Str} {e : Expr} {es : List Expr} {eas : Es} {p pos : Pos} (hC : C.Mono) (F : FnH X.prog X.w X.K X.mg X.base T C lv k) (hr : Room lv X.A) (gd : X.A.guards = some []) (hg : Gl X x) (hm : X.mg x = some (.ref (T.fa k)))
    (ha : PA X (e :: es) (tA X.K T C eas)) (hdb : (x == ("__debug__" : Str)) = false := by decide) (he : starEach (e :: es) X.env = (false, eval e X.env) :: starEach es X.env := by rfl)
    (hpl : (backTo pos (starEach es X.env)).any (·.1) = false := by rfl) : PE X (.Call (.Name x p) (e :: es) [] pos) (tE X.K T C (.call k eas)) := by
  obtain ⟨fd, ps, F, hk, hb⟩ := F.ex
  refine (pe_callG F hr gd hg hm hk hb passN ha hdb he hpl).imp fun σ H Q ⟨env, st, m, er, w, h⟩ => ?_
  unfold We at h
  exact tA.go hC er w h fun xs st1 m1 H1 vs h1 w1 g1 r1 => ⟨xs, st1, m1, w1, r1, hC _ _ _ _ _ (fun d s q => KD.gr g1 q) h1⟩
theorem se_call0 {lv k : Nat} {x : Str} {p pos : Pos} (hC : C.Mono) (F : FnH X.prog X.w X.K X.mg X.base T C lv k) (hr : Room lv X.A) (gd : X.A.guards = some []) (hg : Gl X x) (hm : X.mg x = some (.ref (T.fa k)))
    (hdb : (x == ("__debug__" : Str)) = false := by decide) : PE X (.Call (.Name x p) [] [] pos) (tE X.K T C (.call k .nil)) := by
  obtain ⟨fd, ps, F, hk, hb⟩ := F.ex
  refine (pe_callG0 F hr gd hg hm hk hb passN hdb).imp fun σ H Q ⟨env, st, m, er, w, h⟩ => ?_
  unfold We Wes at h
  exact ⟨[], st, m, w, .nil, h⟩
/-- a call of a def that a slot holds -/
theorem se_callv {lv i : Nat} {x : Str} {e : Expr} {es : List Expr} {eas : Es} {p pos : Pos} (hC : C.Mono) (F : ∀ k, k < C.nf → FnH X.prog X.w X.K X.mg X.base T C lv k) (hr : Room lv X.A) (gd : X.A.guards = some [])
    (hN : X.N[i]? = some x) (hv : Vis X.env.scope x) (ha : PA X (e :: es) (tA X.K T C eas)) (hdb : (x == ("__debug__" : Str)) = false := by decide) (hcd : (x == ("__classdict__" : Str)) = false := by decide)
    (he : starEach (e :: es) X.env = (false, eval e X.env) :: starEach es X.env := by rfl) (hpl : (backTo pos (starEach es X.env)).any (·.1) = false := by rfl) : PE X (.Call (.Name x p) (e :: es) [] pos) (tE X.K T C (.callv (.v i) eas)) := by
  refine ⟨fun pins s σ H Q I h => ?_⟩
  obtain ⟨env, st, m, er, w, h⟩ := h
  unfold We at h
  obtain ⟨d, e1, k, rfl, hk, h⟩ : ∃ d, env[i]? = some (some d) ∧ ∃ k, d = .fn k ∧ k < C.nf ∧ Wes C eas env st fun xs st2 => C.call k xs st2 (KD X.K T m st.length H Q) := by
    unfold We at h
    exact h
  obtain ⟨v, h1, h2⟩ := er.at_ i _ e1
  cases h2
  obtain ⟨fd, ps, F, hk, hb⟩ := (F k hk).ex
  refine (pe_callLG (XX := CX0) (i := i) hN hv hr gd passN ha hdb hcd he hpl).run pins s σ H Q I ⟨_, fd, ps, _, h1, F, hk, hb, ?_⟩
  exact tA.go hC er w h fun xs st1 m1 H1 vs h1 w1 g1 r1 => ⟨xs, st1, m1, w1, r1, hC _ _ _ _ _ (fun d s q => KD.gr g1 q) h1⟩
/-! ### fields, methods, new instances -/
theorem putF_rel {m : Nat → Addr} {n : Nat} {H : Hp} {f : Sx} {d : D} {v : V} (r : Rp K T m n H d v) : ∀ {fs : List (Sx × D)} {ws : List (Str × V)}, RpK K T tx m n H fs ws → RpK K T tx m n H (Py.putF f d fs) (L2.putF (tx f) v ws)
  | _, _, .nil => .cons ⟨rfl, r⟩ .nil
  | (g, x) :: fs, (g', u) :: ws, .cons h t => by
    obtain ⟨e, ru⟩ := h
    have e' : g' = tx g := e
    subst e'
    unfold Py.putF L2.putF
    by_cases c : g = f
    · subst c
      rw [if_pos rfl, if_pos rfl]
      exact .cons ⟨rfl, r⟩ t
    · rw [if_neg c, if_neg fun z => c (tx_inj z)]
      exact .cons ⟨rfl, ru⟩ (putF_rel r t)
theorem getF_rel {m : Nat → Addr} {n : Nat} {H : Hp} {f : Sx} {d : D} : ∀ {fs : List (Sx × D)} {ws : List (Str × V)}, RpK K T tx m n H fs ws → getF f fs = some d → ∃ v, ws.lookup (tx f) = some v ∧ Rp K T m n H d v
  | _, _, .nil, h => nomatch h
  | (g, x) :: fs, (g', u) :: ws, .cons hh t, h => by
    obtain ⟨e, ru⟩ := hh
    have e' : g' = tx g := e
    subst e'
    unfold getF at h
    by_cases c : g = f
    · subst c
      rw [if_pos rfl] at h
      cases h
      exact ⟨u, by simp [List.lookup], ru⟩
    · rw [if_neg c] at h
      obtain ⟨v, h1, h2⟩ := getF_rel t h
      have hb : (tx f == tx g) = false := beq_eq_false_iff_ne.mpr fun z => c (tx_inj z).symm
      exact ⟨v, by simp only [List.lookup, hb]; exact h1, h2⟩
theorem getF_none {m : Nat → Addr} {n : Nat} {H : Hp} {f : Sx} : ∀ {fs : List (Sx × D)} {ws : List (Str × V)}, RpK K T tx m n H fs ws → getF f fs = none → ws.lookup (tx f) = none
  | _, _, .nil, h => rfl
  | (g, x) :: fs, (g', u) :: ws, .cons hh t, h => by
    obtain ⟨e, ru⟩ := hh
    have e' : g' = tx g := e
    subst e'
    unfold getF at h
    by_cases c : g = f
    · subst c
      rw [if_pos rfl] at h
      cases h
    · rw [if_neg c] at h
      have hb : (tx f == tx g) = false := beq_eq_false_iff_ne.mpr fun z => c (tx_inj z).symm
      simp only [List.lookup, hb]
      exact getF_none t h
/-- what the top says of an exception class whose instances have fields -/
structure ExcH (K : PySem.W.Frag) (C : Addr) (ns : List Sx) : Prop where
  ox : OexC K C
  xf : XfC K C
  no : ∀ f ∈ ns, PySem.W.findIn K (.ref C) (tx f) = some none
/-- what the top says of the classes: no attribute of a class has the field's name -/
structure ClsH (K : PySem.W.Frag) (T : Tab) (C : Py.Cx) (fields : List Sx) : Prop where
  cl : ∀ c, C.cls c = true → Cls K (T.ca c)
  no : ∀ c f, C.cls c = true → f ∈ fields → NoAttr K (T.ca c) (tx f)
  ex : ∀ c ns, C.xc c = some ns → ns ≠ [] → ExcH K (T.ca c) ns
theorem getF_nil {f : Sx} : getF f [] = none := rfl
/-- a field is read -/
theorem fld_ok {fl : List Sx} {m : Nat → Addr} {st : Sto} {n : Nat} {f : Sx} {d : D} {pins : List (Addr × Obj)} {σ : L2.St} {H : Hp} {s : Shared} {Q : VK} (R : ClsH X.K T C fl) (hg : f ∈ fl) (I : Inv X pins σ H s) (w : Wd X.K T m st H) (h : fldD C st n f = some d)
    (q : ∀ v, Rp X.K T m st.length H d v → Q v H) : wpAny (model X.prog X.w) X.A (getAttr (.ref (m n)) (tx f) true) (EP X pins σ Q) X.xe s := by
  unfold fldD at h
  split at h
  · rename_i c fs e1
    split at h
    · rename_i hc
      obtain ⟨dx, ws, e3, r3⟩ := w.obj n _ e1
      obtain ⟨u, e4, r4⟩ := getF_rel r3 h
      exact getattr_ok I e3 (R.cl c hc) (R.no c f hc hg) e4 fun u' s2 I2 ru => ⟨u, H, I2, ru, q u r4⟩
    · cases h
  · rename_i c fs e1
    split at h
    · rename_i ns hc
      split at h
      · rename_i hf
        have hf' : f ∈ ns := by simpa using hf
        have E := R.ex c ns hc fun z => by rw [z] at hf'; cases hf'
        rcases w.obj n _ e1 with ⟨h1, h2⟩ | ⟨dd, ws, h1, h2, h3⟩
        · rw [h1] at h; cases h
        · obtain ⟨v, e4, r4⟩ := h3 f d h
          obtain ⟨t1, ho⟩ := exo_at I.hok h1
          obtain ⟨mA, hns, hr⟩ := exd_at I.hok h2
          obtain ⟨od, ho2, hl⟩ := lookIn_ns hns
          obtain ⟨u, hu, ru⟩ := RelO.some_of (v := v) (o := mA (tx f)) (by rw [← e4]; exact hr (tx f))
          exact HandSPX.exc_get I.kIn ⟨ho, rfl, rfl, ho2⟩ E.xf.ga E.xf.gg E.xf.exC (PySem.W.findObj_own E.xf.hdC (E.no f hf') rfl (by rw [hl, hu])) (handed_of ru) ⟨v, H, I.tok _, ru, q v r4⟩
      · cases h
    · cases h
  · cases h
theorem se_att {fl : List Sx} {e : Expr} {ea : E} {f : Str} {g : Sx} {pos : Pos} (hC : C.Mono) (R : ClsH X.K T C fl) (hf : f = tx g) (hg : g ∈ fl) (ha : PE X e (tE X.K T C ea)) (hb : attributeBase e f X.env (eval e X.env) = eval e X.env) :
    PE X (.Attribute e f pos) (tE X.K T C (.att ea g)) := by
  subst hf
  refine ⟨fun pins s σ H Q I ⟨env, st, m, er, w, h⟩ => ?_⟩
  unfold We at h
  have t : tE X.K T C ea σ H fun v H1 => ∃ m1 st1 n d, v = .ref (m1 n) ∧ Wd X.K T m1 st1 H1 ∧ fldD C st1 n g = some d ∧ ∀ u, Rp X.K T m1 st1.length H1 d u → Q u H1 := by
    refine tE.go hC er w h fun x st1 m1 H1 v h1 w1 g1 r1 => ?_
    obtain ⟨n, d, rfl, e1, q⟩ := h1
    cases r1
    exact ⟨m1, st1, n, d, rfl, w1, e1, fun u ru => (q.gr g1).same w1 ru⟩
  refine attr_of hb (thn (ha.run pins s σ H _ I t) fun u s1 ⟨x, H1, I1, rx, m1, st1, n, d, ex, w1, e1, q⟩ => ?_)
  subst ex
  cases rx
  exact fld_ok R hg I1 w1 e1 q
theorem se_new {lv c k : Nat} {fI : Addr} {fd : FuncData} {ps : List Str} {x : Str} {e : Expr} {es : List Expr} {eas : Es} {p pos : Pos} (hC : C.Mono) (M : Mk X.K (T.ca c) (T.fa k)) (hk : C.init c = some k) (F : FnH X.prog X.w X.K X.mg X.base T C lv k) (hr : Room (lv + 1) X.A) (gd : X.A.guards = some [])
    (hg : Gl X x) (hm : X.mg x = some (.ref (T.ca c))) (ha : PA X (e :: es) (tA X.K T C eas)) (hv : ∀ xs st Q, C.call k xs st Q → C.call k xs st fun d s => d = .non ∧ Q d s) (hdb : (x == ("__debug__" : Str)) = false := by decide) (he : starEach (e :: es) X.env = (false, eval e X.env) :: starEach es X.env := by rfl)
    (hpl : (backTo pos (starEach es X.env)).any (·.1) = false := by rfl) : PE X (.Call (.Name x p) (e :: es) [] pos) (tE X.K T C (.new c eas)) := by
  obtain ⟨fd, ps, F, hk2, hb⟩ := F.ex
  refine (pe_makeG M F hr gd hg hm hb passN ha hdb he hpl).imp fun σ H Q ⟨env, st, m, er, w, h⟩ => ?_
  unfold We at h
  refine tA.go hC er w h fun xs st1 m1 H1 vs h1 w1 g1 r1 y dx ny ndx ne => ?_
  obtain ⟨j, e1, h1⟩ := h1
  rw [hk] at e1
  cases e1
  have w2 : Wd X.K T m1 st1 (upd H1 dx (.own y)) := w1.new ndx
  have ny2 : upd H1 dx (.own y) y = none := by rw [upd_ne (fun z => ne z.symm)]; exact ny
  have g2 : Gr X.K m1 st1.length H1 m1 st1.length (upd H1 dx (.own y)) := gr_upd ndx
  have g3 : Gr X.K m1 st1.length (upd H1 dx (.own y)) (mapAdd m1 st1.length y) (st1.length + 1) (upd (upd H1 dx (.own y)) y (.ins (T.ca c) dx [])) := gr_add ny2
  have w3 := w2.add (u := .ins c []) ny2 ⟨dx, [], upd_same, .nil⟩
  have e3 : (V.ref y) = .ref (mapAdd m1 st1.length y st1.length) := by unfold mapAdd; rw [if_pos rfl]
  have ln : (st1 ++ [O.ins c []]).length = st1.length + 1 := by rw [List.length_append]; rfl
  refine ⟨.ref st1.length :: xs, st1 ++ [.ins c []], mapAdd m1 st1.length y, w3, .cons ?_ ?_, hC _ _ _ _ _ (fun d s q => ?_) (hv _ _ _ h1)⟩
  · rw [e3, ln]
    exact .ref (Nat.lt_succ_self _)
  · rw [ln]
    exact r1.gr (g2.trans g3)
  · intro m4 H4 v4 w4 g4 r4
    obtain ⟨rfl, q⟩ := q
    cases r4
    refine ⟨rfl, ?_⟩
    have e5 : m4 st1.length = y := by
      rw [g4.ag _ (by rw [ln]; exact Nat.lt_succ_self _)]
      unfold mapAdd
      rw [if_pos rfl]
    have lt : st1.length < s.length := by
      have := g4.le
      rw [ln] at this
      omega
    have := q m4 H4 (.ref (m4 st1.length)) w4 (g1.trans (g2.trans (g3.trans (by rw [ln] at g4; exact g4)))) (.ref lt)
    rw [e5] at this
    exact this
theorem se_meth {pl : Sem Bool} {lv c k : Nat} {fl : List Sx} {o e : Expr} {eo : E} {es : List Expr} {eas : Es} {mn : Str} {ms : Sx} {apos pos : Pos} (hC : C.Mono) (R : ClsH X.K T C fl) (hmn : mn = tx ms) (ho : PE X o (tE X.K T C eo)) (hm : Meth X.K (T.ca c) mn (T.fa k)) (hk : C.meth c ms = some k) (hc : C.cls c = true)
    (F : FnH X.prog X.w X.K X.mg X.base T C lv k) (hr : Room lv X.A) (gd : X.A.guards = some []) (ha : PA X (e :: es) (tA X.K T C eas))
    (hst : starEach (e :: es) X.env = (false, eval e X.env) :: starEach es X.env := by rfl) (hpl : (backTo pos (starEach es X.env)).any (·.1) = false := by rfl)
    (ht : eval (.Call (.Attribute o mn apos) (e :: es) [] pos) X.env = (do
      let ov ← eval o X.env
      standAt apos.atName
      let (f, first) ← holding [ov] (getMethod ov mn pl)
      callWith pos f first (backTo pos (starEach (e :: es) X.env)) (backToKw pos (keywordEach [] X.env))) := by rfl) :
    PE X (.Call (.Attribute o mn apos) (e :: es) [] pos) (tE X.K T C (.meth eo c ms eas)) := by
  subst hmn
  obtain ⟨fd, ps, F, hk2, hb⟩ := F.ex
  refine (pe_methG ho (R.cl c hc) hm F hr gd hb passN ha hst hpl ht).imp fun σ H Q ⟨env, st, m, er, w, h⟩ => ?_
  unfold We at h
  refine tE.go hC er w h fun x st1 m1 H1 v h1 w1 g1 r1 => ?_
  obtain ⟨n, fs, j, rfl, e1, e2, e3, h1⟩ := h1
  rw [hk] at e3
  cases e3
  cases r1 with
  | ref hn =>
    obtain ⟨dx, ws, e4, r4⟩ := w1.obj n _ e1
    refine ⟨m1 n, dx, ws, rfl, e4, getF_none r4 e2, ?_⟩
    refine tA.go hC (er.gr g1) w1 h1 fun xs st2 m2 H2 vs h2 w2 g2 r2 => ?_
    exact ⟨.ref n :: xs, st2, m2, w2, .cons ((Rp.ref hn).gr g2) r2, hC _ _ _ _ _ (fun d s q => KD.gr (g1.trans g2) q) h2⟩
theorem se_meth0 {pl : Sem Bool} {lv c k : Nat} {fl : List Sx} {o : Expr} {eo : E} {mn : Str} {ms : Sx} {apos pos : Pos} (hC : C.Mono) (R : ClsH X.K T C fl) (hmn : mn = tx ms) (ho : PE X o (tE X.K T C eo)) (hm : Meth X.K (T.ca c) mn (T.fa k)) (hk : C.meth c ms = some k) (hc : C.cls c = true)
    (F : FnH X.prog X.w X.K X.mg X.base T C lv k) (hr : Room lv X.A) (gd : X.A.guards = some [])
    (ht : eval (.Call (.Attribute o mn apos) [] [] pos) X.env = (do
      let ov ← eval o X.env
      standAt apos.atName
      let (f, first) ← holding [ov] (getMethod ov mn pl)
      callWith pos f first (backTo pos (starEach [] X.env)) (backToKw pos (keywordEach [] X.env))) := by rfl) :
    PE X (.Call (.Attribute o mn apos) [] [] pos) (tE X.K T C (.meth eo c ms .nil)) := by
  subst hmn
  obtain ⟨fd, ps, F, hk2, hb⟩ := F.ex
  refine (pe_methG0 ho (R.cl c hc) hm F hr gd hb passN ht).imp fun σ H Q ⟨env, st, m, er, w, h⟩ => ?_
  unfold We at h
  refine tE.go hC er w h fun x st1 m1 H1 v h1 w1 g1 r1 => ?_
  obtain ⟨n, fs, j, rfl, e1, e2, e3, h1⟩ := h1
  rw [hk] at e3
  cases e3
  unfold Wes at h1
  cases r1 with
  | ref hn =>
    obtain ⟨dx, ws, e4, r4⟩ := w1.obj n _ e1
    refine ⟨m1 n, dx, ws, rfl, e4, getF_none r4 e2, ?_⟩
    exact ⟨.ref n :: [], st1, m1, w1, .cons (Rp.ref hn) .nil, hC _ _ _ _ _ (fun d s q => KD.gr g1 q) h1⟩
end
end Py
end
section
set_option Elab.async false
set_option linter.all false
set_option maxRecDepth 100000
set_option maxHeartbeats 2000000
namespace Py
open PySem PySem.Spec L2 PyProof.Rows
section
variable {K : PySem.W.Frag} {T : Tab} {C : Py.Cx} {X : L2.Cx}
/-! ### a[i], a[l:h] -/
def rIxDi : R2 := fun x y H Q => ∃ a v, x = .ref a ∧ DGet H a y (some v) ∧ Q v H
theorem ix_dict (hu : X.A.units + 65 < cLine) : IxR X rIxDi := by
  intro value slice pins s σ H x y v u Q I rx ry h hs
  obtain ⟨a, z, rfl, g, q⟩ := h
  obtain rfl : v = Value.ref a := rx
  have ht := dict_typeIs I g
  have fin : wpAny (model X.prog X.w) X.A (subscripted slice false (.ref a) u) (fun r s3 => wpAny (model X.prog X.w) X.A (letTemporaryGo value (.ref a) r >>= fun _ => pure r) (EP X pins σ Q) X.xe s3) X.xe s := by
    rw [hs]
    exact wpAny_operating (d_getItem (by omega) I g ry fun w' s3 I3 rw' => wpAny_bind (wpAny_letTemporaryGo (wpAny_pure ⟨z, H, I3, rw', q⟩)))
  unfold subscriptTail
  refine wpAny_bind ?_
  rw [getitemInPython_of_ne ht.not_modules]
  refine wpAny_bind (wpAny_specialOf ht PySem.F.slot_dict_getitem.lookup ?_)
  first
    | exact wpAny_pure (wpAny_bind fin)
    | exact wpAny_bind (wpAny_pure (wpAny_bind fin))
    | exact wpAny_bind fin
def rIx4 (K : PySem.W.Frag) : R2 := fun x y H Q => rIx K x y H Q ∨ rIxDi x y H Q
theorem ix_4 (hu : X.A.units + 65 < cLine) : IxR X (rIx4 X.K) := ix_seq.or (ix_dict hu)
theorem atN_eq (n : Nat) (i : Int) : atN n i = L2.ixN n i := by unfold atN L2.ixN; rfl
theorem atI_rp {m : Nat → Addr} {n : Nat} {H : Hp} {ds : List D} {vs : List V} {i : Int} {d : D} (r : RpA K T m n H ds vs) (h : Py.atI ds i = some d) : ∃ v, L2.atI vs i = some v ∧ Rp K T m n H d v := by
  unfold Py.atI at h
  unfold L2.atI
  rw [atN_eq, r.length] at h
  cases e : L2.ixN vs.length i with
  | none => rw [e] at h; cases h
  | some j =>
    rw [e] at h
    exact r.get h
theorem atI_sx {s : Sx} {i : Int} {c : Nat} (h : Py.atI s i = some c) : L2.atI s i = some c ∧ c ∈ s := by
  unfold Py.atI at h
  unfold L2.atI
  rw [atN_eq] at h
  cases e : L2.ixN s.length i with
  | none => rw [e] at h; cases h
  | some j =>
    rw [e] at h
    exact ⟨h, List.mem_of_getElem? h⟩
theorem se_ix {a i : Expr} {ea ei : E} {pos : Pos} (hC : C.Mono) (hu : X.A.units + 65 < cLine) (ha : PE X a (tE X.K T C ea)) (hi : PE X i (tE X.K T C ei)) (hs : PlainIx i := by exact fun _ _ => rfl) : PE X (.Subscript a i pos) (tE X.K T C (.ix ea ei)) :=
  (pe_ix (ix_4 hu) ha hi hs).imp fun σ H Q ⟨env, st, m, er, w, h⟩ => by
    unfold We at h
    refine tE.go hC er w h fun x st1 m1 H1 v h1 w1 g1 r1 => tE.go hC (er.gr g1) w1 h1 fun y st2 m2 H2 u h2 w2 g2 r2 => ?_
    obtain ⟨d, e, q⟩ := h2
    have q' : KD X.K T m2 st2.length H2 Q d st2 := KD.gr (g1.trans g2) q
    have r1' := r1.gr g2
    cases x with
    | tup xs => cases y with
      | int j =>
        cases r1' with
        | tup hb rb =>
          cases r2
          obtain ⟨z, e1, r3⟩ := atI_rp rb (show Py.atI xs j = some d from e)
          exact .inl (.inr (.inl ⟨_, _, j, z, rfl, rfl, SqT.of hb, e1, q'.same w2 r3⟩))
      | _ => cases e
    | gt xs => cases y with
      | int j =>
        cases r1' with
        | gt hb rb =>
          cases r2
          obtain ⟨z, e1, r3⟩ := atI_rp rb (show Py.atI xs j = some d from e)
          exact .inl (.inr (.inl ⟨_, _, j, z, rfl, rfl, hb _, e1, q'.same w2 r3⟩))
      | _ => cases e
    | str s => cases y with
      | int j =>
        cases r1' with
        | str _ ok =>
          cases r2
          have e' : (Py.atI s j).map (fun c => D.str [c]) = some d := e
          cases e0 : Py.atI s j with
          | none => rw [e0] at e'; cases e'
          | some c =>
            rw [e0] at e'
            cases e'
            obtain ⟨e1, hc⟩ := atI_sx e0
            exact .inl (.inr (.inr ⟨tx s, j, c, rfl, rfl, by rw [tx_length, ← LINE_eq]; exact ok.2, e1, q'.same w2 (.str [c] (ok.sub (List.singleton_sublist.mpr hc)))⟩))
      | _ => cases e
    | ref n =>
      have lst : ∀ xs j, y = .int j → Py.lstAt st2 n = some xs → Py.atI xs j = some d → rIx4 X.K v u H2 Q := fun xs j ey hl ha => by
        subst ey
        cases r1'
        cases r2
        obtain ⟨vs, h1, h2, _⟩ := w2.lstAt hl
        obtain ⟨z, e1, r3⟩ := atI_rp h2 ha
        exact .inl (.inl ⟨_, vs, j, z, rfl, rfl, h1, e1, q'.same w2 r3⟩)
      simp only [ixD] at e
      cases e0 : st2[n]? with
      | none => rw [e0] at e; cases e
      | some o =>
        rw [e0] at e
        have di : (getO o y).join = some d → rIx4 X.K v u H2 Q := fun e => by
          cases e1 : getO o y with
          | none => rw [e1] at e; cases e
          | some r =>
            rw [e1] at e
            cases r with
            | none => cases e
            | some d' =>
              cases e
              cases r1'
              obtain ⟨rv, g, _, g2⟩ := getO_rel w2 e0 r2 e1
              obtain ⟨z, rfl, r3⟩ := g2 d rfl
              exact .inr ⟨_, z, rfl, g, q'.same w2 r3⟩
        cases o with
        | lst xs => cases y with
          | int j => exact lst xs j rfl (by unfold Py.lstAt; rw [e0]) e
          | _ => cases e
        | rol xs => cases y with
          | int j => exact lst xs j rfl (by unfold Py.lstAt; rw [e0]) e
          | _ => cases e
        | dk kvs => exact di e
        | dt kvs => exact di e
        | ins c fs => exact di e
        | exc c fs => exact di e
        | lok o => exact di e
    | _ => cases e
theorem bnd_eq (n d : Nat) (o : Option Int) : bnd n d o = HT.sIx n d o := by cases o <;> rfl
theorem cut_rp {m : Nat → Addr} {n : Nat} {H : Hp} {ds : List D} {vs : List V} (l h : Option Int) (r : RpA K T m n H ds vs) : RpA K T m n H (cut ds l h) (cutV vs l h) := by
  unfold cut cutV
  rw [bnd_eq, bnd_eq, r.length]
  exact (r.drop _).take _
theorem cut_full {α : Type} (xs : List α) (l h : Option Int) (e : HT.sIx xs.length 0 l = 0 ∧ HT.sIx xs.length xs.length h = xs.length) : cut xs l h = xs := by
  unfold cut
  rw [bnd_eq, bnd_eq, e.1, e.2]
  simp
def tO (K : PySem.W.Frag) (T : Tab) (C : Py.Cx) (es : Es) : TO := fun σ H Q => ∃ env st m, EnvR K T m st.length H env σ ∧ Wd K T m st H ∧ Wo C es env st fun o st' => ∀ m' H', Wd K T m' st' H' → Gr K m st.length H m' st'.length H' → Q o H'
theorem tO.go {m : Nat → Addr} {st : Sto} {H : Hp} {env : Py.Env} {σ : L2.St} (hC : C.Mono) {e : Es} {R : Option Int → Sto → Prop} {Q : Option Int → Hp → Prop} (er : EnvR K T m st.length H env σ) (w : Wd K T m st H) (h : Wo C e env st R)
    (k : ∀ d st1 m1 H1, R d st1 → Wd K T m1 st1 H1 → Gr K m st.length H m1 st1.length H1 → Q d H1) : tO K T C e σ H Q :=
  ⟨env, st, m, er, w, Wo_mono hC e env st _ _ (fun d st1 r m1 H1 w1 g1 => k d st1 m1 H1 r w1 g1) h⟩
theorem so_none (hC : C.Mono) : PO X none (tO X.K T C .nil) := ⟨fun pins s σ H Q I ⟨env, st, m, er, w, h⟩ => by
  unfold Wo at h
  exact po_none.run pins s σ H Q I (h m H w Gr.refl)⟩
theorem so_some {e : Expr} {ee : E} (hC : C.Mono) (he : PE X e (tE X.K T C ee)) : PO X (some e) (tO X.K T C (.cons ee .nil)) := ⟨fun pins s σ H Q I ⟨env, st, m, er, w, h⟩ => by
  unfold Wo at h
  refine (po_some he).run pins s σ H Q I (tE.go hC er w h fun x st1 m1 H1 v h1 w1 g1 r1 => ?_)
  obtain ⟨i, rfl, q⟩ := h1
  cases r1
  exact ⟨i, rfl, q m1 H1 w1 g1⟩⟩
def rSl3 (K : PySem.W.Frag) : V → Option Int → Option Int → Hp → VK → Prop := fun x lo hi H Q => rSlL K x lo hi H Q ∨ rSlA K x lo hi H Q ∨ rSlS x lo hi H Q
theorem sl_3 : SlR X (rSl3 X.K) := sl_list.or (sl_tupA.or sl_str)
theorem se_sl {a : Expr} {ea : E} {el eh : Es} {lo hi : Option Expr} {p2 pos : Pos} (hC : C.Mono) (ha : PE X a (tE X.K T C ea)) (hl : PO X lo (tO X.K T C el)) (hh : PO X hi (tO X.K T C eh)) : PE X (.Subscript a (.Slice lo hi none p2) pos) (tE X.K T C (.sl ea el eh)) :=
  (pe_slice sl_3 ha hl hh).imp fun σ H Q ⟨env, st, m, er, w, h⟩ => by
    unfold We at h
    refine tE.go hC er w h fun x st1 m1 H1 v h1 w1 g1 r1 => tO.go hC (er.gr g1) w1 h1 fun l st2 m2 H2 h2 w2 g2 => tO.go hC ((er.gr g1).gr g2) w2 h2 fun u st3 m3 H3 h3 w3 g3 => ?_
    have r3 := (r1.gr g2).gr g3
    have g := (g1.trans g2).trans g3
    cases x with
    | tup xs =>
      cases r3 with
      | @tup b vs _ hb rb =>
        have q : KD X.K T m st.length H Q (.tup (cut xs l u)) st3 := h3
        refine .inr (.inl ⟨b, vs, rfl, SqT.of hb, fun e => ?_, fun e p hp => (q.gr g).tup w3 hp (cut_rp l u rb)⟩)
        rw [← rb.length] at e
        rw [cut_full xs l u e] at q
        exact (q.gr g).same w3 (.tup hb rb)
    | str s =>
      cases r3 with
      | str _ ok =>
        have q : KD X.K T m st.length H Q (.str (cut s l u)) st3 := h3
        refine .inr (.inr ⟨tx s, rfl, by rw [tx_length, ← LINE_eq]; exact ok.2, ?_⟩)
        have e : cutS (tx s) l u = tx (cut s l u) := by
          unfold cutS cut
          rw [bnd_eq, bnd_eq, tx_length]
          rfl
        rw [e]
        exact (q.gr g).same w3 (.str _ (ok.sub ((List.take_sublist _ _).trans (List.drop_sublist _ _))))
    | ref n =>
      obtain ⟨xs, e, q⟩ : ∃ xs, Py.lstAt st3 n = some xs ∧ KD X.K T m st.length H Q (D.ref st3.length) (st3 ++ [O.lst (cut xs l u)]) := h3
      cases r3
      obtain ⟨vs, h1, h2, _⟩ := w3.lstAt e
      exact .inl ⟨_, vs, rfl, h1, fun p hp => (q.gr g).lst w3 hp (cut_rp l u h2)⟩
    | _ => exact (show False from h3).elim
end
end Py
end
section
set_option Elab.async false
set_option linter.all false
set_option maxRecDepth 100000
set_option maxHeartbeats 2000000
namespace Py
open PySem PySem.Spec L2 PyProof.Rows
/-- the words of repr -/
def rpW (p : P) : Sx := (PyData.shown (pd p)).cps.toList
theorem tx_toList (s : Str) : tx s.cps.toList = s := by
  show Str.mk s.cps.toList.toArray = s
  rw [Array.toArray_toList]
mutual
theorem wt_pd : ∀ p : P, PyData.weight (pd p) = wtP p
  | .non => by simp [pd, PyData.weight, wtP]
  | .bl _ => by simp [pd, PyData.weight, wtP]
  | .int i => by simp [pd, PyData.weight, wtP]
  | .str s => by simp [pd, PyData.weight, wtP, tx]
  | .lst xs => by simp only [pd, PyData.weight, wtP]; exact wt_pds xs
  | .tup xs => by simp only [pd, PyData.weight, wtP]; exact wt_pds xs
theorem wt_pds : ∀ p : List P, PyData.weightAll (pds p) = wtPs p
  | [] => by simp [pds, PyData.weightAll, wtPs]
  | x :: xs => by simp only [pds, PyData.weightAll, wtPs]; rw [wt_pd x, wt_pds xs]
end
theorem shown_int_len {i : Int} (h : i.natAbs.log2 < 160) : (PyData.shown (.int i)).length ≤ 161 := by
  have := int_text_length_le (a := i) (k := 160) (by decide) h
  simp only [PyData.shown]
  have e : (Str.ofString (toString i)).length = (toString i).length := by
    rw [Str.ofString_eq_toList]
    show (((toString i).toList.map Char.toNat).toArray).size = _
    rw [List.size_toArray, List.length_map, String.length_toList]
  show (Str.ofString (toString i)).length ≤ 161
  omega
mutual
theorem short_pd : ∀ p : P, shortP p = true → PyData.intsShort 161 (pd p) = true ∧ PyData.showable (pd p) = true
  | .non, _ => by simp [pd, PyData.intsShort, PyData.showable]
  | .bl _, _ => by simp [pd, PyData.intsShort, PyData.showable]
  | .int i, h => by
    have h' : i.natAbs.log2 < 160 := by simpa [shortP] using h
    simp only [pd, PyData.intsShort, PyData.showable]
    exact ⟨decide_eq_true (shown_int_len h'), decide_eq_true (by omega)⟩
  | .str s, _ => by simp [pd, PyData.intsShort, PyData.showable]
  | .lst xs, h => by simp only [pd, PyData.intsShort, PyData.showable]; exact short_pds xs (by simpa [shortP] using h)
  | .tup xs, h => by simp only [pd, PyData.intsShort, PyData.showable]; exact short_pds xs (by simpa [shortP] using h)
theorem short_pds : ∀ p : List P, shortPs p = true → PyData.intsShortAll 161 (pds p) = true ∧ PyData.showableAll (pds p) = true
  | [], _ => by simp [pds, PyData.intsShortAll, PyData.showableAll]
  | x :: xs, h => by
    have h' : shortP x = true ∧ shortPs xs = true := by simpa [shortPs] using h
    have a := short_pd x h'.1
    have b := short_pds xs h'.2
    simp only [pds, PyData.intsShortAll, PyData.showableAll]
    rw [a.1, a.2, b.1, b.2]
    exact ⟨rfl, rfl⟩
end
theorem shown_ok {p : P} (h : repOk p = true) (hc : (pd p).canLay0 = true) : (PyData.shown (pd p)).length ≤ sizeLine ∧ (pd p).showable = true := by
  unfold repOk at h
  rw [Bool.and_eq_true] at h
  obtain ⟨h1, h2⟩ := h
  have h2 := of_decide_eq_true h2
  obtain ⟨a, b⟩ := short_pd p h1
  have hl := PyData.shown_le 161 (by decide) (pd p) (PyData.leavesShort_of_canLay0 161 (pd p) hc a)
  rw [wt_pd] at hl
  refine ⟨?_, b⟩
  rw [sizeLine_eq]
  omega
/-! ### built-ins by their values -/
section
variable {K : PySem.W.Frag} {T : Tab} {C : Py.Cx} {X : L2.Cx}
def BiOk (X : L2.Cx) (T : Tab) (rp : P → Sx) (b : Bi) (r : List V → Hp → VK → Prop) : Prop :=
  ∀ (m : Nat → Addr) (st : Sto) (H : Hp) (Q : VK) (xs : List D) (vs : List V), Wd X.K T m st H → RpA X.K T m st.length H xs vs → wBi rp b xs st (KD X.K T m st.length H Q) → r vs H Q
theorem se_biB {x : Str} {id : String} {b : Bi} {r : List V → Hp → VK → Prop} {e : Expr} {es : List Expr} {eas : Es} {p pos : Pos} (hC : C.Mono) (hc : CallR X (.builtin id) r) (hb : BiOk X T C.rp b r) (hg : Gl X x) (hm : X.mg x = none) (hv : bootBuiltins x = some (.builtin id))
    (ha : PA X (e :: es) (tA X.K T C eas)) (hn : x ≠ "__name__" := by decide) (hdb : (x == ("__debug__" : Str)) = false := by decide)
    (he : starEach (e :: es) X.env = (false, eval e X.env) :: starEach es X.env := by rfl) (hpl : (backTo pos (starEach es X.env)).any (·.1) = false := by rfl) : PE X (.Call (.Name x p) (e :: es) [] pos) (tE X.K T C (.bi b eas)) :=
  (pe_callB hc hg hm hv ha hn hdb he hpl).imp fun σ H Q ⟨env, st, m, er, w, h⟩ => by
    unfold We at h
    exact tA.go hC er w h fun y st2 m2 H2 u h2 w2 g2 r2 => hb m2 st2 H2 Q y u w2 r2 (wBi_mono (fun d s q => KD.gr g2 q) h2)
theorem se_biT {x : Str} {id : String} {b : Bi} {r : List V → Hp → VK → Prop} {e : Expr} {es : List Expr} {eas : Es} {p pos : Pos} (hC : C.Mono) (hc : CallR X (.type id) r) (hb : BiOk X T C.rp b r) (hg : Gl X x) (hm : X.mg x = none) (hv : bootBuiltins x = some (.type id))
    (ha : PA X (e :: es) (tA X.K T C eas)) (hn : x ≠ "__name__" := by decide) (hdb : (x == ("__debug__" : Str)) = false := by decide)
    (he : starEach (e :: es) X.env = (false, eval e X.env) :: starEach es X.env := by rfl) (hpl : (backTo pos (starEach es X.env)).any (·.1) = false := by rfl) : PE X (.Call (.Name x p) (e :: es) [] pos) (tE X.K T C (.bi b eas)) :=
  (pe_callTy hc hg hm hv ha hn hdb he hpl).imp fun σ H Q ⟨env, st, m, er, w, h⟩ => by
    unfold We at h
    exact tA.go hC er w h fun y st2 m2 H2 u h2 w2 g2 r2 => hb m2 st2 H2 Q y u w2 r2 (wBi_mono (fun d s q => KD.gr g2 q) h2)
/-- a built-in that only looks -/
theorem bi_val {rp : P → Sx} {b : Bi} {r : List V → Hp → VK → Prop} (ho : ∀ st xs, biO st b xs = none) (h : ∀ (m : Nat → Addr) (st : Sto) (H : Hp) (Q : VK) (xs : List D) (vs : List V) (d : D), Wd X.K T m st H → RpA X.K T m st.length H xs vs → biD rp st b xs = some d →
    (∀ v, Rp X.K T m st.length H d v → Q v H) → r vs H Q) : BiOk X T rp b r := fun m st H Q xs vs w rx hw => by
  rcases hw with ⟨d, e, q⟩ | ⟨o, e, q⟩
  · exact h m st H Q xs vs d w rx e fun v rv => q.same w rv
  · rw [ho] at e; cases e
theorem RpA.one {m : Nat → Addr} {n : Nat} {H : Hp} {d : D} {vs : List V} (r : RpA K T m n H [d] vs) : ∃ v, vs = [v] ∧ Rp K T m n H d v := by
  cases r with
  | cons h t => cases t; exact ⟨_, rfl, h⟩
theorem RpA.two {m : Nat → Addr} {n : Nat} {H : Hp} {d e : D} {vs : List V} (r : RpA K T m n H [d, e] vs) : ∃ v u, vs = [v, u] ∧ Rp K T m n H d v ∧ Rp K T m n H e u := by
  cases r with
  | cons h t =>
    obtain ⟨u, rfl, h2⟩ := t.one
    exact ⟨_, u, rfl, h, h2⟩
def rLen3 (K : PySem.W.Frag) : List V → Hp → VK → Prop := fun xs H Q => (∃ x n, xs = [x] ∧ LenV K x H n ∧ Q (.int n) H) ∨ (∃ a kvs, xs = [V.ref a] ∧ H a = some (.dK kvs) ∧ Q (.int kvs.length) H) ∨ rLenT xs H Q
theorem call_len3 : CallR X (.builtin "len") (rLen3 X.K) := call_len.or (call_lenD.or call_len_dT)
theorem bi_len {rp : P → Sx} : BiOk X T rp .len (rLen3 X.K) := bi_val (fun st xs => by unfold biO; rfl) fun m st H Q xs vs d w rx e q => by
  match xs, rx, e with
  | [x], rx, e =>
    obtain ⟨v, rfl, r⟩ := rx.one
    have e' : (lenD st x).map (fun n => D.int n) = some d := e
    cases e0 : lenD st x with
    | none => rw [e0] at e'; cases e'
    | some n =>
      rw [e0] at e'
      cases e'
      cases r with
      | str s ok =>
        cases e0
        exact .inl ⟨_, s.length, rfl, ⟨by rw [tx_length, ← LINE_eq]; exact ok.2, (tx_length s).symm⟩, q _ (.int _)⟩
      | tup hb rb => cases e0; exact .inl ⟨_, _, rfl, .inr ⟨_, SqT.of hb, rb.length⟩, q _ (.int _)⟩
      | gt hb rb => cases e0; exact .inl ⟨_, _, rfl, .inr ⟨_, hb H, rb.length⟩, q _ (.int _)⟩
      | @ref i hi =>
        simp only [lenD] at e0
        split at e0
        · rename_i ys e1
          cases e0
          obtain ⟨us, h1, h2⟩ := w.obj i _ e1
          exact .inl ⟨_, _, rfl, .inl ⟨us, SqL.of h1, h2.length⟩, q _ (.int _)⟩
        · rename_i ys e1
          cases e0
          obtain ⟨us, h1, h2⟩ := w.obj i _ e1
          exact .inl ⟨_, _, rfl, .inl ⟨us, h1.sq, h2.length⟩, q _ (.int _)⟩
        · rename_i ys e1
          cases e0
          obtain ⟨us, h1, h2⟩ := w.obj i _ e1
          exact .inr (.inl ⟨_, us, rfl, h1, by rw [← h2.length]; exact q _ (.int _)⟩)
        · rename_i ys e1
          cases e0
          obtain ⟨us, h1, h2⟩ := w.obj i _ e1
          exact .inr (.inr ⟨_, us, rfl, h1, by rw [← h2.length]; exact q _ (.int _)⟩)
        · cases e0
      | _ => cases e0
def rInt2 : List V → Hp → VK → Prop := fun xs H Q => ((∃ i, xs = [.int i] ∧ Q (.int i) H) ∨ ∃ k, xs = [.bl k] ∧ Q (.int (if k then 1 else 0)) H) ∨ ∃ a n, xs = [.str a] ∧ PySem.intText? a = some n ∧ a.length ≤ 640 ∧ Q (.int n) H
theorem call_int2 : CallR X (.type "int") rInt2 := call_int1.or call_int_str
theorem numOf_text {s : Sx} {n : Int} (h : numOf s = some n) : PySem.intText? (tx s) = some n ∧ (tx s).length ≤ 640 := by
  unfold numOf at h
  split at h
  · rename_i c
    cases h
    refine ⟨?_, by rw [tx_length]; omega⟩
    refine PySem.intText_digits (x := tx s) (fun d hd => ?_) (fun e => ?_) (by rw [tx_length]; omega)
    · have := List.all_eq_true.mp c.2.1 d (by simpa [tx] using hd)
      unfold isDig at this
      rw [Bool.and_eq_true] at this
      exact ⟨of_decide_eq_true this.1, of_decide_eq_true this.2⟩
    · have e' : s = [] := by simpa [tx] using e
      rw [e'] at c
      exact absurd c.1 (by decide)
  · cases h
theorem bi_int {rp : P → Sx} : BiOk X T rp .int rInt2 := bi_val (fun st xs => by unfold biO; rfl) fun m st H Q xs vs d w rx e q => by
  match xs, rx, e with
  | [.int i], rx, e => obtain ⟨v, rfl, r⟩ := rx.one; cases r; cases e; exact .inl (.inl ⟨i, rfl, q _ (.int _)⟩)
  | [.bl i], rx, e => obtain ⟨v, rfl, r⟩ := rx.one; cases r; cases e; exact .inl (.inr ⟨i, rfl, q _ (.int _)⟩)
  | [.str s], rx, e =>
    obtain ⟨v, rfl, r⟩ := rx.one
    cases r with
    | str _ ok =>
      have e' : (numOf s).map D.int = some d := e
      cases e0 : numOf s with
      | none => rw [e0] at e'; cases e'
      | some n =>
        rw [e0] at e'
        cases e'
        obtain ⟨h1, h2⟩ := numOf_text e0
        exact .inr ⟨tx s, n, rfl, h1, h2, q _ (.int _)⟩
theorem bi_str {rp : P → Sx} : BiOk X T rp .str (fun xs H Q => ∃ i, xs = [.int i] ∧ i.natAbs.log2 < 1920 ∧ Q (.str (toString i)) H) := bi_val (fun st xs => by unfold biO; rfl) fun m st H Q xs vs d w rx e q => by
  match xs, rx, e with
  | [.int i], rx, e =>
    obtain ⟨v, rfl, r⟩ := rx.one
    cases r
    have e' : (if i.natAbs.log2 < 1920 then some (D.str (strI i)) else none) = some d := e
    split at e'
    · rename_i c
      cases e'
      refine ⟨i, rfl, c, ?_⟩
      have e1 : ((toString i : String) : Str) = tx (strI i) := by rw [Str.ofString_eq_toList]; rfl
      rw [e1]
      refine q _ (.str _ ⟨fun ch hc => ?_, ?_⟩)
      · unfold strI at hc
        obtain ⟨c0, _, rfl⟩ := List.mem_map.mp hc
        have hv := c0.valid
        have : c0.toNat < 1114112 := by
          rcases hv with hv | hv
          · exact Nat.lt_of_lt_of_le hv (by decide)
          · exact hv.2
        exact this
      · have := int_text_fits c
        rw [e1, tx_length] at this
        rw [LINE_eq]
        exact this
    · cases e'
end
end Py
end
section
set_option Elab.async false
set_option linter.all false
set_option maxRecDepth 100000
set_option maxHeartbeats 2000000
namespace Py
open PySem PySem.Spec L2 PyProof.Rows
/-! ### the signs of repr's words -/
def Vd (x : Str) : Prop := ∀ c ∈ x.cps.toList, c < 1114112
theorem Vd.app {a b : Str} (ha : Vd a) (hb : Vd b) : Vd (a ++ b) := fun c hc => by
  have hc' : c ∈ (a.cps ++ b.cps).toList := hc
  rw [Array.toList_append, List.mem_append] at hc'
  exact hc'.elim (ha c) (hb c)
theorem vd_lit {s : String} (h : ((Str.ofString s).cps.toList.all fun c => decide (c < 1114112)) = true) : Vd (Str.ofString s) := fun c hc => of_decide_eq_true (List.all_eq_true.mp h c hc)
theorem char_lt (c : Char) : c.toNat < 1114112 := by
  rcases c.valid with hv | hv
  · exact Nat.lt_of_lt_of_le hv (by decide)
  · exact hv.2
theorem vd_string (s : String) : Vd (Str.ofString s) := fun c hc => by
  rw [Str.ofString_eq_toList] at hc
  have hc' : c ∈ s.toList.map Char.toNat := by simpa using hc
  obtain ⟨d, _, rfl⟩ := List.mem_map.mp hc'
  exact char_lt d
theorem reprChar_lt {q c : Nat} (hc : c < 1114112) : ∀ d ∈ Builtin.Str.reprChar q c, d < 1114112 := by
  have hx : ∀ w : Nat, ∀ d ∈ (List.replicate (w - ((Nat.toDigits 16 c).map Char.toNat).length) 48 ++ (Nat.toDigits 16 c).map Char.toNat), d < 1114112 := fun w d hd => by
    rcases List.mem_append.mp hd with hd | hd
    · rw [List.eq_of_mem_replicate hd]; decide
    · obtain ⟨e, _, rfl⟩ := List.mem_map.mp hd
      exact char_lt e
  intro d hd
  have two : ∀ a b : Nat, a < 1114112 → b < 1114112 → d ∈ [a, b] → d < 1114112 := fun a b ha hb hm => by
    rcases List.mem_cons.mp hm with e | hm
    · rw [e]; exact ha
    · rw [List.mem_singleton.mp hm]; exact hb
  unfold Builtin.Str.reprChar at hd
  simp only at hd
  split at hd
  · exact two 92 c (by decide) hc hd
  split at hd
  · exact two 92 110 (by decide) (by decide) hd
  split at hd
  · exact two 92 114 (by decide) (by decide) hd
  split at hd
  · exact two 92 116 (by decide) (by decide) hd
  split at hd
  · rw [List.mem_singleton.mp hd]; exact hc
  split at hd
  · rcases List.mem_append.mp hd with hd | hd
    · exact two 92 120 (by decide) (by decide) hd
    · exact hx 2 d hd
  split at hd
  · rcases List.mem_append.mp hd with hd | hd
    · exact two 92 117 (by decide) (by decide) hd
    · exact hx 4 d hd
  · rcases List.mem_append.mp hd with hd | hd
    · exact two 92 85 (by decide) (by decide) hd
    · exact hx 8 d hd
theorem reprFold_lt (q : Nat) : ∀ (l : List Nat) (acc : Array Nat), (∀ c ∈ l, c < 1114112) → (∀ c ∈ acc.toList, c < 1114112) → ∀ c ∈ (l.foldl (fun out c => out ++ (Builtin.Str.reprChar q c).toArray) acc).toList, c < 1114112
  | [], acc, _, ha => ha
  | a :: r, acc, h, ha => reprFold_lt q r _ (fun c hc => h c (List.mem_cons_of_mem _ hc)) fun c hc => by
    rw [Array.toList_append, List.mem_append] at hc
    exact hc.elim (ha c) fun hc => reprChar_lt (h a List.mem_cons_self) c (by simpa using hc)
theorem vd_reprText {x : Str} (h : Vd x) : Vd (reprText x) := fun c hc => by
  have hq : reprQuote x < 1114112 := by unfold reprQuote; split <;> decide
  have hc' : c ∈ ((x.cps.foldl (fun out c => out ++ (Builtin.Str.reprChar (reprQuote x) c).toArray) #[reprQuote x]).push (reprQuote x)).toList := hc
  rw [Array.toList_push, List.mem_append] at hc'
  rcases hc' with hc' | hc'
  · rw [← Array.foldl_toList] at hc'
    exact reprFold_lt _ _ _ h (fun d hd => by rw [List.mem_singleton.mp hd]; exact hq) c hc'
  · rw [List.mem_singleton.mp hc']; exact hq
theorem vd_textFrom : ∀ (ts : List Str) (k : Nat) (acc : Str), (∀ t ∈ ts, Vd t) → Vd acc → Vd (textFrom k acc ts)
  | [], _, _, _, h => h
  | t :: r, k, acc, ht, h => by
    unfold textFrom
    refine vd_textFrom r _ _ (fun u hu => ht u (List.mem_cons_of_mem _ hu)) ((h.app ?_).app (ht t List.mem_cons_self))
    exact vd_string _
theorem vd_join {s : Str} (hs : Vd s) : ∀ ts : List Str, (∀ t ∈ ts, Vd t) → Vd (Str.join s ts)
  | [], _ => fun c hc => by cases hc
  | [x], h => h x List.mem_cons_self
  | x :: y :: r, h => ((h x List.mem_cons_self).app hs).app (vd_join hs (y :: r) fun t ht => h t (List.mem_cons_of_mem _ ht))
mutual
theorem vd_shown : ∀ d : PyData, d.canLay0 = true → Vd d.shown
  | .none, _ => by simp only [PyData.shown]; exact vd_string _
  | .bool b, _ => by simp only [PyData.shown]; cases b <;> exact vd_string _
  | .int i, _ => by simp only [PyData.shown]; exact vd_string _
  | .str x, h => by
    simp only [PyData.shown]
    refine vd_reprText fun c hc => ?_
    simp only [PyData.canLay0, PyData.strOk] at h
    rw [← Array.all_toList] at h
    exact of_decide_eq_true (List.all_eq_true.mp h c hc)
  | .list xs, h => by
    simp only [PyData.shown]
    simp only [PyData.canLay0] at h
    unfold listText
    exact (vd_textFrom _ _ _ (vd_shownAll xs h) (vd_string _)).app (vd_string _)
  | .tuple xs, h => by
    simp only [PyData.shown]
    simp only [PyData.canLay0] at h
    unfold tupleText
    exact (((vd_string _).app (vd_join (vd_string _) _ (vd_shownAll xs h)))).app (vd_string _)
  | .dict _, h => by simp [PyData.canLay0] at h
theorem vd_shownAll : ∀ ds : List PyData, PyData.canLayAll0 ds = true → ∀ t ∈ PyData.shownAll ds, Vd t
  | [], _ => by simp [PyData.shownAll]
  | d :: r, h => by
    simp only [PyData.canLayAll0, Bool.and_eq_true] at h
    simp only [PyData.shownAll]
    intro t ht
    rcases List.mem_cons.mp ht with e | ht
    · rw [e]; exact vd_shown d h.1
    · exact vd_shownAll r h.2 t ht
end
section
variable {K : PySem.W.Frag} {T : Tab} {C : Py.Cx} {X : L2.Cx}
/-! ### repr -/
def rReprD (K : PySem.W.Frag) : List V → Hp → VK → Prop := fun xs H Q => ∃ v p, xs = [v] ∧ Dp K H v (pd p) ∧ (pd p).canLay0 = true ∧ (pd p).depth ≤ 50 ∧ repOk p = true ∧ Q (.str (PyData.shown (pd p))) H
theorem call_reprD (gd : X.A.guards = some []) (hu : X.A.units + 65 < cLine) : CallR X (.builtin "repr") (rReprD X.K) := by
  intro pins s σ H xs us Q I r h
  obtain ⟨v, p, rfl, hd, hc, dp, ok, q⟩ := h
  obtain ⟨u, rfl, ru⟩ := vals1 r
  obtain ⟨hsz, hsh⟩ := shown_ok ok hc
  have fin : ∀ s', Inv X pins σ H s' → ∀ t, EP X pins σ Q (.str (PyData.shown (pd p)) t) s' := fun s' I' t => ⟨.str _, H, I', ⟨t, rfl⟩, q⟩
  cases p with
  | non =>
    simp only [pd] at hd fin
    cases hd
    cases ru
    simp only [PyData.shown] at fin
    exact PySem.P.repr_of_none (fin _ (I.tok _) _)
  | bl b =>
    simp only [pd] at hd fin
    cases hd
    cases ru
    simp only [PyData.shown] at fin
    exact PySem.P.repr_of_bool (fin _ (I.tok _) _)
  | int i =>
    simp only [pd] at hd fin
    cases hd
    obtain ⟨t, rfl⟩ := ru
    simp only [PyData.shown] at fin
    refine PySem.P.repr_of_int ?_ (fin _ (I.tok _) _)
    simp only [pd, PyData.showable] at hsh
    exact of_decide_eq_true hsh
  | str x =>
    simp only [pd] at hd fin
    cases hd
    obtain ⟨t, rfl⟩ := ru
    simp only [PyData.shown] at fin
    exact PySem.P.repr_of_str (fin _ (I.tok _) _) (by simpa only [pd, PyData.shown] using hsz)
  | lst ps =>
    obtain ⟨as, rd⟩ := Dp.reads I _ v u hd ru
    simp only [pd] at hd
    cases hd
    cases ru
    exact repr_of_reads' rd hsh (PyData.noDict_hsm (PyData.hasDict_of_canLay _ hc)) gd (by omega) (fun _ _ e => e) (fun h' t tk hk => fin _ (I.kept (t' := tk) fun b o e => hk b o e) t) hsz
  | tup ps =>
    obtain ⟨as, rd⟩ := Dp.reads I _ v u hd ru
    simp only [pd] at hd
    cases hd
    cases ru
    exact repr_of_reads' rd hsh (PyData.noDict_hsm (PyData.hasDict_of_canLay _ hc)) gd (by omega) (fun _ _ e => e) (fun h' t tk hk => fin _ (I.kept (t' := tk) fun b o e => hk b o e) t) hsz
theorem bi_repr : BiOk X T rpW .repr (rReprD X.K) := bi_val (fun st xs => by unfold biO; rfl) fun m st H Q xs vs d w rx e q => by
  match xs, rx, e with
  | [x], rx, e =>
    obtain ⟨v, rfl, r⟩ := rx.one
    simp only [biD] at e
    cases e0 : toP st 50 x with
    | none => rw [e0] at e; cases e
    | some p =>
      rw [e0] at e
      simp only at e
      split at e
      · rename_i ok
        cases e
        have a := toP_dp w 50 x p v e0 r
        refine ⟨v, p, rfl, a.1, a.2.1, a.2.2, ok, ?_⟩
        have e1 : PyData.shown (pd p) = tx (rpW p) := (tx_toList _).symm
        rw [e1]
        refine q _ (.str _ ⟨vd_shown _ a.2.1, ?_⟩)
        have hl := (shown_ok ok a.2.1).1
        rw [LINE_eq]
        rw [e1, tx_length] at hl
        exact hl
      · cases e
end
end Py
end
section
set_option Elab.async false
set_option linter.all false
set_option maxRecDepth 100000
set_option maxHeartbeats 2000000
namespace Py
open PySem PySem.Spec L2 PyProof.Rows
section
variable {K : PySem.W.Frag} {T : Tab} {C : Py.Cx} {X : L2.Cx}
theorem bi_min2 {rp : P → Sx} : BiOk X T rp .min2 (fun xs H Q => ∃ i j, xs = [.int i, .int j] ∧ Q (.int (if j < i then j else i)) H) := bi_val (fun st xs => by unfold biO; rfl) fun m st H Q xs vs d w rx e q => by
  match xs, rx, e with
  | [.int i, .int j], rx, e =>
    obtain ⟨v, u, rfl, r1, r2⟩ := rx.two
    cases r1; cases r2; cases e
    exact ⟨i, j, rfl, q _ (.int _)⟩
theorem bi_max2 {rp : P → Sx} : BiOk X T rp .max2 (fun xs H Q => ∃ i j, xs = [.int i, .int j] ∧ Q (.int (if j > i then j else i)) H) := bi_val (fun st xs => by unfold biO; rfl) fun m st H Q xs vs d w rx e q => by
  match xs, rx, e with
  | [.int i, .int j], rx, e =>
    obtain ⟨v, u, rfl, r1, r2⟩ := rx.two
    cases r1; cases r2; cases e
    exact ⟨i, j, rfl, q _ (.int _)⟩
theorem bi_abs {rp : P → Sx} : BiOk X T rp .abs (fun xs H Q => ∃ i, xs = [.int i] ∧ Q (.int (if i < 0 then -i else i)) H) := bi_val (fun st xs => by unfold biO; rfl) fun m st H Q xs vs d w rx e q => by
  match xs, rx, e with
  | [.int i], rx, e =>
    obtain ⟨v, rfl, r1⟩ := rx.one
    cases r1; cases e
    exact ⟨i, rfl, q _ (.int _)⟩
theorem allBls_rp {m : Nat → Addr} {n : Nat} {H : Hp} : ∀ {ds : List D} {vs : List V} {bs : List Bool}, allBls ds = some bs → RpA K T m n H ds vs → vs = bs.map V.bl
  | _, _, _, h, .nil => by cases h; rfl
  | d :: ds, v :: vs, bs, h, .cons r t => by
    have h' : omap asBl (d :: ds) = some bs := h
    unfold omap at h'
    cases r with
    | bl b =>
      simp only [asBl] at h'
      cases e : omap asBl ds with
      | none => rw [e] at h'; cases h'
      | some cs =>
        rw [e] at h'
        cases h'
        rw [allBls_rp (bs := cs) e t]
        rfl
    | _ => cases h'
theorem allInts_rp {m : Nat → Addr} {n : Nat} {H : Hp} : ∀ {ds : List D} {vs : List V} {bs : List Int}, allInts ds = some bs → RpA K T m n H ds vs → vs = bs.map V.int
  | _, _, _, h, .nil => by cases h; rfl
  | d :: ds, v :: vs, bs, h, .cons r t => by
    have h' : omap asInt (d :: ds) = some bs := h
    unfold omap at h'
    cases r with
    | int b =>
      simp only [asInt] at h'
      cases e : omap asInt ds with
      | none => rw [e] at h'; cases h'
      | some cs =>
        rw [e] at h'
        cases h'
        rw [allInts_rp (bs := cs) e t]
        rfl
    | _ => cases h'
theorem bi_all {rp : P → Sx} : BiOk X T rp .all (rAll X.K) := bi_val (fun st xs => by unfold biO; rfl) fun m st H Q xs vs d w rx e q => by
  match xs, rx, e with
  | [.ref n], rx, e =>
    obtain ⟨v, rfl, r1⟩ := rx.one
    cases r1
    simp only [biD] at e
    cases e0 : Py.lstAt st n with
    | none => rw [e0] at e; cases e
    | some ds =>
      rw [e0] at e
      obtain ⟨us, h1, h2, _⟩ := w.lstAt e0
      cases e1 : allBls ds with
      | none => simp only [Option.bind_some, e1] at e; cases e
      | some bs =>
        simp only [Option.bind_some, e1, Option.map_some] at e
        cases e
        have e2 := allBls_rp e1 h2
        subst e2
        exact ⟨_, bs, rfl, h1, q _ (.bl _)⟩
theorem bi_any {rp : P → Sx} : BiOk X T rp .any (rAny X.K) := bi_val (fun st xs => by unfold biO; rfl) fun m st H Q xs vs d w rx e q => by
  match xs, rx, e with
  | [.ref n], rx, e =>
    obtain ⟨v, rfl, r1⟩ := rx.one
    cases r1
    simp only [biD] at e
    cases e0 : Py.lstAt st n with
    | none => rw [e0] at e; cases e
    | some ds =>
      rw [e0] at e
      obtain ⟨us, h1, h2, _⟩ := w.lstAt e0
      cases e1 : allBls ds with
      | none => simp only [Option.bind_some, e1] at e; cases e
      | some bs =>
        simp only [Option.bind_some, e1, Option.map_some] at e
        cases e
        have e2 := allBls_rp e1 h2
        subst e2
        exact ⟨_, bs, rfl, h1, q _ (.bl _)⟩
theorem bi_sum {rp : P → Sx} : BiOk X T rp .sum (rSum X.K) := bi_val (fun st xs => by unfold biO; rfl) fun m st H Q xs vs d w rx e q => by
  match xs, rx, e with
  | [.ref n], rx, e =>
    obtain ⟨v, rfl, r1⟩ := rx.one
    cases r1
    simp only [biD] at e
    cases e0 : Py.lstAt st n with
    | none => rw [e0] at e; cases e
    | some ds =>
      rw [e0] at e
      obtain ⟨us, h1, h2, _⟩ := w.lstAt e0
      cases e1 : allInts ds with
      | none => simp only [Option.bind_some, e1] at e; cases e
      | some bs =>
        simp only [Option.bind_some, e1, Option.map_some] at e
        cases e
        have e2 := allInts_rp e1 h2
        subst e2
        exact ⟨_, bs, rfl, h1, q _ (.int _)⟩
theorem items_rp {m : Nat → Addr} {st : Sto} {H : Hp} {x : D} {v : V} {ds : List D} (w : Wd K T m st H) (r : Rp K T m st.length H x v) (h : itemsD st x = some ds) : ∃ p us, v = .ref p ∧ (SqL K H p us ∨ SqT K H p us) ∧ RpA K T m st.length H ds us := by
  cases r with
  | tup hb rb => cases h; exact ⟨_, _, rfl, .inr (SqT.of hb), rb⟩
  | gt hb rb => cases h; exact ⟨_, _, rfl, .inr (hb H), rb⟩
  | @ref i hi =>
    obtain ⟨us, h1, h2, _⟩ := w.lstAt (show Py.lstAt st i = some ds from h)
    exact ⟨_, us, rfl, .inl h1, h2⟩
  | _ => cases h
theorem bi_list {rp : P → Sx} : BiOk X T rp .list (fun xs H Q => ∃ p ys, xs = [.ref p] ∧ (SqL X.K H p ys ∨ SqT X.K H p ys) ∧ ∀ l, H l = none → Q (.ref l) (upd H l (.lst ys))) := fun m st H Q xs vs w rx hw => by
  rcases hw with ⟨d, e, q⟩ | ⟨o, e, q⟩
  · unfold biD at e
    split at e <;> first | contradiction | cases e
  · match xs, rx, e with
    | [x], rx, e =>
      obtain ⟨v, rfl, r⟩ := rx.one
      have e' : (itemsD st x).map O.lst = some o := e
      cases e0 : itemsD st x with
      | none => rw [e0] at e'; cases e'
      | some ds =>
        rw [e0] at e'
        cases e'
        obtain ⟨p, us, rfl, h1, h2⟩ := items_rp w r e0
        exact ⟨p, us, rfl, h1, fun l hl => q.lst w hl h2⟩
theorem bi_tuple {rp : P → Sx} : BiOk X T rp .tuple (fun xs H Q => ∃ p ys, xs = [.ref p] ∧ ((SqL X.K H p ys ∧ ∀ l, H l = none → Q (.ref l) (upd H l (.tup ys))) ∨ (SqT X.K H p ys ∧ Q (.ref p) H))) := fun m st H Q xs vs w rx hw => by
  rcases hw with ⟨d, e, q⟩ | ⟨o, e, q⟩
  · match xs, rx, e with
    | [.tup ds], rx, e =>
      obtain ⟨v, rfl, r⟩ := rx.one
      cases e
      cases r with
      | tup hb rb => exact ⟨_, _, rfl, .inr ⟨SqT.of hb, q.same w (.tup hb rb)⟩⟩
    | [.ref n], rx, e =>
      obtain ⟨v, rfl, r⟩ := rx.one
      have e' : (Py.lstAt st n).map D.tup = some d := e
      cases e0 : Py.lstAt st n with
      | none => rw [e0] at e'; cases e'
      | some ds =>
        rw [e0] at e'
        cases e'
        cases r
        obtain ⟨us, h1, h2, _⟩ := w.lstAt e0
        exact ⟨_, us, rfl, .inl ⟨h1, fun l hl => q.tup w hl h2⟩⟩
  · unfold biO at e
    split at e <;> first | contradiction | cases e
/-! ### sorted ints -/
theorem ins1_perm (x : Int) : ∀ l : List Int, (ins1 x l).Perm (x :: l)
  | [] => List.Perm.refl _
  | y :: ys => by
    unfold ins1
    split
    · exact List.Perm.refl _
    · exact ((ins1_perm x ys).cons y).trans (List.Perm.swap x y ys)
theorem isort_perm : ∀ l : List Int, (isort l).Perm l
  | [] => List.Perm.refl _
  | x :: xs => (ins1_perm x (isort xs)).trans ((isort_perm xs).cons x)
theorem ins1_sorted (x : Int) : ∀ l : List Int, l.Pairwise (· ≤ ·) → (ins1 x l).Pairwise (· ≤ ·)
  | [], _ => List.pairwise_singleton _ _
  | y :: ys, h => by
    unfold ins1
    split
    · rename_i c
      refine List.pairwise_cons.mpr ⟨fun z hz => ?_, h⟩
      rcases List.mem_cons.mp hz with e | hz
      · rw [e]; exact c
      · exact Int.le_trans c ((List.pairwise_cons.mp h).1 z hz)
    · rename_i c
      refine List.pairwise_cons.mpr ⟨fun z hz => ?_, ins1_sorted x ys (List.pairwise_cons.mp h).2⟩
      rcases List.mem_cons.mp ((ins1_perm x ys).mem_iff.mp hz) with e | hz
      · rw [e]; omega
      · exact (List.pairwise_cons.mp h).1 z hz
theorem isort_sorted : ∀ l : List Int, (isort l).Pairwise (· ≤ ·)
  | [] => List.Pairwise.nil
  | x :: xs => ins1_sorted x _ (isort_sorted xs)
theorem bi_sorted {rp : P → Sx} : BiOk X T rp .sorted (rSorted X.K) := fun m st H Q xs vs w rx hw => by
  rcases hw with ⟨d, e, q⟩ | ⟨o, e, q⟩
  · unfold biD at e
    split at e <;> first | contradiction | cases e
  · match xs, rx, e with
    | [.ref n], rx, e =>
      obtain ⟨v, rfl, r⟩ := rx.one
      cases r
      simp only [biO] at e
      cases e0 : Py.lstAt st n with
      | none => rw [e0] at e; cases e
      | some ds =>
        rw [e0] at e
        obtain ⟨us, h1, h2, _⟩ := w.lstAt e0
        cases e1 : allInts ds with
        | none => simp only [Option.bind_some, e1, Option.bind_none] at e; cases e
        | some is =>
          simp only [Option.bind_some, e1] at e
          split at e
          · rename_i c
            cases e
            have e2 := allInts_rp e1 h2
            subst e2
            refine ⟨_, is, rfl, h1, c, fun ns' p pm so hp => ?_⟩
            have e3 : ns' = isort is := (pm.trans (isort_perm is).symm).eq_of_pairwise (fun a b _ _ h1 h2 => Int.le_antisymm h1 h2) so (isort_sorted is)
            subst e3
            refine q.lst w hp ?_
            have go : ∀ l : List Int, RpA X.K T m st.length H (l.map D.int) (l.map V.int) := fun l => by
              induction l with
              | nil => exact .nil
              | cons a l ih => exact .cons (.int a) ih
            exact go _
          · cases e
end
end Py
end
section
set_option Elab.async false
set_option linter.all false
set_option maxRecDepth 100000
set_option maxHeartbeats 2000000
namespace Py
open PySem PySem.Spec L2 PyProof.Rows
section
variable {K : PySem.W.Frag} {T : Tab} {C : Py.Cx} {X : L2.Cx}
def BmOk (X : L2.Cx) (T : Tab) (b : Bm) (r : V → List V → Hp → VK → Prop) : Prop :=
  ∀ (m : Nat → Addr) (st : Sto) (H : Hp) (Q : VK) (x : D) (xs : List D) (v : V) (vs : List V) (z : D × Sto), Wd X.K T m st H → Rp X.K T m st.length H x v → RpA X.K T m st.length H xs vs → bmD st b x xs = some z → KD X.K T m st.length H Q z.1 z.2 → r v vs H Q
theorem rcv_list {m : Nat → Addr} {st : Sto} {H : Hp} {x : D} {v : V} {b : Bm} (w : Wd K T m st H) (r : Rp K T m st.length H x v) (hb : dctM b = false) (h : rcvOk st x b = true) : tyV K "list" v H := by
  unfold rcvOk at h
  rw [hb, if_neg (by decide)] at h
  cases r with
  | @ref n hn =>
    simp only [lstRcv] at h
    cases e : Py.lstAt st n with
    | none => rw [e] at h; cases h
    | some ys =>
      obtain ⟨us, h1, _⟩ := w.lstAt e
      exact .inl ⟨rfl, us, h1⟩
  | _ => cases h
/-- a method of a list -/
theorem se_bm {b : Bm} {r : V → List V → Hp → VK → Prop} {o e : Expr} {es : List Expr} {eo : E} {eas : Es} {name : Str} {apos cpos : Pos} {id : String} (hC : C.Mono) (slot : Slot "list" name id) (hty : typeOf (.builtin id) = pure (.type "method_descriptor")) (hm : MtR X id r) (hb : BmOk X T b r)
    (hbl : dctM b = false) (ho : PE X o (tE X.K T C eo)) (ha : PA X (e :: es) (tA X.K T C eas))
    (hbase : attributeBase o name X.env (eval o X.env) = eval o X.env := by rfl)
    (hfew : ((backTo cpos (starEach (e :: es) X.env)).all (fun x => !x.1) && (backToKw cpos (keywordEach [] X.env)).all (fun x => x.1.isSome)
      && decide ((e :: es).length + ([] : List Keyword).length + (if ([] : List Keyword).isEmpty then 0 else 1) < 30)) = true := by rfl)
    (hline : (apos.endLine == cpos.line) = true := by rfl) (hs : starEach (e :: es) X.env = (false, eval e X.env) :: starEach es X.env := by rfl) (hplain : (backTo cpos (starEach es X.env)).any (·.1) = false := by rfl) :
    PE X (.Call (.Attribute o name apos) (e :: es) [] cpos) (tE X.K T C (.bm b eo eas)) :=
  (pe_bm PySem.F.plainAttrs_list slot hty hm ho ha hbase hfew hline hs hplain).imp fun σ H Q ⟨env, st, m, er, w, h⟩ => by
    unfold We at h
    refine tE.go hC er w h fun x st1 m1 H1 v h1 w1 g1 r1 => ⟨rcv_list w1 r1 hbl h1.1, ?_⟩
    refine tA.go hC (er.gr g1) w1 h1.2 fun xs st2 m2 H2 vs h2 w2 g2 r2 => ?_
    obtain ⟨z, e1, q⟩ := h2
    exact hb m2 st2 H2 Q x xs v vs z w2 (r1.gr g2) r2 e1 (KD.gr (g1.trans g2) q)
theorem se_bm0 {b : Bm} {r : V → List V → Hp → VK → Prop} {o : Expr} {eo : E} {name : Str} {apos cpos : Pos} {id : String} (hC : C.Mono) (slot : Slot "list" name id) (hty : typeOf (.builtin id) = pure (.type "method_descriptor")) (hm : MtR X id r) (hb : BmOk X T b r)
    (hbl : dctM b = false) (ho : PE X o (tE X.K T C eo))
    (hbase : attributeBase o name X.env (eval o X.env) = eval o X.env := by rfl) (hline : (apos.endLine == cpos.line) = true := by rfl) :
    PE X (.Call (.Attribute o name apos) [] [] cpos) (tE X.K T C (.bm b eo .nil)) :=
  (pe_bm0 PySem.F.plainAttrs_list slot hty hm ho hbase hline).imp fun σ H Q ⟨env, st, m, er, w, h⟩ => by
    unfold We at h
    refine tE.go hC er w h fun x st1 m1 H1 v h1 w1 g1 r1 => ⟨rcv_list w1 r1 hbl h1.1, ?_⟩
    obtain ⟨h1, h2⟩ := h1
    unfold Wes at h2
    obtain ⟨z, e1, q⟩ := h2
    exact hb m1 st1 H1 Q x [] v [] z w1 r1 .nil e1 (KD.gr g1 q)
theorem bm_append : BmOk X T .append rAppend := fun m st H Q x xs v vs z w rx rs e q => by
  match x, xs, rx, rs, e with
  | .ref n, [y], rx, rs, e =>
    obtain ⟨u, rfl, ru⟩ := rs.one
    cases rx
    simp only [bmD] at e
    cases e0 : st[n]? with
    | none => rw [e0] at e; cases e
    | some o =>
      rw [e0] at e
      cases o with
      | lst ys =>
        simp only at e
        split at e
        · rename_i c
          cases e
          obtain ⟨us, h1, h2⟩ := w.obj n _ e0
          refine ⟨_, us, u, rfl, rfl, h1, by rw [← h2.length, ← LINE_eq]; exact c, ?_⟩
          exact KD.put q w e0 trivial trivial .non fun g => ⟨_, upd_same, (h2.append (.cons ru .nil)).gr g⟩
        · cases e
      | _ => cases e
theorem getLast_rp {m : Nat → Addr} {n : Nat} {H : Hp} {ds : List D} {vs : List V} {d : D} (r : RpA K T m n H ds vs) (h : ds.getLast? = some d) : ∃ v, vs[vs.length - 1]? = some v ∧ Rp K T m n H d v := by
  rw [List.getLast?_eq_getElem?, r.length] at h
  exact r.get h
theorem bm_pop : BmOk X T .pop rPop := fun m st H Q x xs v vs z w rx rs e q => by
  match x, xs, rx, rs, e with
  | .ref n, [], rx, rs, e =>
    cases rs
    cases rx
    simp only [bmD] at e
    cases e0 : st[n]? with
    | none => rw [e0] at e; cases e
    | some o =>
      rw [e0] at e
      cases o with
      | lst ys =>
        simp only at e
        cases e1 : ys.getLast? with
        | none => rw [e1] at e; cases e
        | some d =>
          rw [e1] at e
          cases e
          obtain ⟨us, h1, h2⟩ := w.obj n _ e0
          obtain ⟨u, h3, ru⟩ := getLast_rp h2 e1
          refine ⟨_, us, u, rfl, rfl, h1, h3, ?_⟩
          exact KD.put q w e0 trivial trivial ru fun g => ⟨_, upd_same, h2.dropLast.gr g⟩
      | _ => cases e
theorem atN_seq {n : Nat} {i : Int} {j : Nat} (h : atN n i = some j) : seqIndex? i n = some j ∧ -(n : Int) ≤ i ∧ i < n := by
  rw [atN_eq] at h
  obtain ⟨a, _, c, d⟩ := ixN_seq h
  exact ⟨a, c, d⟩
theorem bm_popAt : BmOk X T .popAt rPopAt := fun m st H Q x xs v vs z w rx rs e q => by
  match x, xs, rx, rs, e with
  | .ref n, [.int i], rx, rs, e =>
    obtain ⟨u, rfl, ru⟩ := rs.one
    cases ru
    cases rx
    simp only [bmD] at e
    cases e0 : st[n]? with
    | none => rw [e0] at e; cases e
    | some o =>
      rw [e0] at e
      cases o with
      | lst ys =>
        simp only at e
        cases e1 : atN ys.length i with
        | none => rw [e1] at e; cases e
        | some j =>
          rw [e1] at e
          simp only at e
          split at e
          case isFalse => cases e
          rename_i cc
          cases e2 : ys[j]? with
          | none => rw [e2] at e; cases e
          | some d =>
            rw [e2] at e
            cases e
            obtain ⟨us, h1, h2⟩ := w.obj n _ e0
            obtain ⟨u, h3, ru⟩ := h2.get e2
            obtain ⟨a, c, d'⟩ := atN_seq e1
            rw [h2.length] at a
            refine ⟨_, us, i, j, u, rfl, rfl, h1, by omega, by omega, a, h3, ?_⟩
            exact KD.put q w e0 trivial trivial ru fun g => ⟨_, upd_same, (h2.eraseIdx j).gr g⟩
      | _ => cases e
theorem bm_extend : BmOk X T .extend rExtend := fun m st H Q x xs v vs z w rx rs e q => by
  match x, xs, rx, rs, e with
  | .ref n, [.ref k], rx, rs, e =>
    obtain ⟨u, rfl, ru⟩ := rs.one
    cases ru
    cases rx
    simp only [bmD] at e
    split at e
    · rename_i ys zs e0 e1
      split at e
      · rename_i c
        cases e
        obtain ⟨us, h1, h2⟩ := w.obj n _ e0
        obtain ⟨ws, h3, h4⟩ := w.obj k _ e1
        refine ⟨_, _, us, ws, rfl, rfl, h1, h3, by rw [← h2.length, ← h4.length, ← LINE_eq]; exact c, ?_⟩
        exact KD.put q w e0 trivial trivial .non fun g => ⟨_, upd_same, (h2.append h4).gr g⟩
      · cases e
    · cases e
/-! ### d.get -/
theorem rcv_dict {m : Nat → Addr} {st : Sto} {H : Hp} {x : D} {v : V} {b : Bm} (w : Wd K T m st H) (r : Rp K T m st.length H x v) (hb : dctM b = true) (h : rcvOk st x b = true) : ∃ a, v = .ref a ∧ IsD H a := by
  unfold rcvOk at h
  rw [hb, if_pos rfl] at h
  cases r with
  | @ref n hn =>
    simp only [dctRcv] at h
    split at h
    · rename_i kvs e
      obtain ⟨ws, h1, _⟩ := w.obj n _ e
      exact ⟨_, rfl, .inl ⟨ws, .inl h1⟩⟩
    · rename_i kvs e
      obtain ⟨ws, h1, _⟩ := w.obj n _ e
      exact ⟨_, rfl, .inr ⟨ws, .inl h1⟩⟩
    · cases h
  | _ => cases h
theorem se_get1 {o e : Expr} {eo ee : E} {apos cpos : Pos} (hC : C.Mono) (hu : X.A.units + 65 < cLine) (ho : PE X o (tE X.K T C eo)) (he : PE X e (tE X.K T C ee)) (mm : M1 X o "get" apos e cpos) :
    PE X (.Call (.Attribute o "get" apos) [e] [] cpos) (tE X.K T C (.bm .get1 eo (.cons ee .nil))) := (pe_dget1 (by omega) ho he mm).imp fun σ H Q ⟨env, st, m, er, w, h⟩ => by
  unfold We at h
  refine tE.go hC er w h fun x st1 m1 H1 v h1 w1 g1 r1 => ?_
  obtain ⟨h1, h2⟩ := h1
  obtain ⟨a, ea, hd⟩ := rcv_dict w1 r1 rfl h1
  refine ⟨a, ea, hd, ?_⟩
  unfold Wes at h2
  refine tE.go hC (er.gr g1) w1 h2 fun y st2 m2 H2 u h2 w2 g2 r2 => ?_
  unfold Wes at h2
  obtain ⟨z, e1, q⟩ := h2
  have r1' := r1.gr g2
  cases x with
  | ref n =>
    simp only [bmD] at e1
    cases e0 : st2[n]? with
    | none => rw [e0] at e1; cases e1
    | some ob =>
      rw [e0] at e1
      simp only at e1
      cases e3 : getO ob y with
      | none => rw [e3] at e1; cases e1
      | some r =>
        rw [e3] at e1
        cases e1
        cases r1'
        obtain ⟨rv, g, hs, g4⟩ := getO_rel w2 e0 r2 e3
        cases ea
        refine ⟨rv, g, ?_⟩
        cases r with
        | none =>
          have : rv = none := by
            cases rv with
            | none => rfl
            | some z => exact absurd hs (by simp)
          subst this
          exact (KD.gr (g1.trans g2) q).same w2 .non
        | some d =>
          obtain ⟨z, rfl, r3⟩ := g4 d rfl
          exact (KD.gr (g1.trans g2) q).same w2 r3
  | _ => cases e1
theorem se_get2 {o e f : Expr} {eo ee ef : E} {apos cpos : Pos} (hC : C.Mono) (hu : X.A.units + 65 < cLine) (ho : PE X o (tE X.K T C eo)) (he : PE X e (tE X.K T C ee)) (hf : PE X f (tE X.K T C ef)) (mm : M2 X o "get" apos e f cpos) :
    PE X (.Call (.Attribute o "get" apos) [e, f] [] cpos) (tE X.K T C (.bm .get2 eo (.cons ee (.cons ef .nil)))) := (pe_dget2 (by omega) ho he hf mm).imp fun σ H Q ⟨env, st, m, er, w, h⟩ => by
  unfold We at h
  refine tE.go hC er w h fun x st1 m1 H1 v h1 w1 g1 r1 => ?_
  obtain ⟨h1, h2⟩ := h1
  obtain ⟨a, ea, hd⟩ := rcv_dict w1 r1 rfl h1
  refine ⟨a, ea, hd, ?_⟩
  unfold Wes at h2
  refine tE.go hC (er.gr g1) w1 h2 fun y st2 m2 H2 u h2 w2 g2 r2 => ?_
  unfold Wes at h2
  refine tE.go hC ((er.gr g1).gr g2) w2 h2 fun y3 st3 m3 H3 u3 h3 w3 g3 r3 => ?_
  unfold Wes at h3
  obtain ⟨z, e1, q⟩ := h3
  have r1' := (r1.gr g2).gr g3
  cases x with
  | ref n =>
    simp only [bmD] at e1
    cases e0 : st3[n]? with
    | none => rw [e0] at e1; cases e1
    | some ob =>
      rw [e0] at e1
      simp only at e1
      cases e3 : getO ob y with
      | none => rw [e3] at e1; cases e1
      | some r =>
        rw [e3] at e1
        cases e1
        cases r1'
        obtain ⟨rv, g, hs, g4⟩ := getO_rel w3 e0 (r2.gr g3) e3
        cases ea
        refine ⟨rv, g, ?_⟩
        cases r with
        | none =>
          have : rv = none := by
            cases rv with
            | none => rfl
            | some z => exact absurd hs (by simp)
          subst this
          exact (KD.gr ((g1.trans g2).trans g3) q).same w3 r3
        | some d =>
          obtain ⟨z, rfl, r5⟩ := g4 d rfl
          exact (KD.gr ((g1.trans g2).trans g3) q).same w3 r5
  | _ => cases e1
end
end Py
end
section
set_option Elab.async false
set_option linter.all false
set_option maxRecDepth 100000
set_option maxHeartbeats 2000000
namespace Py
open PySem PySem.Spec L2 PyProof.Rows
section
variable {K : PySem.W.Frag} {T : Tab} {C : Py.Cx} {X : L2.Cx}
/-! ### what is walked -/
/-- J walks the items xs, as long as the lists of live stand -/
def WalkD (K : PySem.W.Frag) (T : Tab) (J : It) (live : List (Nat × List D)) (xs : List D) (m1 : Nat → Addr) (n1 : Nat) (H1 : Hp) : Prop :=
  ∃ (G : Hp → Prop) (Y : Nat → Hp → V → Hp → Prop), Walk J xs.length G Y ∧ ∀ m st H, Wd K T m st H → Gr K m1 n1 H1 m st.length H → Live st live →
    G H ∧ ∀ i v H', i < xs.length → Y i H v H' → ∃ d, xs[i]? = some d ∧ Wd K T m st H' ∧ Gr K m st.length H m st.length H' ∧ Rp K T m st.length H' d v
def tI (K : PySem.W.Frag) (T : Tab) (C : Py.Cx) (it : I) : TI := fun σ H R => ∃ env st m, EnvR K T m st.length H env σ ∧ Wd K T m st H ∧ Wi C it env st fun live xs st1 => ∀ m1 H1, Wd K T m1 st1 H1 → Gr K m st.length H m1 st1.length H1 →
  ∀ J, WalkD K T J live xs m1 st1.length H1 → R J H1
theorem walkD_list {m : Nat → Addr} {st : Sto} {H : Hp} {n : Nat} {xs : List D} (w : Wd K T m st H) (h : Py.lstAt st n = some xs) : WalkD K T (Itl K (m n)) [(n, xs)] xs m st.length H := by
  obtain ⟨vs0, _, _, lt⟩ := w.lstAt h
  refine ⟨fun H => ∃ vs, SqL K H (m n) vs ∧ vs.length = xs.length, fun i H x H' => H' = H ∧ ∀ vs, SqL K H (m n) vs → vs[i]? = some x, ⟨fun i H hi ⟨vs, h1, h2⟩ => ⟨vs, vs[i]'(by omega), h1, by simp⟩, fun H ⟨vs, h1, h2⟩ => ⟨vs, h1, by omega⟩, fun i H x H' _ _ y => y⟩, fun m2 st2 H2 w2 g2 lv => ?_⟩
  obtain ⟨us, h1, h2, _⟩ := w2.lstAt (lv (n, xs) List.mem_cons_self)
  have e : m2 n = m n := g2.ag n lt
  rw [e] at h1
  refine ⟨⟨us, h1, h2.length.symm⟩, fun i v H' hi ⟨e1, e2⟩ => ?_⟩
  subst e1
  obtain ⟨u, h3, h4⟩ := h2.get (List.getElem?_eq_getElem hi)
  rw [e2 us h1] at h3
  cases h3
  exact ⟨_, List.getElem?_eq_getElem hi, w2, Gr.refl, h4⟩
theorem walkD_tup {m : Nat → Addr} {st : Sto} {H : Hp} {a : Addr} {vs : List V} {xs : List D} (hb : H a = some (.tup vs)) (r : RpA K T m st.length H xs vs) : WalkD K T (Itt K a) [] xs m st.length H := by
  refine ⟨fun H => H a = some (.tup vs), fun i H x H' => H' = H ∧ vs[i]? = some x, ⟨fun i H hi h => ⟨vs, vs[i]'(by have := r.length; omega), SqT.of h, by simp⟩, fun H h => ⟨vs, SqT.of h, by have := r.length; omega⟩, fun i H x H' _ h y => ⟨y.1, y.2 vs (SqT.of h)⟩⟩, fun m2 st2 H2 w2 g2 lv => ?_⟩
  refine ⟨g2.tk a vs hb, fun i v H' hi ⟨e1, e2⟩ => ?_⟩
  subst e1
  obtain ⟨u, h3, h4⟩ := (r.gr g2).get (List.getElem?_eq_getElem hi)
  rw [e2] at h3
  cases h3
  exact ⟨_, List.getElem?_eq_getElem hi, w2, Gr.refl, h4⟩
theorem walkD_gt {m : Nat → Addr} {st : Sto} {H : Hp} {a : Addr} {vs : List V} {xs : List D} (hb : ∀ H', SqT K H' a vs) (r : RpA K T m st.length H xs vs) : WalkD K T (Itt K a) [] xs m st.length H := by
  refine ⟨fun H => True, fun i H x H' => H' = H ∧ vs[i]? = some x, ⟨fun i H hi h => ⟨vs, vs[i]'(by have := r.length; omega), hb H, by simp⟩, fun H h => ⟨vs, hb H, by have := r.length; omega⟩, fun i H x H' _ h y => ⟨y.1, y.2 vs (hb H)⟩⟩, fun m2 st2 H2 w2 g2 lv => ?_⟩
  refine ⟨trivial, fun i v H' hi ⟨e1, e2⟩ => ?_⟩
  subst e1
  obtain ⟨u, h3, h4⟩ := (r.gr g2).get (List.getElem?_eq_getElem hi)
  rw [e2] at h3
  cases h3
  exact ⟨_, List.getElem?_eq_getElem hi, w2, Gr.refl, h4⟩
theorem walkD_str {m : Nat → Addr} {st : Sto} {H : Hp} {s : Sx} (ok : OkS s) : WalkD K T (Its (tx s)) [] (s.map fun c => D.str [c]) m st.length H := by
  have hl : (s.map fun c => D.str [c]).length = (tx s).cps.size := by rw [List.length_map]; simp [tx]
  refine ⟨fun _ => True, fun i H v H' => H' = H ∧ ∃ c, (tx s).cps[i]? = some c ∧ v = .str ⟨#[c]⟩, by rw [hl]; exact walk_str, fun m2 st2 H2 w2 g2 lv => ⟨trivial, fun i v H' hi y => ?_⟩⟩
  obtain ⟨e1, c, e2, e3⟩ := y
  subst e1 e3
  have e4 : s[i]? = some c := by simpa [tx] using e2
  exact ⟨.str [c], by rw [List.getElem?_map, e4]; rfl, w2, Gr.refl, .str [c] (ok.sub (List.singleton_sublist.mpr (List.mem_of_getElem? e4)))⟩
theorem walkD_range {m : Nat → Addr} {st : Sto} {H : Hp} {lo : Int} {n : Nat} : WalkD K T (Itr lo n) [] ((List.range n).map fun (k : Nat) => D.int (lo + k)) m st.length H := by
  refine ⟨fun _ => True, fun i H v H' => H' = H ∧ v = .int (lo + (i : Nat)), by rw [List.length_map, List.length_range]; exact walk_range, fun m2 st2 H2 w2 g2 lv => ⟨trivial, fun i v H' hi y => ?_⟩⟩
  obtain ⟨e1, e2⟩ := y
  subst e1 e2
  rw [List.length_map, List.length_range] at hi
  exact ⟨.int (lo + i), by rw [List.getElem?_map, List.getElem?_range hi]; rfl, w2, Gr.refl, .int _⟩
theorem it_list {pins : List (Addr × Obj)} {σ : L2.St} {H : Hp} {s : Shared} {R : It → Hp → Prop} {tg : Expr} {a : Addr} {vs : List V} (I : Inv X pins σ H s) (h : SqL X.K H a vs) (q : R (Itl X.K a) H) : wpAny (model X.prog X.w) X.A (pyIter (.ref a)) (PIE X pins σ tg R) X.xe s := by
  obtain ⟨its, _, pl, _⟩ := I.list h
  have J : ∀ o : Obj, Inv X pins σ H { s with heap := s.heap.push o } := fun o => I.kept (t' := s.toks) fun b u e => Heap.get?_push_of_some _ e
  refine wpAny_pyIter_list pl.isList ⟨s.heap.objs.size, [s.heap.objs.size], _, _, H, rfl, J _, turn_list a _, ⟨_, Heap.get?_push_size _ rfl, rfl, rfl⟩, ?_, q⟩
  intro b hb
  rw [List.mem_singleton.mp hb]
  exact I.fpOk (Nat.le_refl _) (I.hok.fresh (Nat.le_refl _))
theorem it_tup {pins : List (Addr × Obj)} {σ : L2.St} {H : Hp} {s : Shared} {R : It → Hp → Prop} {tg : Expr} {a : Addr} {vs : List V} (I : Inv X pins σ H s) (h : SqT X.K H a vs) (q : R (Itt X.K a) H) : wpAny (model X.prog X.w) X.A (pyIter (.ref a)) (PIE X pins σ tg R) X.xe s := by
  obtain ⟨its, _, pl, _⟩ := I.tuple h
  have J : ∀ o : Obj, Inv X pins σ H { s with heap := s.heap.push o } := fun o => I.kept (t' := s.toks) fun b u e => Heap.get?_push_of_some _ e
  refine wpAny_pyIter_tuple (show s.heap.IsTuple a its.toArray from pl) ⟨s.heap.objs.size, [s.heap.objs.size], _, _, H, rfl, J _, turn_tuple a _, ⟨_, Heap.get?_push_size _ rfl, rfl, rfl⟩, ?_, q⟩
  intro b hb
  rw [List.mem_singleton.mp hb]
  exact I.fpOk (Nat.le_refl _) (I.hok.fresh (Nat.le_refl _))
/-- a text, by the rule for an expression that tells it -/
theorem si_str {tg e : Expr} {ea : E} (hC : C.Mono) (ha : PE X e (tE X.K T C ea)) : PI X tg e (fun σ H R => tE X.K T C ea σ H fun v H1 => ∃ z, v = .str z ∧ R (Its z) H1) := pi_str ha
theorem si_seq {tg e : Expr} {ea : E} (hC : C.Mono) (ha : PE X e (tE X.K T C ea)) : PI X tg e (tI X.K T C (.seq ea)) := by
  refine ⟨fun pins s σ H R I ⟨env, st, m, er, w, h⟩ => ?_⟩
  unfold Wi at h
  have t : tE X.K T C ea σ H fun v H1 => (∃ a, v = .ref a ∧ ∃ vs, SqL X.K H1 a vs ∧ R (Itl X.K a) H1) ∨ (∃ a, v = .ref a ∧ ∃ vs, SqT X.K H1 a vs ∧ R (Itt X.K a) H1) := by
    refine tE.go hC er w h fun x st1 m1 H1 v h1 w1 g1 r1 => ?_
    cases x with
    | tup xs =>
      cases r1 with
      | tup hb rb => exact .inr ⟨_, rfl, _, SqT.of hb, h1 m1 H1 w1 g1 _ (walkD_tup hb rb)⟩
    | gt xs =>
      cases r1 with
      | gt hb rb => exact .inr ⟨_, rfl, _, hb _, h1 m1 H1 w1 g1 _ (walkD_gt hb rb)⟩
    | ref n =>
      obtain ⟨xs, e1, q⟩ := h1
      cases r1
      obtain ⟨vs, e2, _, _⟩ := w1.lstAt e1
      exact .inl ⟨_, rfl, vs, e2, q m1 H1 w1 g1 _ (walkD_list w1 e1)⟩
    | _ => exact (show False from h1).elim
  refine thn (ha.run pins s σ H _ I t) fun u s1 ⟨v, H1, I1, r1, q⟩ => ?_
  rcases q with ⟨a, rfl, vs, h1, q⟩ | ⟨a, rfl, vs, h1, q⟩
  · cases r1
    exact it_list I1 h1 q
  · cases r1
    exact it_tup I1 h1 q
/-- over the signs of a text -/
theorem si_sgn {tg e : Expr} {ea : E} (hC : C.Mono) (ha : PE X e (tE X.K T C ea)) : PI X tg e (tI X.K T C (.sgn ea)) := (pi_str ha).imp fun σ H R ⟨env, st, m, er, w, h⟩ => by
  unfold Wi at h
  refine tE.go hC er w h fun x st1 m1 H1 v h1 w1 g1 r1 => ?_
  obtain ⟨s, rfl, q⟩ := h1
  cases r1 with
  | str _ ok => exact ⟨tx s, rfl, q m1 H1 w1 g1 _ (walkD_str ok)⟩
theorem si_rng1 {tg a : Expr} {ea : E} {p pos : Pos} (hC : C.Mono) (hg : Gl X "range") (hm : X.mg "range" = none) (ha : PE X a (tE X.K T C ea)) (hs : starEach [a] X.env = [(false, eval a X.env)] := by rfl) :
    PI X tg (.Call (.Name "range" p) [a] [] pos) (tI X.K T C (.rng1 ea)) := (pi_range1 hg hm (pa_cons ha pa_nil hs) hs).imp fun σ H R ⟨env, st, m, er, w, h⟩ => by
  unfold Wi at h
  refine tE.go hC er w h fun x st1 m1 H1 v h1 w1 g1 r1 => ?_
  obtain ⟨j, rfl, h2, h3, q⟩ := h1
  cases r1
  refine ⟨j, rfl, h2, h3, q m1 H1 w1 g1 _ ?_⟩
  have e : (List.range j.toNat).map (fun (i : Nat) => D.int i) = (List.range j.toNat).map fun (k : Nat) => D.int ((0 : Int) + k) := by
    apply List.map_congr_left
    intro k _
    rw [Int.zero_add]
  rw [e]
  exact walkD_range
theorem si_rng2 {tg a b : Expr} {ea eb : E} {p pos : Pos} (hC : C.Mono) (hg : Gl X "range") (hm : X.mg "range" = none) (ha : PE X a (tE X.K T C ea)) (hb : PE X b (tE X.K T C eb)) (hs : starEach [a, b] X.env = [(false, eval a X.env), (false, eval b X.env)] := by rfl)
    (hs2 : starEach [b] X.env = [(false, eval b X.env)] := by rfl) (hs3 : starEach [a, b] X.env = (false, eval a X.env) :: starEach [b] X.env := by rfl) (hs4 : starEach [b] X.env = (false, eval b X.env) :: starEach [] X.env := by rfl) :
    PI X tg (.Call (.Name "range" p) [a, b] [] pos) (tI X.K T C (.rng2 ea eb)) := (pi_range2 hg hm (pa_cons ha (pa_cons hb pa_nil hs4) hs3) hs hs2).imp fun σ H R ⟨env, st, m, er, w, h⟩ => by
  unfold Wi at h
  refine tE.go hC er w h fun x st1 m1 H1 v h1 w1 g1 r1 => tE.go hC (er.gr g1) w1 h1 fun y st2 m2 H2 u h2 w2 g2 r2 => ?_
  obtain ⟨i, j, rfl, rfl, hb, q⟩ := h2
  cases r1
  cases r2
  exact ⟨i, j, rfl, hb, q m2 H2 w2 (g1.trans g2) _ walkD_range⟩
end
end Py
end
section
set_option Elab.async false
set_option linter.all false
set_option maxRecDepth 100000
set_option maxHeartbeats 2000000
namespace Py
open PySem PySem.Spec L2 PyProof.Rows
section
variable {K : PySem.W.Frag} {T : Tab} {C : Py.Cx} {X : L2.Cx}
/-! ### targets -/
theorem sg_nm {i : Nat} {x : Str} {pos : Pos} (hN : X.N.Nodup) (hi : X.N[i]? = some x) (hx : Loc X.env.scope x) (hf : X.fn x = true ∨ X.env.scope.names.lookup x = some .local) : PG X (.Name x pos) (tG X.K T C (.nm i)) :=
  (pg_name hN hi hx hf).imp fun v σ H Q ⟨d, env, st, m, rd, er, w, h⟩ => by
    unfold Wg at h
    exact h m _ H (er.set rd) w Gr.refl Out.set
theorem sgs_nil : PGs X [] (tGs X.K T C .nil) := pgs_nil.imp fun vs σ H Q ⟨ds, env, st, m, rs, er, w, h⟩ => by
  unfold Wgs at h
  obtain ⟨rfl, h⟩ := h
  cases rs
  exact ⟨rfl, h m σ H er w Gr.refl Out.refl⟩
theorem sgs_cons {e : Expr} {es : List Expr} {g : G} {gs : Gs} (hC : C.Mono) (h1 : PG X e (tG X.K T C g)) (h2 : PGs X es (tGs X.K T C gs))
    (hs : (assignEach (e :: es) X.env).map (·.2) = assign e X.env :: (assignEach es X.env).map (·.2) := by rfl) : PGs X (e :: es) (tGs X.K T C (.cons g gs)) := (pgs_cons h1 h2 hs).imp fun vs σ H Q ⟨ds, env, st, m, rs, er, w, h⟩ => by
  unfold Wgs at h
  obtain ⟨y, ys, rfl, h⟩ := h
  cases rs with
  | cons r rr =>
    refine ⟨_, _, rfl, tG.go hC r er w h fun env1 st1 m1 σ1 H1 q1 e1 w1 g1 o1 => ?_⟩
    refine tGs.go hC (rr.gr g1) e1 w1 q1 fun env2 st2 m2 σ2 H2 q2 e2 w2 g2 o2 => ?_
    exact q2 m2 σ2 H2 e2 w2 (g1.trans g2) ((o1.mono fun i hi => List.mem_append_left _ hi).trans (o2.mono fun i hi => List.mem_append_right _ hi))
theorem sg_tup {es : List Expr} {k : Nat} {gs : Gs} {pos : Pos} (hc : X.calm = true) (h : PGs X es (tGs X.K T C gs)) (hn : (assignEach es X.env).length = gsLen gs := by rfl) (hst : (assignEach es X.env).findIdx? (·.1) = none := by rfl) :
    PG X (.Tuple es k pos) (tG X.K T C (.tup gs)) := (pg_tup hc h hn hst).imp fun v σ H Q ⟨d, env, st, m, rd, er, w, h⟩ => by
  unfold Wg at h
  obtain ⟨xs, ed, hl, h⟩ := h
  rcases ed with rfl | rfl
  · cases rd with
    | tup hb rb => exact ⟨_, _, rfl, SqT.of hb, by rw [← rb.length]; exact hl, xs, env, st, m, rb, er, w, h⟩
  · cases rd with
    | gt hb rb => exact ⟨_, _, rfl, hb _, by rw [← rb.length]; exact hl, xs, env, st, m, rb, er, w, h⟩
theorem putO_rel {m : Nat → Addr} {st : Sto} {H : Hp} {i : Nat} {o o' : O} {k d : D} {v u : V} (w : Wd K T m st H) (hi : st[i]? = some o) (rk : Rp K T m st.length H k v) (rd : Rp K T m st.length H d u) (h : putO o k d = some o') :
    ∃ ob, DPut H (m i) v u (upd H (m i) ob) ∧ Muts o ∧ Muts o' ∧ (Gr K m st.length H m st.length (upd H (m i) ob) → RpO K T m st.length (upd H (m i) ob) o' (m i)) := by
  have ro := w.obj i o hi
  cases o with
  | dk kvs =>
    obtain ⟨ws, e, rr⟩ := ro
    have h' : ((kyOf k).bind fun k => if kvs.length < LINE then some (O.dk (dPut kvs k d)) else none) = some o' := h
    cases e1 : kyOf k with
    | none => rw [e1] at h'; cases h'
    | some q =>
      rw [e1, Option.bind_some] at h'
      split at h'
      · rename_i hl
        cases h'
        have ev := kv_rp e1 rk
        subst ev
        refine ⟨_, DPut.k (k := ky q) e (by rw [← rr.length, ← LINE_eq]; exact hl), trivial, trivial, fun g => ⟨_, upd_same, (put_rel (fun a b => ky_inj) q rd rr).gr g⟩⟩
      · cases h'
  | dt kvs =>
    obtain ⟨ws, e, rr⟩ := ro
    have h' : ((kysOf k).bind fun k => if kvs.length < LINE then some (O.dt (dPut kvs k d)) else none) = some o' := h
    cases e1 : kysOf k with
    | none => rw [e1] at h'; cases h'
    | some q =>
      rw [e1, Option.bind_some] at h'
      split at h'
      · rename_i hl
        cases h'
        cases rk with
        | @tup b vs ds hb rb =>
          have ev := kvs_rp (show omap kyOf ds = some q from e1) rb
          subst ev
          refine ⟨_, DPut.t (k := q.map ky) e hb (by rw [← rr.length, ← LINE_eq]; exact hl), trivial, trivial, fun g => ⟨_, upd_same, (put_rel (fun a b => kys_inj) q rd rr).gr g⟩⟩
        | _ => cases e1
      · cases h'
  | _ => exact nomatch h
theorem set_both (hu : X.A.units + 1 < cLine) : PSet X (fun o i v H Q => rSetL o i v H Q ∨ rSetD o i v H Q) := by
  intro pins s σ H o i v ov iv u Q I ro ri rv h
  exact h.elim (set_list pins s σ H o i v ov iv u Q I ro ri rv) (set_dict hu pins s σ H o i v ov iv u Q I ro ri rv)
theorem sg_sub {o i : Expr} {eo ei : E} {pos : Pos} (hC : C.Mono) (hu : X.A.units + 1 < cLine) (ho : PE X o (tE X.K T C eo)) (hi : PE X i (tE X.K T C ei))
    (ha : ∀ v, assign (.Subscript o i pos) X.env v = (do
      let ov ← holding [v] (eval o X.env)
      let iv ← holding [v, ov] (eval i X.env)
      standAt pos
      holding [v, ov, iv] (setItem ov iv v)
      release [v, ov, iv] []) := by intro _; rfl) : PG X (.Subscript o i pos) (tG X.K T C (.sub eo ei)) := (pg_sub ho hi (set_both hu) ha).imp fun v σ H Q ⟨d, env, st, m, rd, er, w, h⟩ => by
  unfold Wg at h
  refine tE.go hC er w h fun x st1 m1 H1 xv h1 w1 g1 r1 => tE.go hC (er.gr g1) w1 h1 fun y st2 m2 H2 yv h2 w2 g2 r2 => ?_
  obtain ⟨n, rfl, h2⟩ := h2
  have g12 := g1.trans g2
  have rx := r1.gr g2
  cases rx with
  | ref hn =>
    rcases h2 with ⟨xs, k, j, rfl, e1, e2, q⟩ | ⟨o1, o2, e1, e2, q⟩
    · cases r2
      obtain ⟨vs, b1, b2⟩ := w2.obj n _ e1
      refine .inl ⟨m2 n, vs, k, j, rfl, rfl, b1, by rw [← atN_eq, ← b2.length]; exact e2, ?_⟩
      obtain ⟨w3, g3⟩ := w2.put (o := .lst (vs.set j v)) (u' := .lst (xs.set j d)) e1 trivial trivial fun g => ⟨_, upd_same, (b2.set (rd.gr g12) j).gr g⟩
      exact q m2 σ _ (by rw [List.length_set]; exact (er.gr g12).gr g3) w3 (by rw [List.length_set]; exact g12.trans g3) Out.refl
    · obtain ⟨ob, p1, p2, p3, p4⟩ := putO_rel w2 e1 r2 (rd.gr g12) e2
      refine .inr ⟨m2 n, _, rfl, p1, ?_⟩
      obtain ⟨w3, g3⟩ := w2.put (o := ob) (u' := o2) e1 p2 p3 p4
      exact q m2 σ _ (by rw [List.length_set]; exact (er.gr g12).gr g3) w3 (by rw [List.length_set]; exact g12.trans g3) Out.refl
/-! ### statements -/
theorem kn_kg {m : Nat → Addr} {n : Nat} {H : Hp} {m1 : Nat → Addr} {n1 : Nat} {H1 : Hp} {σ : L2.St} {l : List Nat} {Q : L2.St → Hp → Prop} {e : Env} {s : Sto} (g : Gr K m n H m1 n1 H1) (h : KN K T m n H Q e s) : KG K T m1 n1 H1 σ l Q e s :=
  fun m' σ' H' e1 w1 g1 _ => h m' σ' H' e1 w1 (g.trans g1)
theorem st_asg {tg e : Expr} {g : G} {ea : E} {pos : Pos} (hC : C.Mono) (he : PE X e (tE X.K T C ea)) (hg : PG X tg (tG X.K T C g)) (hs : swapsWithSole [tg] e pos.line X.env = pure false := by rfl) (hw : swappedStores [tg] e X.env = pure none := by rfl)
    (h1 : (assignEach [tg] X.env).map (·.2) = [assign tg X.env] := by rfl) : PS X (.Assign [tg] e pos) (tS X.K T C (.asg g ea)) := (ps_asg he hg hs hw h1).imp fun D σ H ⟨env, st, m, er, w, h⟩ => by
  unfold Ws at h
  refine tE.go hC er w h fun x st1 m1 H1 v h1 w1 g1 r1 => ?_
  exact ⟨x, env, st1, m1, r1, er.gr g1, w1, Wg_mono hC g x env st1 _ _ (fun e s q => kn_kg g1 q) h1⟩
theorem st_set {i : Nat} {x : Str} {e : Expr} {ea : E} {pos pos' : Pos} (hC : C.Mono) (hN : X.N.Nodup) (hi : X.N[i]? = some x) (hx : Loc X.env.scope x) (hf : X.fn x = true ∨ X.env.scope.names.lookup x = some .local) (he : PE X e (tE X.K T C ea)) (hs : swapsWith e (some (.Name x pos')) pos.line X.env = pure false := by rfl) :
    PS X (.Assign [.Name x pos'] e pos) (tS X.K T C (.asg (.nm i) ea)) := (ps_set hN hi hx he hs hf).imp fun D σ H ⟨env, st, m, er, w, h⟩ => by
  unfold Ws at h
  refine tE.go hC er w h fun x st1 m1 H1 v h1 w1 g1 r1 => ?_
  unfold Wg at h1
  exact h1 m1 _ H1 ((er.gr g1).set r1) w1 g1
theorem st_par2 {i j : Nat} {x y : Str} {a b : Expr} {eas : Es} {px py pt pos : Pos} {kt k2 pt2} (hC : C.Mono) (hc : X.calm = true) (hN : X.N.Nodup) (hi : X.N[i]? = some x) (hj : X.N[j]? = some y) (hij : i ≠ j)
    (hx : X.env.scope.names.lookup x = some .local) (hy : X.env.scope.names.lookup y = some .local) (ha : PA X [a, b] (tA X.K T C eas))
    (hw : swappedStores [.Tuple [.Name x px, .Name y py] kt pt] (.Tuple [a, b] k2 pt2) X.env = pure (some [x, y]))
    (hs : swapsWithSole [.Tuple [.Name x px, .Name y py] kt pt] (.Tuple [a, b] k2 pt2) pos.line X.env = pure false := by rfl) :
    PS X (.Assign [.Tuple [.Name x px, .Name y py] kt pt] (.Tuple [a, b] k2 pt2) pos) (tS X.K T C (.par [i, j] eas)) := (ps_par hc hN hi hj hij hx hy ha hw hs).imp fun D σ H ⟨env, st, m, er, w, h⟩ => by
  unfold Ws at h
  refine tA.go hC er w h fun xs st1 m1 H1 vs h1 w1 g1 r1 => ?_
  obtain ⟨hl, q⟩ := h1
  match xs, r1, hl with
  | [d1, d2], .cons a1 (.cons a2 .nil), _ => exact ⟨_, _, rfl, q m1 _ H1 (((er.gr g1).set a1).set a2) w1 g1⟩
theorem st_par3 {i j l : Nat} {x y z : Str} {a b c : Expr} {eas : Es} {px py pz pt pos : Pos} {kt k2 pt2} (hC : C.Mono) (hc : X.calm = true) (hN : X.N.Nodup) (hi : X.N[i]? = some x) (hj : X.N[j]? = some y) (hl : X.N[l]? = some z) (hij : i ≠ j) (hil : i ≠ l) (hjl : j ≠ l)
    (hx : X.env.scope.names.lookup x = some .local) (hy : X.env.scope.names.lookup y = some .local) (hz : X.env.scope.names.lookup z = some .local) (ha : PA X [a, b, c] (tA X.K T C eas))
    (hw : swappedStores [.Tuple [.Name x px, .Name y py, .Name z pz] kt pt] (.Tuple [a, b, c] k2 pt2) X.env = pure (some [x, y, z]))
    (hs : swapsWithSole [.Tuple [.Name x px, .Name y py, .Name z pz] kt pt] (.Tuple [a, b, c] k2 pt2) pos.line X.env = pure false := by rfl) :
    PS X (.Assign [.Tuple [.Name x px, .Name y py, .Name z pz] kt pt] (.Tuple [a, b, c] k2 pt2) pos) (tS X.K T C (.par [i, j, l] eas)) := (ps_par3 hc hN hi hj hl hij hil hjl hx hy hz ha hw hs).imp fun D σ H ⟨env, st, m, er, w, h⟩ => by
  unfold Ws at h
  refine tA.go hC er w h fun xs st1 m1 H1 vs h1 w1 g1 r1 => ?_
  obtain ⟨hl, q⟩ := h1
  match xs, r1, hl with
  | [d1, d2, d3], .cons a1 (.cons a2 (.cons a3 .nil)), _ => exact ⟨_, _, _, rfl, q m1 _ H1 ((((er.gr g1).set a1).set a2).set a3) w1 g1⟩
/-- what an augmented operator needs -/
def AugOk (X : L2.Cx) (T : Tab) (op : Operator) (o : Bop) : Prop := ∃ r : TIp, PIp X op r ∧ ∀ (m : Nat → Addr) (st : Sto) (H : Hp) (x y : D) (v u : V) (Q : VK), Wd X.K T m st H → Rp X.K T m st.length H x v → Rp X.K T m st.length H y u → isRef x = false → wBin o x y st (KD X.K T m st.length H Q) → r v u H Q
theorem aug_sub : AugOk X T .Sub .sub := by
  refine ⟨_, ip_sub, fun m st H x y v u Q w rx ry nr h => ?_⟩
  unfold wBin at h
  split at h <;> first
    | exact h.elim
    | contradiction
    | skip
  cases rx
  cases ry
  exact ⟨_, _, rfl, rfl, h.same w (.int _)⟩
theorem aug_add : AugOk X T .Add .add := by
  refine ⟨fun x y H Q => ipI (fun i j => i + j) x y H Q ∨ ∃ i j, x = .str i ∧ y = .str j ∧ i.length + j.length ≤ sizeLine ∧ Q (.str (i ++ j)) H, fun pins s σ H x y v u Q I rx ry h => h.elim (ip_add pins s σ H x y v u Q I rx ry) (iop_add_str pins s σ H x y v u Q I rx ry), fun m st H x y v u Q w rx ry nr h => ?_⟩
  cases x <;> cases y <;> first
    | exact h.elim
    | cases nr
    | skip
  · cases rx
    cases ry
    exact .inl ⟨_, _, rfl, rfl, KD.same h w (.int _)⟩
  · rename_i a b
    cases rx with
    | str _ oa =>
      cases ry with
      | str _ ob =>
        obtain ⟨h1, q⟩ := h
        have e1 : ∀ z : Sx, (tx z).length = z.length := fun z => by simp [tx, Str.length]
        have e2 : tx a ++ tx b = tx (a ++ b) := by
          show Str.mk _ = Str.mk _
          simp [tx]
        refine .inr ⟨tx a, tx b, rfl, rfl, by rw [e1, e1, ← LINE_eq]; exact h1, ?_⟩
        rw [e2]
        exact KD.same q w (.str _ ⟨fun c hc => (List.mem_append.mp hc).elim (oa.1 c) (ob.1 c), by rw [List.length_append]; exact h1⟩)
theorem st_aug {i : Nat} {x : Str} {e : Expr} {ea : E} {op : Operator} {o : Bop} {pos pos' : Pos} (hC : C.Mono) (hN : X.N.Nodup) (hi : X.N[i]? = some x) (hx : Loc X.env.scope x) (hf : X.fn x = true ∨ X.env.scope.names.lookup x = some .local) (he : PE X e (tE X.K T C ea)) (ho : AugOk X T op o) :
    PS X (.AugAssign (.Name x pos') op e pos) (tS X.K T C (.aug o i ea)) := by
  obtain ⟨r, hr, ho⟩ := ho
  refine (ps_aug hN hi hx he hr hf).imp fun D σ H ⟨env, st, m, er, w, h⟩ => ?_
  unfold Ws at h
  obtain ⟨d, e1, nr, h⟩ := h
  obtain ⟨v, e2, rd⟩ := er.at_ i d e1
  refine ⟨v, e2, tE.go hC er w h fun y st1 m1 H1 u h1 w1 g1 r1 => ?_⟩
  refine ho m1 st1 H1 d y v u _ w1 (rd.gr g1) r1 nr (wBin_mono (fun z s q m2 H2 zv w2 g2 rz => ?_) o d y st1 h1)
  exact q m2 _ H2 ((er.gr (g1.trans g2)).set rz) w2 (g1.trans g2)
theorem st_ex {e : Expr} {ea : E} {pos : Pos} (hC : C.Mono) (he : PE X e (tE X.K T C ea)) (hs : swapsWith e none pos.line X.env = pure false := by rfl) : PS X (.Expr e pos) (tS X.K T C (.ex ea)) := (ps_expr he hs).imp fun D σ H ⟨env, st, m, er, w, h⟩ => by
  unfold Ws at h
  exact tE.go hC er w h fun x st1 m1 H1 v h1 w1 g1 r1 => h1 m1 σ H1 (er.gr g1) w1 g1
theorem st_doc {x j pos pos'} : PS X (.Expr (.Constant (.str x) j pos) pos') (tS X.K T C .pass) := ps_doc.imp fun D σ H ⟨env, st, m, er, w, h⟩ => by
  unfold Ws at h
  exact h m σ H er w Gr.refl
theorem st_ret {e : Expr} {ea : E} {pos : Pos} (hC : C.Mono) (he : PE X e (tE X.K T C ea)) : PS X (.Return (some e) pos) (tS X.K T C (.ret ea)) := (ps_ret he).imp fun D σ H ⟨env, st, m, er, w, h⟩ => by
  unfold Ws at h
  exact tE.go hC er w h fun x st1 m1 H1 v h1 w1 g1 r1 => h1 m1 H1 v w1 g1 r1
theorem st_retN {pos : Pos} : PS X (.Return none pos) (tS X.K T C (.ret (.c .non))) := ps_retN.imp fun D σ H ⟨env, st, m, er, w, h⟩ => by
  unfold Ws We at h
  exact h.same w .non
theorem st_ife {c : Expr} {a b : List Stmt} {tc : Py.T} {sa sb : Ss} {pos : Pos} (hC : C.Mono) (hc : PT X c (tT X.K T C tc)) (ha : PSs X a (tSs X.K T C sa)) (hb : PSs X b (tSs X.K T C sb)) : PS X (.If c a b pos) (tS X.K T C (.ife tc sa sb)) := (ps_if hc ha hb).imp fun D σ H ⟨env, st, m, er, w, h⟩ => by
  unfold Ws at h
  refine tT.go hC er w h fun r st1 m1 H1 h1 w1 g1 => ?_
  cases r with
  | true =>
    rw [if_pos rfl] at h1 ⊢
    exact ⟨env, st1, m1, er.gr g1, w1, Wss_mono hC sa env st1 _ _ (KE.gr g1) h1⟩
  | false =>
    rw [if_neg Bool.false_ne_true] at h1 ⊢
    exact ⟨env, st1, m1, er.gr g1, w1, Wss_mono hC sb env st1 _ _ (KE.gr g1) h1⟩
theorem st_pass {pos : Pos} : PS X (.Pass pos) (tS X.K T C .pass) := ps_pass.imp fun D σ H ⟨env, st, m, er, w, h⟩ => by
  unfold Ws at h
  exact h m σ H er w Gr.refl
theorem st_brk {pos : Pos} : PS X (.Break pos) (tS X.K T C .brk) := ps_break.imp fun D σ H ⟨env, st, m, er, w, h⟩ => by
  unfold Ws at h
  exact h m σ H er w Gr.refl
theorem st_cont {pos : Pos} : PS X (.Continue pos) (tS X.K T C .cont) := ps_continue.imp fun D σ H ⟨env, st, m, er, w, h⟩ => by
  unfold Ws at h
  exact h m σ H er w Gr.refl
theorem st_never {s : Stmt} : PS X s (tS X.K T C .never) := ps_never.imp fun D σ H ⟨env, st, m, er, w, h⟩ => by
  unfold Ws at h
  exact h
theorem ss_nil : PSs X [] (tSs X.K T C .nil) := pss_nil.imp fun D σ H ⟨env, st, m, er, w, h⟩ => by
  unfold Wss at h
  exact h m σ H er w Gr.refl
theorem ss_cons {s : Stmt} {ss : List Stmt} {t : S} {ts : Ss} (hC : C.Mono) (h1 : PS X s (tS X.K T C t)) (h2 : PSs X ss (tSs X.K T C ts)) : PSs X (s :: ss) (tSs X.K T C (.cons t ts)) := (pss_cons h1 h2).imp fun D σ H ⟨env, st, m, er, w, h⟩ => by
  unfold Wss at h
  exact ⟨env, st, m, er, w, Ws_mono hC t env st { KE X.K T m st.length H D with nx := fun env1 st1 => Wss C ts env1 st1 (KE X.K T m st.length H D) } _ ⟨fun e s q m1 σ1 H1 e1 w1 g1 => ⟨e, s, m1, e1, w1, Wss_mono hC ts e s _ _ (KE.gr g1) q⟩, fun _ _ q => q, fun _ _ q => q, fun _ _ q => q⟩ h⟩
theorem st_whl {c : Expr} {body : List Stmt} {tc : Py.T} {sb : Ss} {pos : Pos} (hC : C.Mono) (hp : PassesOwn (model X.prog X.w) X.A X.env X.xe) (hc : PT X c (tT X.K T C tc)) (hb : PSs X body (tSs X.K T C sb)) : PS X (.While c body [] pos) (tS X.K T C (.whl tc sb)) := (ps_while hp hc hb).imp fun D σ H ⟨env, st, m, er, w, h⟩ => by
  unfold Ws at h
  obtain ⟨W, ⟨k0, hw0⟩, step⟩ := h
  refine ⟨fun k σ' H' => ∃ env' st' m', EnvR X.K T m' st'.length H' env' σ' ∧ Wd X.K T m' st' H' ∧ Gr X.K m st.length H m' st'.length H' ∧ W k env' st', ⟨k0, env, st, m, er, w, Gr.refl, hw0⟩, ?_⟩
  rintro k σ1 H1 ⟨env1, st1, m1, er1, w1, g1, hW⟩
  refine tT.go hC er1 w1 (step k env1 st1 hW) fun r st2 m2 H2 h2 w2 g2 => ?_
  cases r with
  | true =>
    rw [if_pos rfl] at h2 ⊢
    refine ⟨fun σ' H' => ∃ k', k' < k ∧ ∃ env' st' m', EnvR X.K T m' st'.length H' env' σ' ∧ Wd X.K T m' st' H' ∧ Gr X.K m st.length H m' st'.length H' ∧ W k' env' st', fun σ' H' q => q, ?_⟩
    have nxt : ∀ (e : Env) (s : Sto), (∃ k', k' < k ∧ W k' e s) → KN X.K T m2 st2.length H2 (fun σ' H' => ∃ k', k' < k ∧ ∃ env' st' m', EnvR X.K T m' st'.length H' env' σ' ∧ Wd X.K T m' st' H' ∧ Gr X.K m st.length H m' st'.length H' ∧ W k' env' st') e s :=
      fun e s ⟨k', lt, q⟩ m3 σ3 H3 e3 w3 g3 => ⟨k', lt, e, s, m3, e3, w3, (g1.trans g2).trans g3, q⟩
    exact ⟨env1, st2, m2, er1.gr g2, w2, Wss_mono hC sb env1 st2 { nx := fun e s => ∃ m', m' < k ∧ W m' e s, ct := fun e s => ∃ m', m' < k ∧ W m' e s, bk := (KE X.K T m st.length H D).nx, rt := (KE X.K T m st.length H D).rt } _ ⟨nxt, fun _ _ q => KD.gr (g1.trans g2) q, fun _ _ q => KN.gr (g1.trans g2) q, nxt⟩ h2⟩
  | false =>
    rw [if_neg Bool.false_ne_true] at h2 ⊢
    exact h2 m2 σ1 H2 (er1.gr g2) w2 (g1.trans g2)
theorem forW_live {tgt : D → Env → Sto → (Env → Sto → Prop) → Prop} {body : Env → Sto → KS → Prop} {live : List (Nat × List D)} {k : KS} {xs : List D} {env : Env} {st : Sto} (h : forW tgt body live k xs env st) : Live st live := by
  cases xs with
  | nil => exact h.1
  | cons x xs => exact h.1
theorem st_for {tg iter : Expr} {body : List Stmt} {it : I} {g : G} {sb : Ss} {pos : Pos} (hC : C.Mono) (hp : PassesOwn (model X.prog X.w) X.A X.env X.xe) (hc : X.calm = true) (hi : PI X tg iter (tI X.K T C it)) (hg : PG X tg (tG X.K T C g)) (hb : PSs X body (tSs X.K T C sb))
    (hs : ∀ x, foldedSetIterable iter X.env x = pure x := by intro _; rfl) : PS X (.For tg iter body [] pos) (tS X.K T C (.for_ g it sb)) := (ps_for hp hc hi hg hb hs).imp fun D σ H ⟨env, st, m, er, w, h⟩ => by
  unfold Ws at h
  refine ⟨env, st, m, er, w, Wi_mono hC it env st _ _ (fun live xs st1 h1 m1 H1 w1 g1 J wd => ?_) h⟩
  obtain ⟨G, Y, wk, hwd⟩ := wd
  refine for_it wk (fun i σ' H' => ∃ env' st' m', EnvR X.K T m' st'.length H' env' σ' ∧ Wd X.K T m' st' H' ∧ Gr X.K m1 st1.length H1 m' st'.length H' ∧ forW (Wg C g) (Wss C sb) live (KE X.K T m st.length H D) (xs.drop i) env' st') ⟨env, st1, m1, er.gr g1, w1, Gr.refl, h1⟩ ?_ ?_ ?_
  · rintro i σ2 H2 hle ⟨env2, st2, m2, er2, w2, g2, h2⟩
    exact (hwd m2 st2 H2 w2 g2 (forW_live h2)).1
  · rintro i x σ2 H2 H3 hlt ⟨env2, st2, m2, er2, w2, g2, h2⟩ hy
    obtain ⟨d, ed, w3, g3, rd⟩ := (hwd m2 st2 H2 w2 g2 (forW_live h2)).2 i x H3 hlt hy
    have e : xs.drop i = d :: xs.drop (i + 1) := by
      obtain ⟨hl, e'⟩ := List.getElem?_eq_some_iff.mp ed
      rw [← e', List.drop_eq_getElem_cons hl]
    rw [e] at h2
    refine tG.go hC rd (er2.gr g3) w3 h2.2 fun env4 st4 m4 σ4 H4 h4 er4 w4 g4 _ => ?_
    have g34 := (g2.trans g3).trans g4
    have nxt : ∀ (e : Env) (s : Sto), forW (Wg C g) (Wss C sb) live (KE X.K T m st.length H D) (xs.drop (i + 1)) e s → KN X.K T m4 st4.length H4 (fun σ' H' => ∃ env' st' m', EnvR X.K T m' st'.length H' env' σ' ∧ Wd X.K T m' st' H' ∧ Gr X.K m1 st1.length H1 m' st'.length H' ∧ forW (Wg C g) (Wss C sb) live (KE X.K T m st.length H D) (xs.drop (i + 1)) env' st') e s :=
      fun e s q m5 σ5 H5 e5 w5 g5 => ⟨e, s, m5, e5, w5, g34.trans g5, q⟩
    exact ⟨env4, st4, m4, er4, w4, Wss_mono hC sb env4 st4 { nx := forW (Wg C g) (Wss C sb) live (KE X.K T m st.length H D) (xs.drop (i + 1)), ct := forW (Wg C g) (Wss C sb) live (KE X.K T m st.length H D) (xs.drop (i + 1)), bk := (KE X.K T m st.length H D).nx, rt := (KE X.K T m st.length H D).rt } _ ⟨nxt, fun _ _ q => KD.gr (g1.trans g34) q, fun _ _ q => KN.gr (g1.trans g34) q, nxt⟩ h4⟩
  · rintro σ2 H2 ⟨env2, st2, m2, er2, w2, g2, h2⟩
    rw [List.drop_length] at h2
    exact h2.2 m2 σ2 H2 er2 w2 (g1.trans g2)
end
end Py
end
section
set_option Elab.async false
set_option linter.all false
set_option maxRecDepth 100000
set_option maxHeartbeats 2000000
namespace Py
open PySem PySem.Spec L2 PyProof.Rows
section
variable {K : PySem.W.Frag} {T : Tab} {C : Py.Cx} {X : L2.Cx}
/-! ### isinstance -/
structure KindH (K : PySem.W.Frag) (T : Tab) (C : Py.Cx) (k : Nat) (cu : Value) : Prop where
  non : PySem.W.kitOne K (.type "NoneType") cu = some false
  bl : PySem.W.kitOne K (.type "bool") cu = some (k == 0 || k == 1)
  int : PySem.W.kitOne K (.type "int") cu = some (k == 0)
  str : PySem.W.kitOne K (.type "str") cu = some (k == 2)
  tup : PySem.W.kitOne K (.type "tuple") cu = some (k == 3)
  lst : PySem.W.kitOne K (.type "list") cu = some (k == 4)
  cls : ∀ c b, C.isa c k = some b → PySem.W.kitOne K (.ref (T.ca c)) cu = some b
  clx : ∀ c b, C.isx c k = some b → PySem.W.kitOne K (.ref (T.ca c)) cu = some b
structure InsK (K : PySem.W.Frag) (C : Addr) : Prop where
  cl : Cls K C
  ha : PySem.W.findIn K (.ref C) "__class__" = some (some (.builtin "object.__class__"))
  hm : PySem.W.mroIn K C (.type "object") = some true
structure ExcK (K : PySem.W.Frag) (C : Addr) : Prop where
  hcl : (PySem.W.clsIn K C).isSome = true
  ga : PySem.W.findIn K (.ref C) "__getattribute__" = some (some (.builtin "BaseException.__getattribute__"))
  gg : PySem.W.findIn K (.ref C) "__getattr__" = some none
  sub : PySem.W.subIn K (.ref C) (.type "BaseException") = some true
  ha : PySem.W.findIn K (.ref C) "__class__" = some (some (.builtin "object.__class__"))
  hm : PySem.W.mroIn K C (.type "object") = some true
structure IsaH (K : PySem.W.Frag) (T : Tab) (C : Py.Cx) : Prop where
  ins : ∀ c k b, C.isa c k = some b → InsK K (T.ca c)
  exc : ∀ c k b, C.isx c k = some b → ExcK K (T.ca c)
  hn : PySem.W.specialIn K (.builtin "object.__class__") "__get__" = some (some (.builtin "getset_descriptor.__get__"))
  htk : PySem.W.takesIn K (.builtin "object.__class__") = some true
def rD (K : PySem.W.Frag) (T : Tab) (C : Py.Cx) (k : Nat) (cv : V) : List V → Hp → VK → Prop := fun xs H Q => ∃ x d m st b, xs = [x, cv] ∧ Wd K T m st H ∧ Rp K T m st.length H d x ∧ isKind C st d k = some b ∧ Q (.bl b) H
theorem rD_pre {k : Nat} {cv : V} {cu : Value} {H : Hp} {Q : VK} {xs : List V} (hk : KindH X.K T C k cu) (hi : IsaH X.K T C) (hc : ClsV cv cu) {m : Nat → Addr} {st : Sto} {x : V} {d : D} {b : Bool} (w : Wd X.K T m st H) (r : Rp X.K T m st.length H d x) (e : isKind C st d k = some b)
    (nx : ∀ n c fs, d = .ref n → st[n]? ≠ some (.exc c fs)) : ∃ t, TyX X.K H x t ∧ PySem.W.kitOne X.K t cu = some b := by
  cases r with
  | non => cases e; exact ⟨_, .base .non, hk.non⟩
  | bl y => cases e; exact ⟨_, .base (.bl y), hk.bl⟩
  | int i => cases e; exact ⟨_, .base (.int i), hk.int⟩
  | str s ok => cases e; exact ⟨_, .base (.str _), hk.str⟩
  | tup hb rb => cases e; exact ⟨_, .base (.tup hb), hk.tup⟩
  | gt hb rb =>
    cases e
    refine ⟨_, ?_, hk.tup⟩
    rcases hb H with h1 | ⟨o, its, n, h1, h2, _⟩
    · rcases h1 with h1 | ⟨o, h1⟩
      · exact .base (.tup h1)
      · exact .fTuple h1
    · exact .kTuple h1 h2
  | ref hn =>
    rename_i n
    simp only [isKind] at e
    cases e0 : st[n]? with
    | none => rw [e0] at e; cases e
    | some o =>
      rw [e0] at e
      have ro := w.obj n o e0
      cases o with
      | lst xs => cases e; obtain ⟨vs, h1, _⟩ := ro; exact ⟨_, .base (.lst h1), hk.lst⟩
      | rol xs =>
        cases e
        obtain ⟨vs, h1, _⟩ := ro
        refine ⟨_, ?_, hk.lst⟩
        rcases h1 with ⟨ob, h1⟩ | h1
        · exact .base (.frz h1)
        · rcases h1 H with h1 | ⟨o, its, n, h1, h2, _⟩
          · rcases h1 with h1 | ⟨o, h1⟩
            · exact .base (.lst h1)
            · exact .base (.frz h1)
          · exact .kList h1 h2
      | ins c fs =>
        obtain ⟨dx, ws, h1, _⟩ := ro
        have I := hi.ins c k b e
        exact ⟨_, .base (.ins h1 I.cl I.ha hi.hn hi.htk I.hm), hk.cls c b e⟩
      | exc c fs => exact absurd e0 (nx n c fs rfl)
      | dk kvs => cases e
      | dt kvs => cases e
      | lok o => cases e
  | fn k => cases e
theorem call_isD {k : Nat} {cv : V} {cu : Value} (hk : KindH X.K T C k cu) (hi : IsaH X.K T C) (hc : ClsV cv cu) : CallR X (.builtin "isinstance") (rD X.K T C k cv) := by
  intro pins s σ H xs us Q I r h
  obtain ⟨x, d, m, st, b, rfl, w, rd, e, q⟩ := h
  by_cases nx : ∃ n c fs, d = .ref n ∧ st[n]? = some (.exc c fs)
  · obtain ⟨n, c, fs, rfl, e0⟩ := nx
    obtain ⟨u1, u2, rfl, r1, r2⟩ := vals2 r
    have e2 := hc.eq r2
    subst e2
    have e' : C.isx c k = some b := by simpa only [isKind, e0] using e
    have E := hi.exc c k b e'
    cases rd
    cases r1
    rcases w.obj n _ e0 with ⟨_, h2⟩ | ⟨dd, ws, h1, h2, _⟩
    · obtain ⟨t1, ho⟩ := exo_at I.hok h2
      exact PySem.W.kia_one (PySem.W.kitx_exc (od := none) E.hcl E.ga E.gg E.sub E.ha hi.hn hi.htk E.hm) I.kIn ⟨ho, rfl, rfl, trivial⟩ (hk.clx c b e') (fun z => nomatch z) fun tk => ⟨.bl b, H, I.tok tk, rfl, q⟩
    · obtain ⟨t1, ho⟩ := exo_at I.hok h1
      obtain ⟨mA, hns, hr⟩ := exd_at I.hok h2
      obtain ⟨od, ho2, hl⟩ := lookIn_ns hns
      exact PySem.W.kia_one (PySem.W.kitx_exc (od := some od) E.hcl E.ga E.gg E.sub E.ha hi.hn hi.htk E.hm) I.kIn ⟨ho, rfl, rfl, ho2⟩ (hk.clx c b e') (fun z => nomatch z) fun tk => ⟨.bl b, H, I.tok tk, rfl, q⟩
  · obtain ⟨t, ty, e3⟩ := rD_pre (Q := Q) (xs := []) hk hi hc w rd e (fun n c fs h1 h2 => nx ⟨n, c, fs, h1, h2⟩)
    exact call_isi pins s σ H _ us Q I r ⟨x, cv, t, cu, b, rfl, hc, ty, e3, q⟩
end
end Py
end
section
set_option Elab.async false
set_option linter.all false
set_option maxRecDepth 100000
set_option maxHeartbeats 2000000
namespace Py
open PySem PySem.Spec L2 PyProof.Rows
/-- the fields that were put in, the last one ahead -/
def revF : List Sx → List V → List (Str × V) → List (Str × V)
  | f :: fs, y :: ys, acc => revF fs ys ((tx f, y) :: acc)
  | _, _, acc => acc
/-- the promise of an exception's __init__ -/
def spX (K : PySem.W.Frag) (C : Addr) (ns : List Sx) : Sp := fun vs H Q _ => ∃ a ys, vs = .ref a :: ys ∧ ys.length = ns.length ∧ H a = some (exo a C none) ∧
  ∀ d, H d = none → d ≠ a → Q .non (upd (upd H d (exd d (revF ns ys []))) a (exo a C (some d)))
section
variable {P : Program} {w : World} {K : PySem.W.Frag} {mg : Str → Option Value} {base : Heap} {f C : Addr} {fd : FuncData}
theorem exc_init1 {nm qual : Str} {params : Arguments} {scope : Scope} {ps : List Str} {x y fa : Str} {g : Sx} {p1 p2 p3 p4 : Pos} (F : FunD K nm qual params [.Assign [.Attribute (.Name x p1) fa p2] (.Name y p3) p4] scope [] [] f fd) (hfa : fa = tx g) (S : FnScope [x, y] ps scope) (hps : ps.length = 2)
    (O : OexC K C) (no : PySem.W.findIn K (.ref C) (tx g) = some none) (hx : scope.names.lookup x = some .local) (hy : scope.names.lookup y = some .local)
    (hdx : (x == ("__debug__" : Str)) = false) (hcx : (x == ("__classdict__" : Str)) = false) (hdy : (y == ("__debug__" : Str)) = false) (hcy : (y == ("__classdict__" : Str)) = false) :
    FnG P w K mg base CX0 1 f fd ps (spX K C [g]) := by
  subst hfa
  refine FnG.body (lv := 0) F S (fun xs H Q E ⟨a, ys, e1, e2, _⟩ => by rw [e1, List.length_cons, e2, hps]; rfl) fun cd A up s H xs Q E rm gd hsp => ?_
  refine ⟨_, pss_one (ps_ost (pe_var (i := 0) rfl (.inl hx) hdx hcx) (pe_var (i := 1) rfl (.inl hy) hdy hcy) rfl), ?_⟩
  obtain ⟨a, ys, rfl, e2, e3, q⟩ := hsp
  match ys, e2 with
  | [v], _ =>
    refine ⟨v, rfl, .ref a, rfl, a, C, rfl, O, no, .inl ⟨e3, fun dx n ne => ?_⟩⟩
    exact q dx n ne
theorem exc_init2 {nm qual : Str} {params : Arguments} {scope : Scope} {ps : List Str} {x y z fa fb : Str} {g1 g2 : Sx} {p1 p2 p3 p4 p5 p6 p7 p8 : Pos}
    (F : FunD K nm qual params [.Assign [.Attribute (.Name x p1) fa p2] (.Name y p3) p4, .Assign [.Attribute (.Name x p5) fb p6] (.Name z p7) p8] scope [] [] f fd) (hfa : fa = tx g1) (hfb : fb = tx g2) (S : FnScope [x, y, z] ps scope) (hps : ps.length = 3)
    (O : OexC K C) (no1 : PySem.W.findIn K (.ref C) (tx g1) = some none) (no2 : PySem.W.findIn K (.ref C) (tx g2) = some none) (hx : scope.names.lookup x = some .local) (hy : scope.names.lookup y = some .local) (hz : scope.names.lookup z = some .local)
    (hdx : (x == ("__debug__" : Str)) = false) (hcx : (x == ("__classdict__" : Str)) = false) (hdy : (y == ("__debug__" : Str)) = false) (hcy : (y == ("__classdict__" : Str)) = false) (hdz : (z == ("__debug__" : Str)) = false) (hcz : (z == ("__classdict__" : Str)) = false) :
    FnG P w K mg base CX0 1 f fd ps (spX K C [g1, g2]) := by
  subst hfa hfb
  refine FnG.body (lv := 0) F S (fun xs H Q E ⟨a, ys, e1, e2, _⟩ => by rw [e1, List.length_cons, e2, hps]; rfl) fun cd A up s H xs Q E rm gd hsp => ?_
  refine ⟨_, pss_cons (ps_ost (pe_var (i := 0) rfl (.inl hx) hdx hcx) (pe_var (i := 1) rfl (.inl hy) hdy hcy) rfl) (pss_one (ps_ost (pe_var (i := 0) rfl (.inl hx) hdx hcx) (pe_var (i := 2) rfl (.inl hz) hdz hcz) rfl)), ?_⟩
  obtain ⟨a, ys, rfl, e2, e3, q⟩ := hsp
  match ys, e2 with
  | [v, u], _ =>
    refine ⟨v, rfl, .ref a, rfl, a, C, rfl, O, no1, .inl ⟨e3, fun dx n ne => ?_⟩⟩
    refine ⟨u, rfl, .ref a, rfl, a, C, rfl, O, no2, .inr ⟨dx, [(tx g1, v)], upd_same, by rw [upd_ne ne, upd_same], by simp, ?_⟩⟩
    have q1 := q dx n ne
    have e : upd (upd (upd H dx (exd dx [(tx g1, v)])) a (exo a C (some dx))) dx (exd dx ((tx g2, u) :: [(tx g1, v)])) = upd (upd H dx (exd dx (revF [g1, g2] [v, u] []))) a (exo a C (some dx)) := by
      funext b
      by_cases h1 : b = dx
      · subst h1
        rw [upd_same, upd_ne ne, upd_same]
        rfl
      · rw [upd_ne h1]
        by_cases h2 : b = a
        · subst h2
          rw [upd_same, upd_same]
        · rw [upd_ne h2, upd_ne h2, upd_ne h1, upd_ne h1]
    show Q .non (upd _ dx _)
    rw [e]
    exact q1
end
section
variable {T : Tab} {C : Py.Cx} {X : L2.Cx}
theorem mk_exc {c : Nat} {m1 : Nat → Addr} {st1 : Sto} {H1 : Hp} {a d : Addr} {fs : List (Sx × D)} {ws : List (Str × V)} {Q : VK} (w1 : Wd X.K T m1 st1 H1) (na : H1 a = none) (nd : H1 d = none) (ne : d ≠ a)
    (hf : ∀ f x, getF f fs = some x → ∃ v, ws.lookup (tx f) = some v ∧ Rp X.K T m1 st1.length H1 x v) (q : KD X.K T m1 st1.length H1 Q (.ref st1.length) (st1 ++ [.exc c fs])) :
    Q (.ref a) (upd (upd H1 d (exd d ws)) a (exo a (T.ca c) (some d))) := by
  have w2 : Wd X.K T m1 st1 (upd H1 d (exd d ws)) := w1.new nd
  have g2 : Gr X.K m1 st1.length H1 m1 st1.length (upd H1 d (exd d ws)) := gr_upd nd
  have na2 : upd H1 d (exd d ws) a = none := by rw [upd_ne (fun z => ne z.symm)]; exact na
  refine KD.new (q.gr g2) w2 na2 fun g => .inr ⟨d, ws, upd_same, by rw [upd_ne ne, upd_same], fun f x e => ?_⟩
  obtain ⟨v, h1, h2⟩ := hf f x e
  exact ⟨v, h1, h2.gr (g2.trans g)⟩
theorem fields_rel {m : Nat → Addr} {n : Nat} {H : Hp} {ns : List Sx} {xs : List D} {vs : List V} (hl : ns.length ≤ 2) (nd : ns.Nodup) (hx : xs.length = ns.length) (r : RpA X.K T m n H xs vs) (f : Sx) (x : D) (e : getF f (zipF ns xs) = some x) : ∃ v, (revF ns vs []).lookup (tx f) = some v ∧ Rp X.K T m n H x v := by
  match ns, xs, vs, r, hl, hx with
  | [], [], _, .nil, _, _ => cases e
  | [g], [y], [u], .cons ry .nil, _, _ =>
    have e' : (if g = f then some y else none) = some x := e
    by_cases c : g = f
    · rw [if_pos c] at e'
      cases e'
      subst c
      exact ⟨u, by simp [revF, List.lookup], ry⟩
    · rw [if_neg c] at e'
      cases e'
  | [g, g'], [y, y'], [u, u'], .cons ry (.cons ry' .nil), _, _ =>
    have hne : g ≠ g' := by
      intro z
      rw [z] at nd
      simp at nd
    have e' : (if g = f then some y else if g' = f then some y' else none) = some x := e
    by_cases c : g = f
    · rw [if_pos c] at e'
      cases e'
      subst c
      have hb : (tx g == tx g') = false := beq_eq_false_iff_ne.mpr fun z => hne (tx_inj z)
      exact ⟨u, by simp [revF, List.lookup, hb], ry⟩
    · rw [if_neg c] at e'
      by_cases c' : g' = f
      · rw [if_pos c'] at e'
        cases e'
        subst c'
        exact ⟨u', by simp [revF, List.lookup], ry'⟩
      · rw [if_neg c'] at e'
        cases e'
theorem laidN {pins : List (Addr × Obj)} {σ : L2.St} {H : Hp} {s : Shared} {a : Addr} {o : HO} {h' : Heap} {t' : Nat} (I : Inv X pins σ H s) (k : ∀ b u, s.heap.get? b = some u → h'.get? b = some u) (hp : s.heap.get? a = none) (new : ObjOk X.prog X.w (upd H a o) h' a o) :
    Inv X pins σ (upd H a o) { s with heap := h', toks := t' } := by
  have hn : H a = none := I.hok.gone hp
  refine I.un ⟨fun b u q _ _ _ => k b u q, fun b u q _ _ _ => ⟨u.slots, k b u q⟩, fun b u q n _ => ?_, fun b u q _ => ⟨u, k b u q⟩, fun b xs q => ?_, fun b u xs q => ?_, fun b ps q => ⟨#[], ?_⟩⟩ fun b u e => ?_
  · rw [upd_ne fun z => by rw [z, hp] at q; cases q]
    exact n
  · rw [upd_ne (ne_of_none q hn)]
    exact q
  · rw [upd_ne (ne_of_none q hn)]
    exact q
  · rw [upd_ne (ne_of_none q hn), q]
    simp
  · by_cases hb : b = a
    · subst hb
      rw [upd_same] at e
      cases e
      exact new
    · rw [upd_ne hb] at e
      refine (I.hok b u e).stay (fun c v _ q => k c v q) (fun c q => ?_) fun c xs q => ?_
      · rw [upd_ne (ne_of_none q hn)]
        exact q
      · rw [upd_ne (ne_of_none q hn)]
        exact q
/-- C(e, ..), C an exception class with an __init__ that puts the fields in -/
theorem se_exc {lv c : Nat} {ns : List Sx} {fI : Addr} {fd : FuncData} {ps : List Str} {x : Str} {e : Expr} {es : List Expr} {eas : Es} {p pos : Pos} (hC : C.Mono) (hxc : C.xc c = some ns) (hl : ns.length ≤ 2) (nd : ns.Nodup) (O : OexC X.K (T.ca c))
    (iC : PySem.W.findIn X.K (.ref (T.ca c)) "__init__" = some (some (.ref fI))) (tI : PySem.W.typeIn X.K (.ref fI) = some (.type "function")) (FI : FnG X.prog X.w X.K X.mg X.base CX0 lv fI fd ps (spX X.K (T.ca c) ns)) (hr : Room (lv + 1) X.A) (gd : X.A.guards = some []) (bi : Binds X.K fd ps [])
    (hg : Gl X x) (hm : X.mg x = some (.ref (T.ca c))) (ha : PA X (e :: es) (tA X.K T C eas)) (hdb : (x == ("__debug__" : Str)) = false := by decide) (he : starEach (e :: es) X.env = (false, eval e X.env) :: starEach es X.env := by rfl)
    (hpl : (backTo pos (starEach es X.env)).any (·.1) = false := by rfl) : PE X (.Call (.Name x p) (e :: es) [] pos) (tE X.K T C (.exc c eas)) := by
  refine ⟨fun pins s σ H Q I ⟨env, st, m, er, w, h⟩ => ?_⟩
  unfold We at h
  obtain ⟨nm, q, N, bs, bm, sn, sub, ab, col, dd, k0, k1, k2, k3, k5, hCl, hbm⟩ := O.cls
  refine wpAny_Call_Name_kw (ld_glob I hg hm ?_ hdb)
  have t : tA X.K T C eas σ H fun vs H1 => ∃ m1 st1 xs, Wd X.K T m1 st1 H1 ∧ RpA X.K T m1 st1.length H1 xs vs ∧ xs.length = ns.length ∧ KD X.K T m1 st1.length H1 Q (.ref st1.length) (st1 ++ [.exc c (zipF ns xs)]) := by
    refine tA.go hC er w h fun xs st1 m1 H1 vs h1 w1 g1 r1 => ?_
    obtain ⟨ns', e1, e2, q⟩ := h1
    rw [hxc] at e1
    cases e1
    exact ⟨m1, st1, xs, w1, r1, e2, q.gr g1⟩
  refine PySem.W.callWith_K (h₀ := X.base) I.ok.mod.kin O.kC (thn (ha.run pos pins s σ H _ I t) fun us s1 ⟨vs, H1, I1, r1, m1, st1, xs, w1, rv, e2, q1⟩ => ⟨I1.kIn, ?_⟩) he hpl
  show wpAny _ _ (call (.ref (T.ca c)) us) _ _ _
  obtain ⟨hp, g, dr, tk, os⟩ := s1
  have hsz : hp.objs.size ≤ hp.objs.size + 1 := Nat.le_succ _
  have hn : H1 (hp.objs.size + 1) = none := I1.hok.fresh hsz
  have kk : ∀ b o, hp.get? b = some o → ((hp.push (PySem.W.kdv_tup us)).push (PySem.HandSPX.excO (T.ca c) hp.objs.size)).get? b = some o := fun b o e => Heap.get?_push_of_some _ (Heap.get?_push_of_some _ e)
  have hget : ((hp.push (PySem.W.kdv_tup us)).push (PySem.HandSPX.excO (T.ca c) hp.objs.size)).get? (hp.objs.size + 1) = some (PySem.HandSPX.excO (T.ca c) hp.objs.size) := by heap_get
  have J : Inv X pins σ (upd H1 (hp.objs.size + 1) (exo (hp.objs.size + 1) (T.ca c) none)) ⟨(hp.push (PySem.W.kdv_tup us)).push (PySem.HandSPX.excO (T.ca c) hp.objs.size), g, dr, tk, os⟩ :=
    I1.laid (t' := tk) (a := hp.objs.size + 1) (o := exo (hp.objs.size + 1) (T.ca c) none) (h' := (hp.push (PySem.W.kdv_tup us)).push (PySem.HandSPX.excO (T.ca c) hp.objs.size)) kk hsz (exo_ok hget)
  have lvs : vs.length = ns.length := by rw [← rv.length]; exact e2
  have hq : spX X.K (T.ca c) ns (.ref (hp.objs.size + 1) :: vs) (upd H1 (hp.objs.size + 1) (exo (hp.objs.size + 1) (T.ca c) none)) (fun v H2 => v = .non ∧ Q (.ref (hp.objs.size + 1)) H2) (fun _ _ _ => False) := by
    refine ⟨_, vs, rfl, lvs, upd_same, fun d n ne => ⟨rfl, ?_⟩⟩
    have n1 : H1 d = none := by rw [upd_ne ne] at n; exact n
    have e : upd (upd (upd H1 (hp.objs.size + 1) (exo (hp.objs.size + 1) (T.ca c) none)) d (exd d (revF ns vs []))) (hp.objs.size + 1) (exo (hp.objs.size + 1) (T.ca c) (some d)) = upd (upd H1 d (exd d (revF ns vs []))) (hp.objs.size + 1) (exo (hp.objs.size + 1) (T.ca c) (some d)) := by
      funext b
      by_cases h1 : b = hp.objs.size + 1
      · rw [h1, upd_same, upd_same]
      · rw [upd_ne h1, upd_ne h1]
        by_cases h2 : b = d
        · rw [h2, upd_same, upd_same]
        · rw [upd_ne h2, upd_ne h2, upd_ne h1]
    rw [e]
    exact mk_exc w1 hn n1 ne (fields_rel hl nd e2 rv) q1
  have r2 : Vals (V.ref (hp.objs.size + 1) :: vs) (Value.ref (hp.objs.size + 1) :: us) := .cons rfl r1
  have hlen : (Value.ref (hp.objs.size + 1) :: us ++ []).length = ps.length := by
    rw [List.append_nil, ← r2.length]
    exact FI.ln _ _ _ _ hq
  have hus : us.length ≤ sizeLine := by
    rw [← Paired.length r1, sizeLine_eq, lvs]
    omega
  have b := bi _ (Value.ref (hp.objs.size + 1) :: us) J.kIn hlen
  rw [List.append_nil] at b
  refine wpAny_call (PySem.HandSPX.call_own F.excBase_ValueError (fun Y => PySem.HandSPX.refsVE_contains Y bm hbm) (I1.kIn _ _ hCl) (PySem.W.looks_findIn I1.kIn iC) (fun self => PySem.W.bind_fn I1.kIn self tI) hus
    (codeAny_mono (FI.go _ X.stack _ _ ⟨Value.ref (hp.objs.size + 1) :: us, []⟩ (Value.ref (hp.objs.size + 1) :: us) _ _ (fun _ _ _ => False) (hr.make (T.ca c) us []) (guards_make gd) (J.env0.make (T.ca c) us []) b r2 hq) fun r s' hq' => ?_))
  match r, hq' with
  | .error ex, hq' => exact passN pins σ _ _ ex s' J hq'
  | .ok (.ret u), hq' =>
    obtain ⟨v, H3, I3, ru, ev, q3⟩ := J.after hq'
    subst ev
    exact ⟨ru, ⟨V.ref (hp.objs.size + 1), H3, I3, rfl, q3⟩⟩
  | .ok .next, hq' => exact (show False from hq').elim
  | .ok .brk, hq' => exact (show False from hq').elim
  | .ok .cont, hq' => exact (show False from hq').elim
/-- C(), C an exception class without an __init__ -/
theorem se_exc0 {c : Nat} {bmB : List Value} {B newId initId : String} {x : Str} {p pos : Pos} (hC : C.Mono) (hxc : C.xc c = some []) (F : ExcBaseFacts B newId initId bmB) (qx : PySem.W.excIn X.K (T.ca c) bmB newId = true) (gC : X.mg x = some (.ref (T.ca c)))
    (kC : PySem.W.keepIn X.K (.ref (T.ca c)) = true) (hg : Gl X x) (hdb : (x == ("__debug__" : Str)) = false := by decide) : PE X (.Call (.Name x p) [] [] pos) (tE X.K T C (.exc c .nil)) := by
  refine ⟨fun pins s σ H Q I ⟨env, st, m, er, w, h⟩ => ?_⟩
  unfold We Wes at h
  obtain ⟨ns, e1, e2, q⟩ := h
  rw [hxc] at e1
  cases e1
  refine wpAny_Call_Name_kw (ld_glob I hg gC (PySem.W.callWith_K0 I.kIn kC ?_) hdb)
  show wpAny _ _ (call (.ref (T.ca c)) []) _ _ _
  obtain ⟨bm, N, nm, qn, bs, hdct, sn, sub, ab, col, dd, k0, k1, k2, k3, k5, mN, hCl, hN, hni, TT⟩ := exc_obj I.kIn qx
  refine wpAny_call_exc_subT F TT hCl hN hni (fun h' e hm => ?_) (by rw [sizeLine_eq]; simp)
  have hn : H e = none := I.hok.gone hm.new
  obtain ⟨t, he, _, _⟩ := hm.there
  refine ⟨.ref e, _, laidN (t' := s.toks) I hm.keeps hm.new (exo_ok he), rfl, ?_⟩
  exact KD.new q w hn fun g => .inl ⟨rfl, upd_same⟩
end
end Py
end
section
set_option Elab.async false
set_option linter.all false
set_option maxRecDepth 100000
set_option maxHeartbeats 2000000
namespace Py
open PySem PySem.Spec L2 PyProof.Rows
section
variable {K : PySem.W.Frag} {T : Tab} {C : Py.Cx} {X : L2.Cx}
theorem se_isi {k : Nat} {cv : V} {cu : Value} {a b : Expr} {ea : E} {p pos : Pos} (hC : C.Mono) (hk : KindH X.K T C k cu) (hi : IsaH X.K T C) (hc : ClsV cv cu) (hg : Gl X "isinstance") (hm : X.mg "isinstance" = none) (hv : bootBuiltins "isinstance" = some (.builtin "isinstance")) (ha : PE X a (tE X.K T C ea)) (hb : PE X b (tC cv))
    (he : starEach [a, b] X.env = (false, eval a X.env) :: starEach [b] X.env := by rfl) (he2 : starEach [b] X.env = (false, eval b X.env) :: starEach [] X.env := by rfl) (hpl : (backTo pos (starEach [b] X.env)).any (·.1) = false := by rfl) :
    PE X (.Call (.Name "isinstance" p) [a, b] [] pos) (tE X.K T C (.isi ea [k])) :=
  (pe_callB (call_isD hk hi hc) hg hm hv (pa_cons ha (pa_cons hb pa_nil he2) he) (by decide) (by decide) he hpl).imp fun σ H Q ⟨env, st, m, er, w, h⟩ => by
    unfold We at h
    refine tE.go hC er w h fun x st1 m1 H1 v h1 w1 g1 r1 => ?_
    obtain ⟨r, e, q⟩ := h1
    have e' : isKind C st1 x k = some r := by
      unfold isAny isAny at e
      cases e0 : isKind C st1 x k with
      | none => rw [e0] at e; cases e
      | some a =>
        rw [e0] at e
        cases e
        rw [Bool.or_false]
    exact ⟨v, x, m1, st1, r, rfl, w1, r1, e', (q.gr g1).same w1 (.bl r)⟩
/-! ### dict displays -/
inductive RpP (K : PySem.W.Frag) (T : Tab) (m : Nat → Addr) (n : Nat) (H : Hp) : List D → List (V × V) → Prop
  | nil : RpP K T m n H [] []
  | cons {k d : D} {x y : V} {r : List D} {rs : List (V × V)} : Rp K T m n H k x → Rp K T m n H d y → RpP K T m n H r rs → RpP K T m n H (k :: d :: r) ((x, y) :: rs)
/-- the pairs of a display -/
def PPD (X : L2.Cx) (T : Tab) (C : Py.Cx) (pos : Pos) (keys : List (Option Expr)) (values : List Expr) (es : Es) : Prop := ∃ trs, PPs X pos keys values trs ∧
  ∀ σ H (Qd : List (V × V) → Hp → Prop) env st m (R : List D → Sto → Prop), EnvR X.K T m st.length H env σ → Wd X.K T m st H → Wes C es env st R →
    (∀ xs st1 m1 H1 ps, R xs st1 → Wd X.K T m1 st1 H1 → Gr X.K m st.length H m1 st1.length H1 → RpP X.K T m1 st1.length H1 xs ps → Qd ps H1) → tPairs trs σ H Qd
theorem pd_nil {pos : Pos} : PPD X T C pos [] [] .nil := ⟨[], pps_nil, fun σ H Qd env st m R er w h k => by
  unfold Wes at h
  exact k [] st m H [] h w Gr.refl .nil⟩
theorem pd_cons {pos : Pos} {a b : Expr} {ks : List (Option Expr)} {vs : List Expr} {ea eb : E} {es : Es} (hC : C.Mono) (ha : PE X a (tE X.K T C ea)) (hb : PE X b (tE X.K T C eb)) (hr : PPD X T C pos ks vs es) : PPD X T C pos (some a :: ks) (b :: vs) (.cons ea (.cons eb es)) := by
  obtain ⟨trs, h1, h2⟩ := hr
  refine ⟨_, pps_cons ha hb h1, fun σ H Qd env st m R er w h k => ?_⟩
  unfold Wes at h
  refine tE.go hC er w h fun x st1 m1 H1 v q1 w1 g1 r1 => ?_
  unfold Wes at q1
  refine tE.go hC (er.gr g1) w1 q1 fun y st2 m2 H2 u q2 w2 g2 r2 => ?_
  refine h2 σ H2 _ env st2 m2 _ ((er.gr g1).gr g2) w2 q2 fun xs st3 m3 H3 ps q3 w3 g3 r3 => ?_
  exact k _ st3 m3 H3 _ q3 w3 ((g1.trans g2).trans g3) (.cons (r1.gr (g2.trans g3)) (r2.gr g3) r3)
theorem pairs_rel {m : Nat → Addr} {n : Nat} {H : Hp} {xs : List D} {vs : List (V × V)} (r : RpP K T m n H xs vs) : ∀ {ps : List (Ky × D)}, pairUp xs = some ps → ∃ kvs : List (Key × V), vs = kvs.map (fun kv => (kV kv.1, kv.2)) ∧ RpK K T ky m n H ps kvs := by
  induction r with
  | nil => intro ps h; cases h; exact ⟨[], rfl, .nil⟩
  | @cons k d x y r rs rk rd _ ih =>
    intro ps h
    have h' : (match kyOf k, pairUp r with
      | some k, some ps => some ((k, d) :: ps)
      | _, _ => none) = some ps := h
    cases e1 : kyOf k with
    | none => rw [e1] at h'; cases h'
    | some q =>
      cases e2 : pairUp r with
      | none => rw [e1, e2] at h'; cases h'
      | some qs =>
        rw [e1, e2] at h'
        cases h'
        obtain ⟨kvs, e3, r3⟩ := ih e2
        have ev := kv_rp e1 rk
        subst ev e3
        exact ⟨(ky q, y) :: kvs, rfl, .cons ⟨rfl, rd⟩ r3⟩
theorem merge_rel {m : Nat → Addr} {n : Nat} {H : Hp} {ps : List (Ky × D)} {kvs : List (Key × V)} (r : RpK K T ky m n H ps kvs) : ∀ {a : List (Ky × D)} {b : List (Key × V)}, RpK K T ky m n H a b → RpK K T ky m n H (mergeD a ps) (mergeK b kvs) := by
  unfold RpK at r
  induction r with
  | nil => intro a b h; exact h
  | @cons p q ps qs h t ih =>
    intro a b r0
    obtain ⟨e, rd⟩ := h
    obtain ⟨qk, qv⟩ := q
    have e' : qk = ky p.1 := e
    subst e'
    exact ih (put_rel (fun a b => ky_inj) p.1 rd r0)
theorem se_dct {pos : Pos} {keys : List (Option Expr)} {values : List Expr} {e : E} {es : Es} (hC : C.Mono) (h : PPD X T C pos keys values (.cons e es)) (hall : keys.all (·.isSome) = true := by rfl) (hl : keys.length = values.length := by rfl) (h0 : keys ≠ [] := by intro z; cases z) (h15 : keys.length ≤ 15 := by decide) :
    PE X (.Dict keys values pos) (tE X.K T C (.dct false (.cons e es))) := by
  obtain ⟨trs, h1, h2⟩ := h
  refine (pe_disp h1 hall hl h0 h15).imp fun σ H Q ⟨env, st, m, er, w, h⟩ p hp => ?_
  unfold We at h
  have g0 : Gr X.K m st.length H (mapAdd m st.length p) (st.length + 1) (upd H p (.dK [])) := gr_add hp
  have w0 : Wd X.K T (mapAdd m st.length p) (st ++ [.dk []]) (upd H p (.dK [])) := w.add hp ⟨[], upd_same, .nil⟩
  have ln : (st ++ [O.dk []]).length = st.length + 1 := by rw [List.length_append]; rfl
  refine h2 σ _ _ env (st ++ [.dk []]) (mapAdd m st.length p) _ (by rw [ln]; exact er.gr g0) w0 h fun xs st1 m1 H1 vs q w1 g1 r1 => ?_
  obtain ⟨ps, e1, hlen, e2, q⟩ := q
  rw [ln] at g1
  obtain ⟨ws, e3, r3⟩ := w1.obj _ _ e2
  cases r3
  have em : m1 st.length = p := by
    rw [g1.ag _ (Nat.lt_succ_self _)]
    unfold mapAdd
    rw [if_pos rfl]
  rw [em] at e3
  obtain ⟨kvs, ev, rk⟩ := pairs_rel r1 e1
  refine ⟨e3, kvs, ev, by rw [← rk.length]; exact hlen, ?_⟩
  have lt : st.length < st1.length := by have := g1.le; omega
  have z := KD.put (o := .dK (mergeK [] kvs)) (q.gr (g0.trans g1)) w1 e2 trivial trivial (.ref lt) fun g => ⟨_, upd_same, (merge_rel rk .nil).gr g⟩
  rw [em] at z
  exact z
theorem se_dct0 {pos : Pos} {b : Bool} : PE X (.Dict [] [] pos) (tE X.K T C (.dct b .nil)) := by
  refine ⟨fun pins s σ H Q I ⟨env, st, m, er, w, h⟩ => ?_⟩
  unfold We at h
  rcases h with h | h
  · exact pe_dnewK.run pins s σ H Q I fun p hp => h.new w hp fun g => ⟨[], upd_same, .nil⟩
  · exact pe_dnewT.run pins s σ H Q I fun p hp => h.new w hp fun g => ⟨[], upd_same, .nil⟩
/-! ### comprehensions -/
theorem sp_nil : PTs X [] (tT X.K T C (.e (.c (.bl true)))) := ⟨fun pins s σ H Q I ⟨env, st, m, er, w, h⟩ => pts_nil.run pins s σ H Q I (by
  unfold Wt We at h
  obtain ⟨r, e, q⟩ := h
  cases e
  exact q m H w Gr.refl)⟩
theorem lcW_live {tgt : D → Env → Sto → (Env → Sto → Prop) → Prop} {cond : Env → Sto → (Bool → Sto → Prop) → Prop} {elt : Env → Sto → K1 → Prop} {live : List (Nat × List D)} {n : Nat} {env0 : Env} {Q : K1} {xs : List D} {st : Sto} (h : lcW tgt cond elt live n env0 Q xs st) : Live st live := by
  cases xs with
  | nil => exact h.1
  | cons x xs => exact h.1
theorem lc_tE {elt : E} {vs : List Nat} {g : G} {it : I} {cond : Py.T} (hC : C.Mono) (hvs : ∀ i ∈ gsl g, i ∈ vs) (σ : L2.St) (H : Hp) (Q : VK) (h : tE X.K T C (.lc elt vs g it cond) σ H Q) :
    tLc (tI X.K T C it) (tG X.K T C g) (tT X.K T C cond) (tE X.K T C elt) vs σ H Q := by
  obtain ⟨env, st, m, er, w, h⟩ := h
  unfold We at h
  refine ⟨env, st, m, er, w, Wi_mono hC it env st _ _ (fun live xs st1 h1 m1 H1 w1 g1 J wd p hp => ?_) h⟩
  obtain ⟨G, Y, wk, hwd⟩ := wd
  have ln : (st1 ++ [O.lst []]).length = st1.length + 1 := by rw [List.length_append]; rfl
  have g2 : Gr X.K m1 st1.length H1 (mapAdd m1 st1.length p) (st1 ++ [O.lst []]).length (upd H1 p (.lst [])) := by rw [ln]; exact gr_add hp
  have w2 : Wd X.K T (mapAdd m1 st1.length p) (st1 ++ [.lst []]) (upd H1 p (.lst [])) := w1.add hp ⟨[], upd_same, .nil⟩
  have em : mapAdd m1 st1.length p st1.length = p := by unfold mapAdd; rw [if_pos rfl]
  have lt : st1.length < (st1 ++ [O.lst []]).length := by rw [ln]; exact Nat.lt_succ_self _
  refine lc_it wk (fun i H' => ∃ st' m', Wd X.K T m' st' H' ∧ Gr X.K (mapAdd m1 st1.length p) (st1 ++ [O.lst []]).length (upd H1 p (.lst [])) m' st'.length H' ∧ lcW (Wg C g) (Wt C cond) (We C elt) live st1.length (Py.wipe env vs) (KD X.K T m st.length H Q) (xs.drop i) st') ⟨_, _, w2, Gr.refl, h1⟩ ?_ ?_ ?_
  · rintro i H' hle ⟨st', m', w', g', h'⟩
    exact (hwd m' st' H' w' (g2.trans g') (lcW_live h')).1
  · rintro i x H2 H3 hlt ⟨st', m', w', g', h'⟩ hy
    obtain ⟨d, ed, w3, g3, rd⟩ := (hwd m' st' H2 w' (g2.trans g') (lcW_live h')).2 i x H3 hlt hy
    have e : xs.drop i = d :: xs.drop (i + 1) := by
      obtain ⟨hl, e'⟩ := List.getElem?_eq_some_iff.mp ed
      rw [← e', List.drop_eq_getElem_cons hl]
    rw [e] at h'
    have g13 := (g2.trans g').trans g3
    have ew := ((er.gr g1).gr g13).wipe vs
    refine tG.go hC rd ew w3 h'.2 fun env4 st4 m4 σ4 H4 h4 er4 w4 g4 o4 => ?_
    refine ⟨o4.wipe hvs, tT.go hC er4 w4 h4 fun b st5 m5 H5 h5 w5 g5 => ?_⟩
    have gg := ((g'.trans g3).trans g4).trans g5
    cases b with
    | false =>
      rw [if_neg Bool.false_ne_true] at h5 ⊢
      exact ⟨st5, m5, w5, gg, h5⟩
    | true =>
      rw [if_pos rfl] at h5 ⊢
      refine tE.go hC (er4.gr g5) w5 h5 fun y st6 m6 H6 v h6 w6 g6 r6 => ?_
      obtain ⟨acc, e1, e2, h7⟩ := h6
      obtain ⟨us, e3, r3⟩ := w6.obj _ _ e1
      have g06 := gg.trans g6
      have e4 : m6 st1.length = p := by rw [g06.ag _ lt, em]
      rw [e4] at e3
      refine ⟨us, e3, by rw [← r3.length, ← LINE_eq]; exact e2, ?_⟩
      obtain ⟨w7, g7⟩ := w6.put (o := .lst (us ++ [v])) (u' := .lst (acc ++ [y])) e1 trivial trivial fun g => ⟨_, upd_same, (r3.append (.cons r6 .nil)).gr g⟩
      rw [e4] at w7 g7
      exact ⟨_, m6, w7, by rw [List.length_set]; exact g06.trans g7, h7⟩
  · rintro H' ⟨st', m', w', g', h'⟩
    rw [List.drop_length] at h'
    have e4 : m' st1.length = p := by rw [g'.ag _ lt, em]
    have lt' : st1.length < st'.length := Nat.lt_of_lt_of_le lt g'.le
    have z := h'.2 m' H' (.ref (m' st1.length)) w' ((g1.trans g2).trans g') (.ref lt')
    rw [e4] at z
    exact z
theorem se_lc {elt tg iter : Expr} {ifs : List Expr} {scope : Scope} {own : List (Str × Nat)} {pos : Pos} {it : I} {g : G} {tc : Py.T} {te : E} (hC : C.Mono) (hc : X.calm = true) (hN : X.N.Nodup) (hi : PI X tg iter (tI X.K T C it)) (ok : BlkOk X.N X.env.scope scope own) (hvs : ∀ i ∈ gsl g, i ∈ own.map (·.2))
    (hg : ∀ (s : Shared) (H : Hp) (C0 : Addr) (cl : List (Str × Addr)) (fp : List Addr), PG (X.blk s H scope (compEnvC scope cl C0 X.env) fp) tg (tG X.K T C g)) (ht : ∀ (s : Shared) (H : Hp) (C0 : Addr) (cl : List (Str × Addr)) (fp : List Addr), PTs (X.blk s H scope (compEnvC scope cl C0 X.env) fp) ifs (tT X.K T C tc))
    (he : ∀ (s : Shared) (H : Hp) (C0 : Addr) (cl : List (Str × Addr)) (fp : List Addr), PE (X.blk s H scope (compEnvC scope cl C0 X.env) fp) elt (tE X.K T C te)) (hs : ∀ x, foldedSetIterable iter X.env x = pure x := by intro _; rfl) :
    PE X (.ListComp elt [⟨tg, iter, ifs, 0⟩] scope pos) (tE X.K T C (.lc te (own.map (·.2)) g it tc)) := (pe_lc hc hN hi ok hg ht he hs).imp fun σ H Q h => lc_tE hC hvs σ H Q h
theorem st_setLc {i : Nat} {y : Str} {py : Pos} {elt tg iter : Expr} {ifs : List Expr} {scope : Scope} {own : List (Str × Nat)} {pos spos : Pos} {it : I} {g : G} {tc : Py.T} {te : E} (hC : C.Mono) (hc : X.calm = true) (hN : X.N.Nodup) (hy : X.N[i]? = some y) (hyl : X.env.scope.names.lookup y = some .local)
    (hi : PI X tg iter (tI X.K T C it)) (ok : BlkOk X.N X.env.scope scope own) (hvs : ∀ i ∈ gsl g, i ∈ own.map (·.2))
    (hg : ∀ (s : Shared) (H : Hp) (C0 : Addr) (cl : List (Str × Addr)) (fp : List Addr), PG (X.blk s H scope (compEnvC scope cl C0 X.env) fp) tg (tG X.K T C g)) (ht : ∀ (s : Shared) (H : Hp) (C0 : Addr) (cl : List (Str × Addr)) (fp : List Addr), PTs (X.blk s H scope (compEnvC scope cl C0 X.env) fp) ifs (tT X.K T C tc))
    (he : ∀ (s : Shared) (H : Hp) (C0 : Addr) (cl : List (Str × Addr)) (fp : List Addr), PE (X.blk s H scope (compEnvC scope cl C0 X.env) fp) elt (tE X.K T C te))
    (hsw : swapsWith (.ListComp elt [⟨tg, iter, ifs, 0⟩] scope pos) (some (.Name y py)) spos.line X.env = pure true := by rfl) (hs : ∀ x, foldedSetIterable iter X.env x = pure x := by intro _; rfl) :
    PS X (.Assign [.Name y py] (.ListComp elt [⟨tg, iter, ifs, 0⟩] scope pos) spos) (tS X.K T C (.asg (.nm i) (.lc te (own.map (·.2)) g it tc))) := (ps_setLc hc hN hy hyl hsw hi ok hg ht he hs).imp fun D σ H ⟨env, st, m, er, w, h⟩ => by
  unfold Ws at h
  refine lc_tE hC hvs σ H _ ⟨env, st, m, er, w, We_mono hC _ env st _ _ (fun x s q m1 H1 v w1 g1 r1 => ?_) h⟩
  unfold Wg at q
  exact q m1 _ H1 ((er.gr g1).set r1) w1 g1
end
end Py
end
section
set_option Elab.async false
set_option linter.all false
set_option maxRecDepth 100000
set_option maxHeartbeats 2000000
namespace Py
open PySem PySem.Spec L2 PyProof.Rows
/-- what the end of a law's call must be -/
def Done (s0 : Shared) (r : Result) (s : Shared) : Prop := r = .ok (.ret (.bool true)) ∧ OldK s0.heap s.heap ∧ s.os = s0.os ∧ AllBare s.gens
section
variable {P : Program} {w : World} {K : PySem.W.Frag} {mg mb : Str → Option Value} {lv : Nat} {f a : Addr} {fd : FuncData} {x : Str} {sp : Sp} {s0 : Shared} {us : List Value} {zs : List Int}
theorem run_from (kin : K.In s0.heap) (gN : s0.heap.Ns mainGlobals mg) (bN : s0.heap.Ns builtinsNs mb) (bt : ∀ y : Str, y ≠ "__name__" → mb y = bootBuiltins y) (nl : s0.heap.NoLimit) (gn : s0.gens = #[])
    (ho : s0.heap.get? a = some { cls := .type "list", data := .seq us.toArray }) (rm : Room lv callerA) (F : ∀ base : Heap, K.In base → base.Ns mainGlobals mg → FnG P w K mg base CX0 lv f fd [x] sp) (bi : ∀ (s : Shared) (u : Value), BindsTo s fd ⟨[u], []⟩ [(x, u)])
    (H : Hp) (hO : L2.Only H) (ok : HOk P w H s0.heap) (own : ∀ b, H b ≠ none → b = a) (nk : H a ≠ none → K.lookup a = none) (h : sp [.ref a] H (fun v _ => v = .bl true) fun _ _ _ => False) : codeAny (model P w) callerA (.call (.ref f) ⟨[.ref a], []⟩) (Done s0) s0 := by
  have up : ∀ {b : Addr} {o : Obj}, s0.heap.get? b = some o → H b = none → (hidT s0.heap H).get? b = some o := fun e n => hidT_get e n
  have nd : ∀ {b : Addr} {o : Obj} {es : Array DictEntry} {ep : Nat}, s0.heap.get? b = some o → o.data = .dict es ep → H b = none := fun {b o es ep} e d => by
    cases c : H b with
    | none => rfl
    | some v =>
      have eb : b = a := own b (by rw [c]; simp)
      subst eb
      rw [ho] at e
      cases e
      exact nomatch (show Data.seq us.toArray _ = Data.dict es ep from d)
  have nu : ∀ {b : Addr} {z : Str → Option Value}, s0.heap.Ns b z → (hidT s0.heap H).Ns b z := fun {b z} ⟨o, es, ep, e, d, r⟩ => ⟨o, es, ep, up e (nd e d), d, r⟩
  have kb : K.In (hidT s0.heap H) := fun b o e => by
    refine up (kin b o e) ?_
    cases c : H b with
    | none => rfl
    | some v =>
      have eb : b = a := own b (by rw [c]; simp)
      subst eb
      rw [nk (by rw [c]; simp)] at e
      cases e
  have md : Mod K mg (hidT s0.heap H) := ⟨kb, nu gN, ⟨mb, nu bN, bt⟩, let ⟨mc, q1, q2⟩ := nl; ⟨mc, nu q1, q2⟩⟩
  have en : Env0 P w K mg (hidT s0.heap H) callerA [] s0 H := ⟨rfl, md, fun b o e => of_hidT e, Nat.le_of_eq (hidT_size _ _), trivial, fun b hb => (nomatch (show b ∈ ([] : List Addr) from hb)), ok, .of_eq gn⟩
  refine codeAny_mono ((F _ kb (nu gN)).go callerA [] s0 H ⟨[.ref a], []⟩ [.ref a] [.ref a] _ _ rm rfl en (bi s0 (.ref a)) (.cons rfl .nil) h) fun r s q => ?_
  match r, q with
  | .error e, q => exact (show False from q).elim
  | .ok .next, q => exact (show False from q).elim
  | .ok .brk, q => exact (show False from q).elim
  | .ok .cont, q => exact (show False from q).elim
  | .ok (.ret u), ⟨v, H2, eo, eb, un, ok2, rv, ev⟩ =>
    have ev : v = .bl true := ev
    subst ev
    obtain rfl : u = Value.bool true := rv
    refine ⟨rfl, OldK.of_keep fun b o e => ?_, eo, eb⟩
    rcases hO b with c | ⟨ob, xs, c⟩
    · exact un.keep b o e c (fun z => (nomatch (show b ∈ ([] : List Addr) from z))) (by simp)
    · obtain ⟨e1, _⟩ := ok b _ c
      obtain ⟨e2, _⟩ := ok2 b _ (un.frzs b ob _ c)
      rw [e] at e1
      cases e1
      exact e2
/-- the call of a law's def behind the top -/
theorem run_law (kin : K.In s0.heap) (gN : s0.heap.Ns mainGlobals mg) (bN : s0.heap.Ns builtinsNs mb) (bt : ∀ y : Str, y ≠ "__name__" → mb y = bootBuiltins y) (nl : s0.heap.NoLimit) (gn : s0.gens = #[])
    (ho : s0.heap.get? a = some { cls := .type "list", data := .seq us.toArray }) (hi : IntsAre us zs) (hl : zs.length ≤ sizeLine) (rm : Room lv callerA) (F : ∀ base : Heap, K.In base → base.Ns mainGlobals mg → FnG P w K mg base CX0 lv f fd [x] sp) (bi : ∀ (s : Shared) (u : Value), BindsTo s fd ⟨[u], []⟩ [(x, u)])
    (h : ∀ H : Hp, L2.Only H → SqL K H a (zs.map V.int) → sp [.ref a] H (fun v _ => v = .bl true) fun _ _ _ => False) : codeAny (model P w) callerA (.call (.ref f) ⟨[.ref a], []⟩) (Done s0) s0 := by
  have rv := vals_ints hi
  have ln := hi.length
  cases hk : K.lookup a with
  | some o =>
    have e := kin a o hk
    rw [ho] at e
    cases e
    have hO : L2.Only fun _ => none := fun _ => .inl rfl
    refine run_from kin gN bN bt nl gn ho rm F bi (fun _ => none) hO (fun b u z => (nomatch (show (none : Option HO) = some u from z))) (fun b z => absurd rfl z) (fun z => absurd rfl z) (h _ hO (.inr ⟨_, us.toArray, _, hk, rfl, rfl, rfl, ?_, by simpa using rv⟩))
    rw [List.size_toArray, ln]
    exact hl
  | none =>
    have hO : L2.Only fun b => if b = a then some (.frz { cls := .type "list", data := .seq us.toArray } (.lst (zs.map V.int))) else none := fun b => by
      by_cases c : b = a
      · exact .inr ⟨_, _, if_pos c⟩
      · exact .inl (if_neg c)
    refine run_from kin gN bN bt nl gn ho rm F bi _ hO (fun b u z => ?_) (fun b z => ?_) (fun _ => hk) (h _ hO (.inl (.inr ⟨_, if_pos rfl⟩)))
    · by_cases c : b = a
      · have z' := (if_pos c).symm.trans z
        cases z'
        subst c
        exact ⟨ho, by rw [List.length_map]; exact hl, us, _, rv, ho⟩
      · exact nomatch (if_neg c).symm.trans z
    · by_cases c : b = a
      · exact c
      · exact absurd (if_neg c) z
end
/-- a law: F gives the written part, the function object, the promise over every base -/
theorem walk_law {l : PySem.W.OpenLaw} {n lv : Nat} {q : Program} {loose : List Str} {XP : (Str → Option Value) → Heap → Prop} {YP : World → Heap → Prop} {d : DefRec} {x : Str} (hn : l.most = some n) (hz : n ≤ sizeLine) (hd0 : d.params.defaults = []) (rm : Room lv callerA)
    (F : ∀ (w : World) (mg : Str → Option Value) (f : Addr) (h : Heap), YP w h → h.Ns mainGlobals mg → mg d.name = some (.ref f) → ∃ (K : PySem.W.Frag) (fd : FuncData) (sp : Sp), K.In h ∧ (∀ (s : Shared) (u : Value), BindsTo s fd ⟨[u], []⟩ [(x, u)]) ∧
      (∀ (H : Hp) (a : Addr) (zs : List Int), zs.length ≤ n → L2.Only H → SqL K H a (zs.map V.int) → sp [.ref a] H (fun v _ => v = .bl true) fun _ _ _ => False) ∧ ∀ base : Heap, K.In base → base.Ns mainGlobals mg → FnG l.prog w K mg base CX0 lv f fd [x] sp) :
    PySem.W.WalkO q loose XP YP l.row.toRowW d [] (fun f us => PySem.call f us) := by
  refine Att.attach_call hn hd0 fun w t0 s0 mg mb f o pm cd doc a us zs G Y _ _ _ hg ho hi hlen gn => ?_
  obtain ⟨K, fd, sp, kin, bi, hsp, hF⟩ := F w mg f _ Y G.T.g hg
  exact run_law kin G.T.g G.T.b G.T.builtins G.T.nolimit gn ho hi (Nat.le_trans hlen hz) rm hF bi fun H hO hS => hsp H a zs hlen hO hS
/-- the script in the store -/
theorem spD_script {K : PySem.W.Frag} {T : Tab} {C : Py.Cx} {k : Nat} (hC : C.Mono) {H : Hp} {a : Addr} {zs : List Int} (hO : L2.Only H) (hS : SqL K H a (zs.map V.int)) (h : C.call k [.ref 0] [.rol (zs.map .int)] fun d _ => d = .bl true) :
    spD K T C k [.ref a] H (fun v _ => v = .bl true) fun _ _ _ => False := by
  have ri : RpA K T (fun _ => a) 1 H (zs.map .int) (zs.map V.int) := by
    induction zs with
    | nil => exact .nil
    | cons z zs ih => exact .cons (.int z) (by
        clear h hS ih
        induction zs with
        | nil => exact .nil
        | cons y ys ih => exact .cons (.int y) ih)
  refine ⟨[.ref 0], [.rol (zs.map .int)], fun _ => a, ⟨fun i j o u e1 e2 m1 m2 _ => ?_, fun i o e => ?_⟩, .cons (.ref Nat.one_pos) .nil, hC _ _ _ _ _ (fun d s e m' H' v _ _ r => by subst e; cases r; rfl) h⟩
  · match i, e1 with
    | 0, e1 => cases e1; exact m1.elim
    | i + 1, e1 => cases e1
  · match i, e with
    | 0, e =>
      cases e
      refine ⟨zs.map V.int, ?_, ri⟩
      rcases hS with (hS | ⟨ob, hS⟩) | hS
      · rcases hO a with c | ⟨ob, xs, c⟩
        · rw [hS] at c; cases c
        · rw [hS] at c; cases c
      · exact .inl ⟨ob, hS⟩
      · exact .inr fun _ => .inr hS
    | i + 1, e => cases e
end Py
end
section
set_option Elab.async false
set_option linter.all false
set_option maxRecDepth 100000
set_option maxHeartbeats 2000000
namespace Py
open PySem PySem.Spec L2 PyProof.Rows
theorem band {a b : Bool} (h : (a && b) = true) : a = true ∧ b = true := Bool.and_eq_true_iff.mp h
/-! ### the hook: facts of any form -/
def obsX (fx : List (PySem.W.Frag → Bool)) (fn : List He.DefD) (K : PySem.W.Frag) : He.AlD := ((fx.all fun q => q K) && fn.all fun d => d.ok K, fn.map fun d => He.fnW K d.at_)
def SaysX (fx : List (PySem.W.Frag → Bool)) (fn : List He.DefD) (K : PySem.W.Frag) : Prop := obsX fx fn K = He.valD fn
def obsXG (n : Nat) (fx : List (PySem.W.Frag → Bool)) (fn : List He.DefD) (g : Addr → Option Obj) : He.AlD := obsX fx fn (He.frG g (He.asD g n))
def hookX (n : Nat) (fx : List (PySem.W.Frag → Bool)) (fn : List He.DefD) : PySem.W.Hook where
  α := He.AlD
  obs := fun s => obsXG n fx fn s.heap.get?
  val := fun _ => He.valD fn
  says := fun _ h => ∃ K : PySem.W.Frag, K.In h ∧ SaysX fx fn K
  of := fun _ _ e => ⟨_, He.frG_in, e⟩
  keeps := fun _ _ _ ⟨K, kin, c⟩ k => ⟨K, PySem.W.Frag.In.keeps kin k, c⟩
theorem obsXG_eq {n : Nat} {fx : List (PySem.W.Frag → Bool)} {fn : List He.DefD} {g : Addr → Option Obj} {s : Shared} (h : ∀ a, g a = s.heap.get? a) : obsXG n fx fn g = (hookX n fx fn).obs s := by
  have e : g = s.heap.get? := funext h
  rw [e] <;> rfl
section
variable {fx : List (PySem.W.Frag → Bool)} {fn : List He.DefD} {K : PySem.W.Frag}
theorem SaysX.fact (c : SaysX fx fn K) (i : Nat) {q : PySem.W.Frag → Bool} (h : fx[i]? = some q := by rfl) : q K = true :=
  List.all_eq_true.mp (band (show ((fx.all fun q => q K) && fn.all fun d => d.ok K) = true from congrArg (fun z : He.AlD => z.1) c)).1 q (List.mem_of_getElem? h)
theorem SaysX.dfn (c : SaysX fx fn K) (i : Nat) {d : He.DefD} (h : fn[i]? = some d) : ∃ fd, FunD K d.name d.qual d.params d.body d.scope (d.dvs K) (d.kws K) (He.fAd K d.at_) fd := by
  have c2 := (band (show ((fx.all fun q => q K) && fn.all fun d => d.ok K) = true from congrArg (fun z : He.AlD => z.1) c)).2
  have e : (fn.map fun d => He.fnW K d.at_)[i]? = (fn.map He.DefD.val)[i]? := by rw [show fn.map (fun d => He.fnW K d.at_) = fn.map He.DefD.val from congrArg (fun z : He.AlD => z.2) c]
  rw [List.getElem?_map, List.getElem?_map, h] at e
  exact He.DefD.funD (Option.some.inj e) (List.all_eq_true.mp c2 d (List.mem_of_getElem? h))
end
/-! ### facts that the hook asks -/
def fGlo (x : Str) (K : PySem.W.Frag) : Bool := He.eqO (PySem.W.nsIn K mainGlobals x) (some (some (.ref (He.ga K x))))
def fFree (x : Str) (K : PySem.W.Frag) : Bool := He.eqO (PySem.W.nsIn K mainGlobals x) (some none)
section
variable {K : PySem.W.Frag} {h : Heap} {mg : Str → Option Value}
theorem fGlo_ok (X : K.In h) (G : h.Ns mainGlobals mg) {x : Str} (c : fGlo x K = true) : mg x = some (.ref (He.ga K x)) := PySem.W.mg_of X G (He.eqO_ok c)
theorem fFree_ok (X : K.In h) (G : h.Ns mainGlobals mg) {x : Str} (c : fFree x K = true) : mg x = none := PySem.W.mg_none_of X G (He.eqO_ok c)
end
/-- an exception class with an __init__ of its own -/
def oexB (K : PySem.W.Frag) (C : Addr) : Bool := match K.lookup C with
  | some ⟨.type "type", _, .cls cd, sl⟩ => (match cd.mro, sl.toList with
    | .ref C' :: bm, [_, _, _, _, some (.builtin n), _] => C' == C && n == "ValueError.__new__" && !cd.hasDel && cd.hasDict && PySem.HandSPX.refsVE bm
    | _, _ => false)
  | _ => false
def fOx (K : PySem.W.Frag) (C : Addr) : Bool := oexB K C && (He.eqO (PySem.W.findIn K (.ref C) "__setattr__") (some (some (.builtin "object.__setattr__"))) && (decide (PySem.W.subIn K (.ref C) (.type "BaseException") = some true) && (decide (PySem.W.typeIn K (.ref C) = some (.type "type")) && PySem.W.keepIn K (.ref C))))
theorem fOx_ok {K : PySem.W.Frag} {C : Addr} (h : fOx K C = true) : OexC K C := by
  obtain ⟨h1, h⟩ := band h
  obtain ⟨h2, h⟩ := band h
  obtain ⟨h3, h⟩ := band h
  obtain ⟨h4, h5⟩ := band h
  refine ⟨?_, He.eqO_ok h2, of_decide_eq_true h3, of_decide_eq_true h4, h5⟩
  unfold oexB at h1
  split at h1
  · rename_i dd cd sl ho
    split at h1
    · rename_i C' bm k0 k1 k2 k3 n k5 hm hs
      simp only [Bool.and_eq_true, beq_iff_eq, Bool.not_eq_true'] at h1
      obtain ⟨⟨⟨⟨rfl, rfl⟩, hdel⟩, hdct⟩, hre⟩ := h1
      obtain ⟨nm, bs, mro, ns, qn, hd, sn, sub, ab, col, del⟩ := cd
      dsimp only at hm hdel hdct
      subst hm hdel hdct
      have hsl : sl = #[k0, k1, k2, k3, some (.builtin "ValueError.__new__"), k5] := by
        obtain ⟨l⟩ := sl
        simp only at hs
        rw [hs]
      subst hsl
      exact ⟨nm, qn, ns, bs, bm, sn, sub, ab, col, dd, k0, k1, k2, k3, k5, ho, hre⟩
    · cases h1
  · cases h1
def fNo (K : PySem.W.Frag) (C : Addr) (ns : List Sx) : Bool := ns.all fun f => He.eqO (PySem.W.findIn K (.ref C) (tx f)) (some none)
theorem fNo_ok {K : PySem.W.Frag} {C : Addr} {ns : List Sx} (h : fNo K C ns = true) : ∀ f ∈ ns, PySem.W.findIn K (.ref C) (tx f) = some none := fun f hf => He.eqO_ok (List.all_eq_true.mp h f hf)
def fXf (K : PySem.W.Frag) (C : Addr) : Bool := xfB K C
def fInit (K : PySem.W.Frag) (C f : Addr) : Bool := He.eqO (PySem.W.findIn K (.ref C) "__init__") (some (some (.ref f))) && decide (PySem.W.typeIn K (.ref f) = some (.type "function"))
theorem fInit_ok {K : PySem.W.Frag} {C f : Addr} (h : fInit K C f = true) : PySem.W.findIn K (.ref C) "__init__" = some (some (.ref f)) ∧ PySem.W.typeIn K (.ref f) = some (.type "function") := ⟨He.eqO_ok (band h).1, of_decide_eq_true (band h).2⟩
def fExcK (K : PySem.W.Frag) (C : Addr) : Bool := (PySem.W.clsIn K C).isSome && (xfB K C && (He.eqO (PySem.W.findIn K (.ref C) "__class__") (some (some (.builtin "object.__class__"))) && decide (PySem.W.mroIn K C (.type "object") = some true)))
theorem fExcK_ok {K : PySem.W.Frag} {C : Addr} (h : fExcK K C = true) : ExcK K C := by
  obtain ⟨h1, h⟩ := band h
  obtain ⟨h2, h⟩ := band h
  obtain ⟨h3, h4⟩ := band h
  have x := xfB_ok h2
  exact ⟨h1, x.ga, x.gg, x.exC, He.eqO_ok h3, of_decide_eq_true h4⟩
def fGs (K : PySem.W.Frag) : Bool := He.eqO (PySem.W.specialIn K (.builtin "object.__class__") "__get__") (some (some (.builtin "getset_descriptor.__get__"))) && decide (PySem.W.takesIn K (.builtin "object.__class__") = some true)
def kitD (K : PySem.W.Frag) (a b : Value) (r : Bool) : Bool := decide (PySem.W.kitOne K a b = some r)
/-- what isinstance says of the class cu, whose code is k, for n classes -/
def fKind (T : PySem.W.Frag → Tab) (C : Py.Cx) (n k : Nat) (cu : PySem.W.Frag → Value) (K : PySem.W.Frag) : Bool :=
  kitD K (.type "NoneType") (cu K) false && (kitD K (.type "bool") (cu K) (k == 0 || k == 1) && (kitD K (.type "int") (cu K) (k == 0) && (kitD K (.type "str") (cu K) (k == 2) && (kitD K (.type "tuple") (cu K) (k == 3) && (kitD K (.type "list") (cu K) (k == 4) &&
  ((List.range n).all fun c => (match C.isa c k with
    | some b => kitD K (.ref ((T K).ca c)) (cu K) b
    | none => true) && (match C.isx c k with
    | some b => kitD K (.ref ((T K).ca c)) (cu K) b
    | none => true)))))))
theorem fKind_ok {T : PySem.W.Frag → Tab} {C : Py.Cx} {n k : Nat} {cu : PySem.W.Frag → Value} {K : PySem.W.Frag} (h : fKind T C n k cu K = true) (ha : ∀ c b, C.isa c k = some b → c < n) (hx : ∀ c b, C.isx c k = some b → c < n) : KindH K (T K) C k (cu K) := by
  obtain ⟨h1, h⟩ := band h
  obtain ⟨h2, h⟩ := band h
  obtain ⟨h3, h⟩ := band h
  obtain ⟨h4, h⟩ := band h
  obtain ⟨h5, h⟩ := band h
  obtain ⟨h6, h⟩ := band h
  refine ⟨of_decide_eq_true h1, of_decide_eq_true h2, of_decide_eq_true h3, of_decide_eq_true h4, of_decide_eq_true h5, of_decide_eq_true h6, fun c b e => ?_, fun c b e => ?_⟩
  · have q := (band (List.all_eq_true.mp h c (List.mem_range.mpr (ha c b e)))).1
    rw [e] at q
    exact of_decide_eq_true q
  · have q := (band (List.all_eq_true.mp h c (List.mem_range.mpr (hx c b e)))).2
    rw [e] at q
    exact of_decide_eq_true q
/-! ### exception classes -/
structure XMk (P : Program) (w : World) (K : PySem.W.Frag) (mg : Str → Option Value) (base : Heap) (C : Addr) (ns : List Sx) : Prop where
  ox : OexC K C
  ex : ∃ fI fd ps, PySem.W.findIn K (.ref C) "__init__" = some (some (.ref fI)) ∧ PySem.W.typeIn K (.ref fI) = some (.type "function") ∧ FnG P w K mg base CX0 1 fI fd ps (spX K C ns) ∧ Binds K fd ps []
section
variable {T : Tab} {C : Py.Cx} {X : L2.Cx}
theorem se_excM {lv c : Nat} {ns : List Sx} {x : Str} {e : Expr} {es : List Expr} {eas : Es} {p pos : Pos} (hC : C.Mono) (hxc : C.xc c = some ns) (hl : ns.length ≤ 2) (nd : ns.Nodup) (M : XMk X.prog X.w X.K X.mg X.base (T.ca c) ns) (hr : Room lv X.A) (h2 : 2 ≤ lv) (gd : X.A.guards = some [])
    (hg : Gl X x) (hm : X.mg x = some (.ref (T.ca c))) (ha : PA X (e :: es) (tA X.K T C eas)) (hdb : (x == ("__debug__" : Str)) = false := by decide) (he : starEach (e :: es) X.env = (false, eval e X.env) :: starEach es X.env := by rfl)
    (hpl : (backTo pos (starEach es X.env)).any (·.1) = false := by rfl) : PE X (.Call (.Name x p) (e :: es) [] pos) (tE X.K T C (.exc c eas)) := by
  obtain ⟨fI, fd, ps, h3, h4, h5, h6⟩ := M.ex
  exact se_exc hC hxc hl nd M.ox h3 h4 h5 (hr.mono h2) gd h6 hg hm ha hdb he hpl
end
/-! ### a def's body: from one level to the next -/
def envS (n : Nat) (xs : List D) : Env := xs.map some ++ List.replicate (n - xs.length) none
theorem envS_rel {K : PySem.W.Frag} {T : Tab} {m : Nat → Addr} {n : Nat} {H : Hp} {N : List Str} {xs : List D} {vs : List V} (r : RpA K T m n H xs vs) : EnvR K T m n H (envS N.length xs) (L2.start N vs) := by
  unfold envS L2.start
  refine ⟨by simp [r.length], fun i d e => ?_⟩
  by_cases h : i < xs.length
  · rw [List.getElem?_append_left (by simpa using h), List.getElem?_map] at e
    cases e1 : xs[i]? with
    | none => rw [e1] at e; cases e
    | some y =>
      rw [e1] at e
      cases e
      obtain ⟨v, h1, h2⟩ := r.get e1
      refine ⟨v, ?_, h2⟩
      rw [List.getElem?_append_left (by rw [List.length_map, ← r.length]; exact h), List.getElem?_map, h1] <;> rfl
  · rw [List.getElem?_append_right (by simpa using Nat.le_of_not_lt h)] at e
    have := List.mem_replicate.mp (List.mem_of_getElem? e)
    exact nomatch this.2
def bodyK (Q : K1) : KS := ⟨fun _ st => Q .non st, Q, fun _ _ => False, fun _ _ => False⟩
theorem FnG.stepD {P : Program} {w : World} {K : PySem.W.Frag} {mg : Str → Option Value} {base : Heap} {T : Tab} {C C' : Py.Cx} {lv k : Nat} {nm qual : Str} {params : Arguments} {body : List Stmt} {scope : Scope} {N ps : List Str} {fd : FuncData} {ss : Ss} (hC : C.Mono)
    (F : FunD K nm qual params body scope [] [] (T.fa k) fd) (S : FnScope N ps scope) (hcall : ∀ xs st Q, C'.call k xs st Q → xs.length = ps.length ∧ Wss C ss (envS N.length xs) st (bodyK Q))
    (hb : ∀ cd A up s H E, Room lv (A.deeper (envOfC qual scope s.heap.objs.size (T.fa k) cd)) → A.guards = some [] → PSs (cxOf CX0 P w K mg base N qual scope (T.fa k) cd A up s H E).nox body (tSs K T C ss)) : FnG P w K mg base CX0 (lv + 1) (T.fa k) fd ps (spD K T C' k) := by
  refine FnG.body F S (fun xs H Q E ⟨ds, st, m, w0, r, h⟩ => ?_) fun cd A up s H xs Q E rm gd ⟨ds, st, m, w0, r, h⟩ => ⟨_, (hb cd A up s H E rm gd).nox, ?_⟩
  · rw [← r.length]
    exact (hcall _ _ _ h).1
  · have h2 := (hcall _ _ _ h).2
    exact ⟨_, st, m, envS_rel r, w0, Wss_mono hC ss _ st (bodyK (KD K T m st.length H Q)) _ ⟨fun e s q m1 σ1 H1 _ w1 g1 => q m1 H1 .non w1 g1 .non, fun _ _ q => q, fun _ _ (q : False) => q.elim, fun _ _ (q : False) => q.elim⟩ h2⟩
theorem FnH.step {P : Program} {w : World} {K : PySem.W.Frag} {mg : Str → Option Value} {base : Heap} {T : Tab} {C C' : Py.Cx} {lv k : Nat} {nm qual : Str} {params : Arguments} {body : List Stmt} {scope : Scope} {N ps : List Str} {fd : FuncData} {ss : Ss} (hC : C.Mono)
    (F : FunD K nm qual params body scope [] [] (T.fa k) fd) (S : FnScope N ps scope) (bi : Binds K fd ps []) (hcall : ∀ xs st Q, C'.call k xs st Q → xs.length = ps.length ∧ Wss C ss (envS N.length xs) st (bodyK Q))
    (hb : ∀ cd A up s H E, Room lv (A.deeper (envOfC qual scope s.heap.objs.size (T.fa k) cd)) → A.guards = some [] → PSs (cxOf CX0 P w K mg base N qual scope (T.fa k) cd A up s H E).nox body (tSs K T C ss)) : FnH P w K mg base T C' (lv + 1) k :=
  ⟨fd, ps, FnG.stepD hC F S hcall hb, F.kp, bi⟩
/-- at no depth nothing is promised -/
theorem FnH.zero {P : Program} {w : World} {K : PySem.W.Frag} {mg : Str → Option Value} {base : Heap} {T : Tab} {C : Py.Cx} {lv k : Nat} {nm qual : Str} {params : Arguments} {body : List Stmt} {scope : Scope} {ps : List Str} {fd : FuncData}
    (F : FunD K nm qual params body scope [] [] (T.fa k) fd) (bi : Binds K fd ps []) (no : ∀ xs st Q, ¬ C.call k xs st Q) : FnH P w K mg base T C lv k :=
  ⟨fd, ps, ⟨fun xs H Q E ⟨_, _, _, _, _, h⟩ => (no _ _ _ h).elim, fun A up s H ar us xs Q E _ _ _ _ _ ⟨_, _, _, _, _, h⟩ => (no _ _ _ h).elim⟩, F.kp, bi⟩
end Py
end
section
set_option autoImplicit false
set_option linter.all false
namespace Py
/-! ### loops with an invariant -/
theorem forW_ind {C : Cx} (hC : C.Mono) {g : G} {b : Ss} {live : List (Nat × List D)} {K : KS} (I : Nat → Env → Sto → Prop) (hl : ∀ i env st, I i env st → Live st live) : ∀ {xs : List D} {env : Env} {st : Sto} (k : Nat),
    I k env st → (∀ i x env st, xs[i]? = some x → I (k + i) env st → Wg C g x env st fun env1 st1 => Wss C b env1 st1 { nx := I (k + i + 1), ct := I (k + i + 1), bk := K.nx, rt := K.rt }) → (∀ env st, I (k + xs.length) env st → K.nx env st) →
    forW (Wg C g) (Wss C b) live K xs env st
  | [], env, st, k, h0, _, hd => ⟨hl _ _ _ h0, hd _ _ h0⟩
  | x :: xs, env, st, k, h0, hs, hd => ⟨hl _ _ _ h0, Wg_mono hC g x env st _ _ (fun env1 st1 h1 => by
      have nxt : ∀ e s, I (k + 1) e s → forW (Wg C g) (Wss C b) live K xs e s := fun e s h => forW_ind hC I hl (k + 1) h (fun i y e1 s1 hy h2 => by
        have e : k + 1 + i = k + (i + 1) := by omega
        rw [e] at h2 ⊢
        exact hs (i + 1) y e1 s1 (by simpa using hy) h2) (fun e1 s1 h2 => hd e1 s1 (by
          have e : k + 1 + xs.length = k + (x :: xs).length := by simp; omega
          rw [← e]
          exact h2))
      exact Wss_mono hC b env1 st1 { nx := I (k + 1), ct := I (k + 1), bk := K.nx, rt := K.rt } _ ⟨nxt, fun _ _ q => q, fun _ _ q => q, nxt⟩ h1) (hs 0 x env st rfl h0)⟩
theorem lcW_ind {C : Cx} (hC : C.Mono) {g : G} {t : T} {e : E} {live : List (Nat × List D)} {n : Nat} {env0 : Env} {Q : K1} (I : Nat → Sto → Prop) (hl : ∀ i st, I i st → Live st live) : ∀ {xs : List D} {st : Sto} (k : Nat),
    I k st → (∀ i x st, xs[i]? = some x → I (k + i) st → Wg C g x env0 st fun env1 st1 => Wt C t env1 st1 fun b st2 => if b = true then We C e env1 st2 fun y st3 => ∃ acc, st3[n]? = some (.lst acc) ∧ acc.length < LINE ∧ I (k + i + 1) (st3.set n (.lst (acc ++ [y]))) else I (k + i + 1) st2) →
    (∀ st, I (k + xs.length) st → Q (.ref n) st) → lcW (Wg C g) (Wt C t) (We C e) live n env0 Q xs st
  | [], st, k, h0, _, hd => ⟨hl _ _ h0, hd _ h0⟩
  | x :: xs, st, k, h0, hs, hd => ⟨hl _ _ h0, Wg_mono hC g x env0 st _ _ (fun env1 st1 h1 => by
      have nxt : ∀ s, I (k + 1) s → lcW (Wg C g) (Wt C t) (We C e) live n env0 Q xs s := fun s h => lcW_ind hC I hl (k + 1) h (fun i y s1 hy h2 => by
        have e : k + 1 + i = k + (i + 1) := by omega
        rw [e] at h2 ⊢
        exact hs (i + 1) y s1 (by simpa using hy) h2) (fun s1 h2 => hd s1 (by
          have e : k + 1 + xs.length = k + (x :: xs).length := by simp; omega
          rw [← e]
          exact h2))
      refine Wt_mono hC t env1 st1 _ _ (fun b st2 h2 => ?_) h1
      cases b with
      | false => exact nxt _ h2
      | true => exact We_mono hC e env1 st2 _ _ (fun y st3 ⟨acc, h3, h4, h5⟩ => ⟨acc, h3, h4, nxt _ h5⟩) h2) (hs 0 x st rfl h0)⟩
end Py
end
section
set_option autoImplicit false
set_option linter.all false
namespace Py
/-! ### small helps for walks in plain Lean -/
def dropS : Nat → Ss → Ss
  | 0, ss => ss
  | _ + 1, .nil => .nil
  | n + 1, .cons _ ss => dropS n ss
theorem ix_dk {st : Sto} {p : Nat} {kvs : List (Ky × D)} {k d : D} (h : st[p]? = some (.dk kvs)) (e : getO (.dk kvs) k = some (some d)) : ixD st (.ref p) k = some d := by
  simp only [ixD, h]
  rw [e]
  rfl
theorem ix_lst {st : Sto} {p : Nat} {xs : List D} {i : Int} {d : D} (h : st[p]? = some (.lst xs)) (e : atI xs i = some d) : ixD st (.ref p) (.int i) = some d := by
  simp only [ixD, h]
  exact e
theorem len_lst {st : Sto} {p : Nat} {xs : List D} (h : st[p]? = some (.lst xs)) : lenD st (.ref p) = some xs.length := by
  simp only [lenD, h]
theorem lstAt_lst {st : Sto} {p : Nat} {xs : List D} (h : st[p]? = some (.lst xs)) : lstAt st p = some xs := by
  simp only [lstAt, h]
theorem lstAt_rol {st : Sto} {p : Nat} {xs : List D} (h : st[p]? = some (.rol xs)) : lstAt st p = some xs := by
  simp only [lstAt, h]
/-- only what stands at p may have changed; more may have come -/
structure Fr (p : Nat) (st st' : Sto) : Prop where
  len : st.length ≤ st'.length
  ot : ∀ i o, i ≠ p → st[i]? = some o → st'[i]? = some o
theorem Fr.refl {p : Nat} {st : Sto} : Fr p st st := ⟨Nat.le_refl _, fun _ _ _ h => h⟩
theorem Fr.trans {p : Nat} {a b c : Sto} (f : Fr p a b) (g : Fr p b c) : Fr p a c := ⟨Nat.le_trans f.len g.len, fun i o n h => g.ot i o n (f.ot i o n h)⟩
theorem Fr.set {p : Nat} {st : Sto} {o : O} : Fr p st (st.set p o) := ⟨by rw [List.length_set]; exact Nat.le_refl _, fun i u n h => by rw [List.getElem?_set_ne (Ne.symm n)]; exact h⟩
theorem Fr.app {p : Nat} {st l : Sto} : Fr p st (st ++ l) := ⟨by simp, fun i u n h => by
  rw [List.getElem?_append_left (List.getElem?_eq_some_iff.mp h).1]
  exact h⟩
theorem set_at {st : Sto} {p : Nat} {x y : O} (h : st[p]? = some x) : (st.set p y)[p]? = some y := List.getElem?_set_self (List.getElem?_eq_some_iff.mp h).1
theorem set_ot {st : Sto} {p q : Nat} {y u : O} (h : st[q]? = some u) (n : q ≠ p) : (st.set p y)[q]? = some u := by
  rw [List.getElem?_set_ne (Ne.symm n)]
  exact h
theorem app_at {st l : Sto} {p : Nat} {x : O} (h : st[p]? = some x) : (st ++ l)[p]? = some x := by
  rw [List.getElem?_append_left (List.getElem?_eq_some_iff.mp h).1]
  exact h
theorem new_at {st : Sto} {o : O} : (st ++ [o])[st.length]? = some o := by simp
theorem atI_nat {α : Type} {xs : List α} {k : Nat} {x : α} (h : xs[k]? = some x) : atI xs (k : Int) = some x := by
  have lt := (List.getElem?_eq_some_iff.mp h).1
  unfold atI atN
  rw [if_pos (by omega), if_pos (by omega)]
  simpa using h
theorem atI_pos {α : Type} {xs : List α} {i : Int} {x : α} (h0 : 0 ≤ i) (h : xs[i.toNat]? = some x) : atI xs i = some x := by
  have e : ((i.toNat : Nat) : Int) = i := by omega
  rw [← e]
  exact atI_nat h
theorem emod_in {a b : Int} (h : 0 < b) : 0 ≤ a % b ∧ a % b < b := ⟨Int.emod_nonneg a (by omega), Int.emod_lt_of_pos a h⟩
theorem log2_small {i : Int} {k : Nat} (h : i.natAbs < 2 ^ k) : i.natAbs.log2 < k ∨ i.natAbs = 0 := by
  by_cases z : i.natAbs = 0
  · exact .inr z
  · exact .inl ((Nat.log2_lt z).mpr h)
theorem log2_le {i : Int} {k : Nat} (h : i.natAbs < 2 ^ k) : i.natAbs.log2 ≤ k := by
  rcases log2_small h with h | h
  · omega
  · rw [h]; simp
theorem it_t {b : Bool} {p q : Prop} (h : b = true) (w : p) : if b = true then p else q := by rw [if_pos h]; exact w
theorem it_f {b : Bool} {p q : Prop} (h : b = false) (w : q) : if b = true then p else q := by rw [if_neg (by rw [h]; decide)]; exact w
theorem we_bi1 {C : Cx} {b : Bi} {e : E} {env : Env} {st : Sto} {Q : K1} (h : We C e env st fun x st1 => wBi C.rp b [x] st1 Q) : We C (.bi b (.cons e .nil)) env st Q := h
theorem we_call1 {C : Cx} {k : Nat} {a : E} {env : Env} {st : Sto} {Q : K1} (h : We C a env st fun x st1 => C.call k [x] st1 Q) : We C (.call k (.cons a .nil)) env st Q := h
theorem we_call2 {C : Cx} {k : Nat} {a b : E} {env : Env} {st : Sto} {Q : K1} (h : We C a env st fun x st1 => We C b env st1 fun y st2 => C.call k [x, y] st2 Q) : We C (.call k (.cons a (.cons b .nil))) env st Q := h
theorem we_call3 {C : Cx} {k : Nat} {a b c : E} {env : Env} {st : Sto} {Q : K1} (h : We C a env st fun x st1 => We C b env st1 fun y st2 => We C c env st2 fun z st3 => C.call k [x, y, z] st3 Q) : We C (.call k (.cons a (.cons b (.cons c .nil)))) env st Q := h
theorem wss_asg {C : Cx} {g : G} {e : E} {ss : Ss} {env : Env} {st : Sto} {K : KS} (h : We C e env st fun x st1 => Wg C g x env st1 fun e s => Wss C ss e s K) : Wss C (.cons (.asg g e) ss) env st K := h
theorem wss_set {C : Cx} {i : Nat} {e : E} {ss : Ss} {env : Env} {st : Sto} {K : KS} (h : We C e env st fun x st1 => Wss C ss (env.set i (some x)) st1 K) : Wss C (.cons (.asg (.nm i) e) ss) env st K := h
theorem wss_ret {C : Cx} {e : E} {ss : Ss} {env : Env} {st : Sto} {K : KS} (h : We C e env st K.rt) : Wss C (.cons (.ret e) ss) env st K := h
theorem wss_ex {C : Cx} {e : E} {ss : Ss} {env : Env} {st : Sto} {K : KS} (h : We C e env st fun _ st1 => Wss C ss env st1 K) : Wss C (.cons (.ex e) ss) env st K := h
theorem wss_ife {C : Cx} {t : T} {a b ss : Ss} {env : Env} {st : Sto} {K : KS} (h : Wt C t env st fun r st1 => if r = true then Wss C a env st1 { K with nx := fun e s => Wss C ss e s K } else Wss C b env st1 { K with nx := fun e s => Wss C ss e s K }) : Wss C (.cons (.ife t a b) ss) env st K := h
theorem wss_for {C : Cx} {g : G} {it : I} {b ss : Ss} {env : Env} {st : Sto} {K : KS} (h : Wi C it env st fun live xs st1 => forW (Wg C g) (Wss C b) live { K with nx := fun e s => Wss C ss e s K } xs env st1) : Wss C (.cons (.for_ g it b) ss) env st K := h
theorem wes_cons {C : Cx} {e : E} {es : Es} {env : Env} {st : Sto} {Q : List D → Sto → Prop} (h : We C e env st fun x st1 => Wes C es env st1 fun xs st2 => Q (x :: xs) st2) : Wes C (.cons e es) env st Q := h
theorem wes_c {C : Cx} {d : D} {es : Es} {env : Env} {st : Sto} {Q : List D → Sto → Prop} (h : Wes C es env st fun xs st2 => Q (d :: xs) st2) : Wes C (.cons (.c d) es) env st Q := h
theorem we_tup {C : Cx} {es : Es} {env : Env} {st : Sto} {Q : K1} (h : Wes C es env st fun xs st1 => xs.length ≤ LINE ∧ Q (.tup xs) st1) : We C (.tup es) env st Q := h
theorem we_lst {C : Cx} {es : Es} {env : Env} {st : Sto} {Q : K1} (h : Wes C es env st fun xs st1 => xs.length ≤ LINE ∧ Q (.ref st1.length) (st1 ++ [.lst xs])) : We C (.lst es) env st Q := h
theorem we_lc {C : Cx} {elt : E} {vs : List Nat} {tg : G} {it : I} {cond : T} {env : Env} {st : Sto} {Q : K1} (h : Wi C it env st fun live xs st1 => lcW (Wg C tg) (Wt C cond) (We C elt) live st1.length (wipe env vs) Q xs (st1 ++ [.lst []])) : We C (.lc elt vs tg it cond) env st Q := h
theorem set_new {st : Sto} {o u : O} : (st ++ [o]).set st.length u = st ++ [u] := by simp
theorem fld_exc {C : Cx} {st : Sto} {n c : Nat} {fs : List (Sx × D)} {f : Sx} {ns : List Sx} {d : D} (h : st[n]? = some (.exc c fs)) (hx : C.xc c = some ns) (hc : ns.contains f = true) (g : getF f fs = some d) : fldD C st n f = some d := by
  simp only [fldD, h, hx]
  rw [if_pos hc]
  exact g
theorem kind_exc {C : Cx} {st : Sto} {n c k : Nat} {fs : List (Sx × D)} {b : Bool} (h : st[n]? = some (.exc c fs)) (e : C.isx c k = some b) : isAny C st (.ref n) [k] = some b := by
  simp only [isAny, isKind, h, e, Bool.or_false]
theorem w_len {rp : P → Sx} {st : Sto} {p : Nat} {xs : List D} {Q : K1} (h : st[p]? = some (.lst xs)) (q : Q (.int xs.length) st) : wBi rp .len [.ref p] st Q := .inl ⟨.int xs.length, by
  show (lenD st (.ref p)).map (fun n => D.int n) = _
  rw [len_lst h] <;> rfl, q⟩
theorem w_lenR {rp : P → Sx} {st : Sto} {p : Nat} {xs : List D} {Q : K1} (h : st[p]? = some (.rol xs)) (q : Q (.int xs.length) st) : wBi rp .len [.ref p] st Q := .inl ⟨.int xs.length, by
  show (lenD st (.ref p)).map (fun n => D.int n) = _
  rw [show lenD st (.ref p) = some xs.length by simp only [lenD, h]] <;> rfl, q⟩
theorem w_list {rp : P → Sx} {st : Sto} {p : Nat} {xs : List D} {Q : K1} (h : lstAt st p = some xs) (q : Q (.ref st.length) (st ++ [.lst xs])) : wBi rp .list [.ref p] st Q := .inr ⟨.lst xs, by
  show (lstAt st p).map O.lst = _
  rw [h] <;> rfl, q⟩
theorem w_repr {rp : P → Sx} {st : Sto} {x : D} {p : P} {Q : K1} (h : toP st 50 x = some p) (o : repOk p = true) (q : Q (.str (rp p)) st) : wBi rp .repr [x] st Q := .inl ⟨.str (rp p), by
  show (match toP st 50 x with
    | some p => if repOk p = true then some (D.str (rp p)) else none
    | none => none) = _
  rw [h]
  exact if_pos o, q⟩
theorem w_lenT {rp : P → Sx} {st : Sto} {xs : List D} {Q : K1} (q : Q (.int xs.length) st) : wBi rp .len [.tup xs] st Q := .inl ⟨_, rfl, q⟩
theorem rcv_lst {st : Sto} {p : Nat} {xs : List D} {b : Bm} (h : st[p]? = some (.lst xs)) (hb : dctM b = false) : rcvOk st (.ref p) b = true := by
  unfold rcvOk
  rw [hb, if_neg (by decide)]
  show (lstAt st p).isSome = true
  rw [lstAt_lst h] <;> rfl
theorem bm_app {st : Sto} {p : Nat} {xs : List D} {y : D} (h : st[p]? = some (.lst xs)) (hl : xs.length < LINE) : bmD st .append (.ref p) [y] = some (.non, st.set p (.lst (xs ++ [y]))) := by
  simp only [bmD, h]
  exact if_pos hl
theorem ne_str {st : Sto} {s : Sx} : cmpD st .ne (.str s) (.str s) = some false := by
  show some (!(s == s)) = _
  simp
def forBody : Ss → Ss
  | .cons (.for_ _ _ b) _ => b
  | _ => .nil
theorem omap_bl (st : Sto) (n : Nat) : ∀ bs : List Bool, omap (toP st (n + 1)) (bs.map D.bl) = some (bs.map P.bl)
  | [] => rfl
  | b :: bs => by simp [omap, toP, omap_bl st n bs]
theorem eqPs_bl : ∀ bs : List Bool, eqPs (bs.map P.bl) (bs.map P.bl) = true
  | [] => rfl
  | b :: bs => by
    show (b == b && eqPs (bs.map P.bl) (bs.map P.bl)) = true
    rw [eqPs_bl bs]
    simp
/-- two lists of the same bools are alike -/
theorem ne_bls {st : Sto} {m n : Nat} {bs : List Bool} (h : st[m]? = some (.lst (bs.map .bl))) (g : st[n]? = some (.lst (bs.map .bl))) : cmpD st .ne (.ref m) (.ref n) = some false := by
  have e : ∀ {k : Nat}, st[k]? = some (.lst (bs.map .bl)) → toP st 60 (.ref k) = some (.lst (bs.map .bl)) := by
    intro k q
    show (match lstAt st k with
      | some xs => (omap (toP st 59) xs).map P.lst
      | none => none) = _
    rw [lstAt_lst q]
    show (omap (toP st 59) (bs.map D.bl)).map P.lst = _
    rw [omap_bl st 58 bs] <;> rfl
  show (eqD st (.ref m) (.ref n)).map (!·) = _
  unfold eqD
  rw [e h, e g]
  show some (!eqPs (bs.map P.bl) (bs.map P.bl)) = _
  rw [eqPs_bl] <;> rfl
theorem live_nil {st : Sto} : Live st [] := fun _ z => absurd z List.not_mem_nil
theorem sl_tup {xs : List D} {lo hi : Option Int} {st : Sto} {Q : K1} (h : Q (.tup (cut xs lo hi)) st) : wSl (.tup xs) lo hi st Q := h
theorem w_sub {i j : Int} {st : Sto} {Q : K1} (h : Q (.int (i - j)) st) : wBin .sub (.int i) (.int j) st Q := h
theorem w_add {i j : Int} {st : Sto} {Q : K1} (h : Q (.int (i + j)) st) : wBin .add (.int i) (.int j) st Q := h
end Py
end
section
set_option autoImplicit false
set_option maxRecDepth 100000
namespace Py.K00
/-! the texts, the defs, the levels; printed by gen.py -/
abbrev s_fold : Sx := [102, 111, 108, 100]
abbrev s_count : Sx := [99, 111, 117, 110, 116]
abbrev s_digits : Sx := [100, 105, 103, 105, 116, 115]
abbrev s_at : Sx := [97, 116]
abbrev s_cells : Sx := [99, 101, 108, 108, 115]
abbrev s_name : Sx := [110, 97, 109, 101]
abbrev s_line : Sx := [108, 105, 110, 101]
abbrev s_column : Sx := [99, 111, 108, 117, 109, 110]
abbrev s_what : Sx := [119, 104, 97, 116]
abbrev s_number : Sx := [110, 117, 109, 98, 101, 114]
abbrev s_promise : Sx := [112, 114, 111, 109, 105, 115, 101]
abbrev s_witness : Sx := [119, 105, 116, 110, 101, 115, 115]
abbrev s_word : Sx := [119, 111, 114, 100]
abbrev s_game : Sx := [103, 97, 109, 101]
abbrev s_goal : Sx := [103, 111, 97, 108]
abbrev s_plan : Sx := [112, 108, 97, 110]
abbrev s_play : Sx := [112, 108, 97, 121]
abbrev s_job : Sx := [106, 111, 98]
abbrev s_answers : Sx := [97, 110, 115, 119, 101, 114, 115]
abbrev s_paper : Sx := [112, 97, 112, 101, 114]
abbrev s_ : Sx := []
abbrev s_log : Sx := [108, 111, 103]
abbrev s_b : Sx := [98]
abbrev s_c : Sx := [99]
/-- _law_pen: 0 script, 1 fold, 2 cell -/
def ir__law_pen : Ss := (.cons (.asg (.nm 1) (.c (.int 0)))
    (.cons (.for_ (.nm 2) (.seq (.v 0)) (.cons (.asg (.nm 1) (.bin .mod (.bi .int (.cons (.bin .add (.bin .mul (.v 1) (.c (.int 173))) (.v 2)) .nil)) (.c (.int 1000000033))))
    .nil))
    (.cons (.ret (.dct false (.cons (.c (.str s_cells)) (.cons (.bi .list (.cons (.v 0) .nil)) (.cons (.c (.str s_at)) (.cons (.c (.int 0)) (.cons (.c (.str s_digits)) (.cons (.c (.int 0)) (.cons (.c (.str s_count)) (.cons (.c (.int 0)) (.cons (.c (.str s_fold)) (.cons (.v 1) .nil))))))))))))
    .nil)))
/-- _law_draw: 0 pen, 1 many, 2 cell, 3 digit, 4 blend -/
def ir__law_draw : Ss := (.cons (.asg (.sub (.v 0) (.c (.str s_count))) (.bin .add (.ix (.v 0) (.c (.str s_count))) (.c (.int 1))))
    (.cons (.ife (.and (.e (.cmp .eq (.ix (.v 0) (.c (.str s_digits))) (.c (.int 0)))) (.e (.cmp .lt (.ix (.v 0) (.c (.str s_at))) (.bi .len (.cons (.ix (.v 0) (.c (.str s_cells))) .nil))))) (.cons (.asg (.nm 2) (.ix (.ix (.v 0) (.c (.str s_cells))) (.ix (.v 0) (.c (.str s_at)))))
    (.cons (.asg (.sub (.v 0) (.c (.str s_at))) (.bin .add (.ix (.v 0) (.c (.str s_at))) (.c (.int 1))))
    (.cons (.ife (.e (.cmp .ge (.v 2) (.bin .pow (.c (.int 10)) (.c (.int 18))))) (.cons (.asg (.sub (.v 0) (.c (.str s_digits))) (.bin .sub (.v 2) (.bin .pow (.c (.int 10)) (.c (.int 18)))))
    .nil) (.cons (.asg (.sub (.v 0) (.c (.str s_fold))) (.bin .mod (.bi .int (.cons (.bin .add (.bin .mul (.ix (.v 0) (.c (.str s_fold))) (.c (.int 73673))) (.v 2)) .nil)) (.c (.int 2147483543))))
    .nil))
    .nil))) .nil)
    (.cons (.ife (.e (.cmp .gt (.ix (.v 0) (.c (.str s_digits))) (.c (.int 0)))) (.cons (.asg (.nm 3) (.bin .mod (.bi .int (.cons (.ix (.v 0) (.c (.str s_digits))) .nil)) (.v 1)))
    (.cons (.asg (.sub (.v 0) (.c (.str s_digits))) (.bin .fdiv (.ix (.v 0) (.c (.str s_digits))) (.v 1)))
    (.cons (.ret (.v 3))
    .nil))) .nil)
    (.cons (.asg (.nm 4) (.bin .add (.bin .add (.ix (.v 0) (.c (.str s_fold))) (.bin .mul (.ix (.v 0) (.c (.str s_count))) (.c (.int 9739)))) (.c (.int 173))))
    (.cons (.ret (.bin .mod (.bin .fdiv (.bi .int (.cons (.bin .mod (.bin .pow (.v 4) (.c (.int 23))) (.c (.int 2305843009213693951))) .nil)) (.c (.int 128))) (.v 1)))
    .nil)))))
/-- _law_pick: 0 pen, 1 some -/
def ir__law_pick : Ss := (.cons (.ret (.ix (.v 1) (.call 1 (.cons (.v 0) (.cons (.bi .len (.cons (.v 1) .nil)) .nil)))))
    .nil)
/-- _law_one: 0 kind, 1 a, 2 b, 3 e -/
def ir__law_one : Ss := (.cons (.ife (.e (.cmp .lt (.v 0) (.c (.int 3)))) (.cons (.asg (.nm 3) (.ix (.lst (.cons (.exc 3 (.cons (.v 1) .nil)) (.cons (.exc 4 (.cons (.v 1) .nil)) (.cons (.exc 5 (.cons (.v 1) .nil)) .nil)))) (.v 0)))
    (.cons (.ret (.tup (.cons (.v 3) (.cons (.tup (.cons (.att (.v 3) s_name) .nil)) .nil))))
    .nil)) .nil)
    (.cons (.ife (.e (.cmp .lt (.v 0) (.c (.int 12)))) (.cons (.ret (.call 4 (.cons (.v 0) (.cons (.v 1) .nil))))
    .nil) .nil)
    (.cons (.ife (.e (.cmp .eq (.v 0) (.c (.int 12)))) (.cons (.asg (.nm 3) (.exc 1 (.cons (.v 1) (.cons (.v 2) .nil))))
    (.cons (.ret (.tup (.cons (.v 3) (.cons (.tup (.cons (.att (.v 3) s_line) (.cons (.att (.v 3) s_column) .nil))) .nil))))
    .nil)) .nil)
    (.cons (.ife (.e (.cmp .eq (.v 0) (.c (.int 13)))) (.cons (.asg (.nm 3) (.exc 2 (.cons (.v 1) (.cons (.v 2) .nil))))
    (.cons (.ret (.tup (.cons (.v 3) (.cons (.tup (.cons (.att (.v 3) s_what) (.cons (.att (.v 3) s_number) .nil))) .nil))))
    .nil)) .nil)
    (.cons (.ife (.e (.cmp .eq (.v 0) (.c (.int 14)))) (.cons (.asg (.nm 3) (.exc 15 (.cons (.v 1) (.cons (.v 2) .nil))))
    (.cons (.ret (.tup (.cons (.v 3) (.cons (.tup (.cons (.att (.v 3) s_promise) (.cons (.att (.v 3) s_witness) .nil))) .nil))))
    .nil)) .nil)
    (.cons (.ret (.tup (.cons (.ife (.e (.cmp .eq (.v 0) (.c (.int 15)))) (.exc 16 .nil) (.exc 17 .nil)) (.cons (.tup .nil) .nil))))
    .nil))))))
/-- _law_single: 0 kind, 1 a, 2 e -/
def ir__law_single : Ss := (.cons (.ife (.e (.cmp .eq (.v 0) (.c (.int 3)))) (.cons (.asg (.nm 2) (.exc 6 (.cons (.v 1) .nil)))
    (.cons (.ret (.tup (.cons (.v 2) (.cons (.tup (.cons (.att (.v 2) s_word) .nil)) .nil))))
    .nil)) .nil)
    (.cons (.ife (.e (.cmp .eq (.v 0) (.c (.int 4)))) (.cons (.asg (.nm 2) (.exc 7 (.cons (.v 1) .nil)))
    (.cons (.ret (.tup (.cons (.v 2) (.cons (.tup (.cons (.att (.v 2) s_game) .nil)) .nil))))
    .nil)) .nil)
    (.cons (.ife (.e (.cmp .eq (.v 0) (.c (.int 5)))) (.cons (.asg (.nm 2) (.exc 8 (.cons (.v 1) .nil)))
    (.cons (.ret (.tup (.cons (.v 2) (.cons (.tup (.cons (.att (.v 2) s_goal) .nil)) .nil))))
    .nil)) .nil)
    (.cons (.ife (.e (.cmp .eq (.v 0) (.c (.int 6)))) (.cons (.asg (.nm 2) (.exc 9 (.cons (.v 1) .nil)))
    (.cons (.ret (.tup (.cons (.v 2) (.cons (.tup (.cons (.att (.v 2) s_plan) .nil)) .nil))))
    .nil)) .nil)
    (.cons (.ife (.e (.cmp .eq (.v 0) (.c (.int 7)))) (.cons (.asg (.nm 2) (.exc 10 (.cons (.v 1) .nil)))
    (.cons (.ret (.tup (.cons (.v 2) (.cons (.tup (.cons (.att (.v 2) s_play) .nil)) .nil))))
    .nil)) .nil)
    (.cons (.ife (.e (.cmp .eq (.v 0) (.c (.int 8)))) (.cons (.asg (.nm 2) (.exc 11 (.cons (.v 1) .nil)))
    (.cons (.ret (.tup (.cons (.v 2) (.cons (.tup (.cons (.att (.v 2) s_job) .nil)) .nil))))
    .nil)) .nil)
    (.cons (.ife (.e (.cmp .eq (.v 0) (.c (.int 9)))) (.cons (.asg (.nm 2) (.exc 12 (.cons (.v 1) .nil)))
    (.cons (.ret (.tup (.cons (.v 2) (.cons (.tup (.cons (.att (.v 2) s_answers) .nil)) .nil))))
    .nil)) .nil)
    (.cons (.ife (.e (.cmp .eq (.v 0) (.c (.int 10)))) (.cons (.asg (.nm 2) (.exc 13 (.cons (.v 1) .nil)))
    (.cons (.ret (.tup (.cons (.v 2) (.cons (.tup (.cons (.att (.v 2) s_paper) .nil)) .nil))))
    .nil)) .nil)
    (.cons (.asg (.nm 2) (.exc 14 (.cons (.v 1) .nil)))
    (.cons (.ret (.tup (.cons (.v 2) (.cons (.tup (.cons (.att (.v 2) s_line) .nil)) .nil))))
    .nil))))))))))
/-- _law_which: 0 e, 1 found -/
def ir__law_which : Ss := (.cons (.asg (.nm 1) (.lst (.cons (.isi (.v 0) [103]) (.cons (.isi (.v 0) [104]) (.cons (.isi (.v 0) [105]) .nil)))))
    (.cons (.asg (.nm 1) (.bin .add (.v 1) (.lst (.cons (.isi (.v 0) [106]) (.cons (.isi (.v 0) [107]) (.cons (.isi (.v 0) [108]) (.cons (.isi (.v 0) [109]) .nil)))))))
    (.cons (.asg (.nm 1) (.bin .add (.v 1) (.lst (.cons (.isi (.v 0) [110]) (.cons (.isi (.v 0) [111]) (.cons (.isi (.v 0) [112]) (.cons (.isi (.v 0) [113]) .nil)))))))
    (.cons (.asg (.nm 1) (.bin .add (.v 1) (.lst (.cons (.isi (.v 0) [114]) .nil))))
    (.cons (.asg (.nm 1) (.bin .add (.v 1) (.lst (.cons (.isi (.v 0) [101]) (.cons (.isi (.v 0) [102]) (.cons (.isi (.v 0) [115]) .nil))))))
    (.cons (.ret (.bin .add (.v 1) (.lst (.cons (.isi (.v 0) [116]) (.cons (.isi (.v 0) [117]) .nil)))))
    .nil))))))
/-- law: 0 script, 1 pen, 2 menu, 3 kind, 4 a, 5 b, 6 dues, 7 e, 8 fields, 9 many, 10 k -/
def ir_law : Ss := (.cons (.asg (.nm 1) (.call 0 (.cons (.v 0) .nil)))
    (.cons (.asg (.nm 2) (.lst (.cons (.c .non) (.cons (.c (.bl true)) (.cons (.c (.int 0)) (.cons (.bin .sub (.neg (.c (.int 1))) (.call 1 (.cons (.v 1) (.cons (.c (.int 9)) .nil)))) (.cons (.bin .add (.bin .pow (.c (.int 10)) (.c (.int 40))) (.call 1 (.cons (.v 1) (.cons (.c (.int 99)) .nil)))) (.cons (.c (.str s_)) (.cons (.c (.str s_log)) (.cons (.tup (.cons (.c (.int 1)) (.cons (.c (.int 2)) .nil))) (.cons (.lst (.cons (.c (.int 3)) .nil)) (.cons (.tup (.cons (.c (.str s_b)) (.cons (.c (.str s_c)) .nil))) .nil))))))))))))
    (.cons (.ex (.bm .append (.v 2) (.cons (.tup (.cons (.tup (.cons (.c (.int 0)) (.cons (.c (.int 0)) .nil))) .nil)) .nil)))
    (.cons (.for_ (.nm 3) (.rng1 (.c (.int 17))) (.cons (.asg (.tup (.cons (.nm 4) (.cons (.nm 5) .nil))) (.tup (.cons (.call 2 (.cons (.v 1) (.cons (.v 2) .nil))) (.cons (.call 2 (.cons (.v 1) (.cons (.v 2) .nil))) .nil))))
    (.cons (.asg (.nm 6) (.lc (.bi .repr (.cons (.sl (.tup (.cons (.v 4) (.cons (.v 5) .nil))) .nil (.cons (.v 9) .nil)) .nil)) [9] (.nm 9) (.rng1 (.c (.int 3))) (.e (.c (.bl true)))))
    (.cons (.asg (.tup (.cons (.nm 7) (.cons (.nm 8) .nil))) (.call 3 (.cons (.v 3) (.cons (.v 4) (.cons (.v 5) .nil)))))
    (.cons (.ife (.e (.cmp .ne (.bi .repr (.cons (.v 8) .nil)) (.ix (.v 6) (.bi .len (.cons (.v 8) .nil))))) (.cons (.ret (.c (.bl false)))
    .nil) .nil)
    (.cons (.ife (.or (.not (.e (.isi (.v 7) [100]))) (.not (.e (.isi (.v 7) [6])))) (.cons (.ret (.c (.bl false)))
    .nil) .nil)
    (.cons (.ife (.e (.cmp .ne (.call 5 (.cons (.v 7) .nil)) (.lc (.cmp .eq (.v 10) (.v 3)) [10] (.nm 10) (.rng1 (.c (.int 17))) (.e (.c (.bl true)))))) (.cons (.ret (.c (.bl false)))
    .nil) .nil)
    .nil)))))))
    (.cons (.ret (.c (.bl true)))
    .nil)))))
def body : Nat → Ss
  | 0 => ir__law_pen
  | 1 => ir__law_draw
  | 2 => ir__law_pick
  | 3 => ir__law_one
  | 4 => ir__law_single
  | 5 => ir__law_which
  | 6 => ir_law
  | _ => .nil
def arity : Nat → Nat
  | 0 => 1
  | 1 => 2
  | 2 => 2
  | 3 => 3
  | 4 => 2
  | 5 => 1
  | 6 => 1
  | _ => 0
def slots : Nat → Nat
  | 0 => 3
  | 1 => 5
  | 2 => 2
  | 3 => 4
  | 4 => 3
  | 5 => 2
  | 6 => 11
  | _ => 0
/-- fields of the exception classes -/
def xcT : Nat → Option (List Sx)
  | 0 => some []
  | 1 => some [s_line, s_column]
  | 2 => some [s_what, s_number]
  | 3 => some [s_name]
  | 4 => some [s_name]
  | 5 => some [s_name]
  | 6 => some [s_word]
  | 7 => some [s_game]
  | 8 => some [s_goal]
  | 9 => some [s_plan]
  | 10 => some [s_play]
  | 11 => some [s_job]
  | 12 => some [s_answers]
  | 13 => some [s_paper]
  | 14 => some [s_line]
  | 15 => some [s_promise, s_witness]
  | 16 => some []
  | 17 => some []
  | _ => none
/-- codes of an exception class and what it hangs on -/
def ancT : Nat → List Nat
  | 0 => [100, 6]
  | 1 => [101, 100, 6]
  | 2 => [102, 100, 6]
  | 3 => [103, 100, 6]
  | 4 => [104, 100, 6]
  | 5 => [105, 100, 6]
  | 6 => [106, 100, 6]
  | 7 => [107, 100, 6]
  | 8 => [108, 100, 6]
  | 9 => [109, 100, 6]
  | 10 => [110, 100, 6]
  | 11 => [111, 100, 6]
  | 12 => [112, 100, 6]
  | 13 => [113, 100, 6]
  | 14 => [114, 100, 6]
  | 15 => [115, 100, 6]
  | 16 => [116, 100, 6]
  | 17 => [117, 100, 6]
  | _ => []
def isxT (c k : Nat) : Option Bool := if c < 18 then some ((ancT c).contains k) else none
def mk (rp : P → Sx) (call : Nat → List D → Sto → K1 → Prop) : Cx := ⟨rp, 7, fun _ => false, call, fun _ _ => none, fun _ => none, fun _ => [], xcT, fun _ _ => none, isxT⟩
def envS (n : Nat) (xs : List D) : Env := xs.map some ++ List.replicate (n - xs.length) none
def bodyK (Q : K1) : KS := ⟨fun _ st => Q .non st, Q, fun _ _ => False, fun _ _ => False⟩
/-- the defs, calls up to a depth -/
def cx (rp : P → Sx) : Nat → Cx
  | 0 => mk rp fun _ _ _ _ => False
  | n + 1 => mk rp fun k xs st Q => xs.length = arity k ∧ Wss (cx rp n) (body k) (envS (slots k) xs) st (bodyK Q)
theorem cx_mono (rp : P → Sx) : ∀ n, (cx rp n).Mono
  | 0 => fun k xs st Q R h w => w.elim
  | n + 1 => fun k xs st Q R h w => ⟨w.1, Wss_mono (cx_mono rp n) (body k) _ st (bodyK Q) _ ⟨fun e s q => h _ _ q, fun d s q => h _ _ q, fun _ _ q => q, fun _ _ q => q⟩ w.2⟩
end Py.K00
end
section
set_option autoImplicit false
set_option maxRecDepth 100000
set_option linter.all false
namespace Py.K00
open Py
/-! ### the pen -/
abbrev penK (q : Nat) (a d c f : Int) : List (Ky × D) := [(.s s_cells, .ref q), (.s s_at, .int a), (.s s_digits, .int d), (.s s_count, .int c), (.s s_fold, .int f)]
/-- the pen stands at p, its cells at q; at most b draws were made -/
structure Pen (st : Sto) (p q : Nat) (zs : List Int) (b : Int) (a d c f : Int) : Prop where
  pen : st[p]? = some (.dk (penK q a d c f))
  cells : st[q]? = some (.lst (zs.map .int))
  ne : q ≠ p
  a0 : 0 ≤ a
  d0 : 0 ≤ d
  c0 : 0 ≤ c
  cb : c ≤ b
  f0 : 0 ≤ f
  f1 : f < 2147483648
def PenOk (st : Sto) (p q : Nat) (zs : List Int) (b : Int) : Prop := ∃ a d c f, Pen st p q zs b a d c f
theorem Pen.put {st : Sto} {p q : Nat} {zs : List Int} {b b' a d c f a' d' c' f' : Int} (h : Pen st p q zs b a d c f) (ha : 0 ≤ a') (hd : 0 ≤ d') (hc : 0 ≤ c') (hb : c' ≤ b') (hf : 0 ≤ f') (hg : f' < 2147483648) : Pen (st.set p (.dk (penK q a' d' c' f'))) p q zs b' a' d' c' f' :=
  ⟨set_at h.pen, set_ot h.cells h.ne, h.ne, ha, hd, hc, hb, hf, hg⟩
theorem draw_tail (rp : P → Sx) (n : Nat) {p q : Nat} {many : Int} {zs : List Int} {b a d c f : Int} {st : Sto} {Q : K1} {x : Option D} (h : Pen st p q zs b a d c f) (hb : b < 2 ^ 48) (hm : 0 < many) (hm2 : many < 2 ^ 60)
    (hQ : ∀ r st', 0 ≤ r → r < many → PenOk st' p q zs b → Fr p st st' → Q (.int r) st') : Wss (cx rp n) (dropS 2 ir__law_draw) [some (.ref p), some (.int many), x, none, none] st (bodyK Q) := by
  have ml : many.natAbs.log2 ≤ 60 := log2_le (by have : ((2 : Nat) ^ 60 : Nat) = 1152921504606846976 := by decide
                                                 omega)
  refine ⟨_, rfl, _, ix_dk h.pen rfl, _, rfl, _, rfl, ?_⟩
  by_cases hd : 0 < d
  · refine it_t (decide_eq_true hd) ?_
    refine ⟨_, rfl, _, ix_dk h.pen rfl, .inl ⟨_, rfl, _, rfl, hm, ?_⟩⟩
    refine ⟨_, rfl, _, ix_dk h.pen rfl, _, rfl, ⟨hm, by omega⟩, _, rfl, _, rfl, .inr ⟨_, _, h.pen, rfl, _, rfl, ?_⟩⟩
    have e := emod_in (a := d) hm
    exact hQ _ _ e.1 e.2 ⟨_, _, _, _, h.put h.a0 (Int.ediv_nonneg h.d0 (by omega)) h.c0 h.cb h.f0 h.f1⟩ Fr.set
  · refine it_f (decide_eq_false hd) ?_
    have h1 := h.c0
    have h2 := h.cb
    have h3 := h.f0
    have h4 := h.f1
    refine ⟨_, rfl, _, ix_dk h.pen rfl, _, rfl, _, ix_dk h.pen rfl, ⟨?_, ?_⟩⟩
    · have q1 : c.natAbs.log2 ≤ 60 := log2_le (by omega)
      have q2 : Nat.log2 (Int.natAbs 9739) ≤ 60 := by decide
      exact Nat.lt_of_le_of_lt (Nat.add_le_add q1 q2) (by decide)
    refine ⟨_, rfl, ⟨⟨by decide, by decide, ?_⟩, by decide, .inl ⟨_, rfl, ⟨by decide, by decide⟩, _, rfl, hm, ?_⟩⟩⟩
    · have e : ((2 : Nat) ^ 64 : Nat) = 18446744073709551616 := by decide
      omega
    · have e := emod_in (a := ((f + c * 9739 + 173) ^ Int.toNat 23 % 2305843009213693951 / 128)) hm
      exact hQ _ _ e.1 e.2 ⟨_, _, _, _, h⟩ Fr.refl
theorem draw (rp : P → Sx) (n : Nat) {p q : Nat} {many : Int} {zs : List Int} {b : Int} {st : Sto} {Q : K1} (h : PenOk st p q zs b) (hb : b + 1 < 2 ^ 48) (hm : 0 < many) (hm2 : many < 2 ^ 60)
    (hQ : ∀ r st', 0 ≤ r → r < many → PenOk st' p q zs (b + 1) → Fr p st st' → Q (.int r) st') : (cx rp (n + 1)).call 1 [.ref p, .int many] st Q := by
  obtain ⟨a, d, c, f, h⟩ := h
  have e64 : ((2 : Nat) ^ 64 : Nat) = 18446744073709551616 := by decide
  refine ⟨rfl, ?_⟩
  show Wss (cx rp n) ir__law_draw [some (.ref p), some (.int many), none, none, none] st (bodyK Q)
  refine ⟨_, rfl, _, ix_dk h.pen rfl, _, rfl, _, rfl, .inr ⟨_, _, h.pen, rfl, ?_⟩⟩
  have h1 := h.put (b' := b + 1) (c' := c + 1) h.a0 h.d0 (by have := h.c0; omega) (by have := h.cb; omega) h.f0 h.f1
  have fr1 : Fr p st (st.set p (.dk (penK q a d (c + 1) f))) := Fr.set
  have tl : ∀ {st2 : Sto} {a d c f : Int} {x : Option D}, Pen st2 p q zs (b + 1) a d c f → Fr p st st2 → Wss (cx rp n) (dropS 2 ir__law_draw) [some (.ref p), some (.int many), x, none, none] st2 (bodyK Q) := fun {st2 a d c f x} g fr =>
    draw_tail rp n g hb hm hm2 fun r st' r0 r1 pk f2 => hQ r st' r0 r1 pk (fr.trans f2)
  refine ⟨_, rfl, _, ix_dk h1.pen rfl, _, rfl, _, rfl, ?_⟩
  by_cases hd : d = 0
  · subst hd
    refine it_t rfl ?_
    refine ⟨_, rfl, _, ix_dk h1.pen rfl, we_bi1 ⟨_, rfl, _, ix_dk h1.pen rfl, w_len h1.cells ⟨_, rfl, _, rfl, ?_⟩⟩⟩
    by_cases hl : a < zs.length
    · refine it_t (decide_eq_true (by rw [List.length_map]; exact hl)) ?_
      have a0 := h.a0
      have lt : a.toNat < zs.length := by omega
      have hz : (zs.map D.int)[a.toNat]? = some (.int zs[a.toNat]) := by rw [List.getElem?_map, List.getElem?_eq_getElem lt]; rfl
      refine ⟨_, rfl, _, ix_dk h1.pen rfl, _, rfl, _, ix_dk h1.pen rfl, _, ix_lst h1.cells (atI_pos a0 hz), ?_⟩
      refine ⟨_, rfl, _, ix_dk h1.pen rfl, _, rfl, _, rfl, .inr ⟨_, _, h1.pen, rfl, ?_⟩⟩
      have h2 := h1.put (b' := b + 1) (a' := a + 1) (by omega) h1.d0 h1.c0 h1.cb h1.f0 h1.f1
      refine ⟨_, rfl, ⟨⟨by decide, by decide, by decide⟩, _, rfl, _, rfl, ?_⟩⟩
      by_cases hc : (10 : Int) ^ Int.toNat 18 ≤ zs[a.toNat]
      · refine it_t (decide_eq_true hc) ?_
        refine ⟨_, rfl, ⟨⟨by decide, by decide, by decide⟩, _, rfl, _, rfl, .inr ⟨_, _, h2.pen, rfl, ?_⟩⟩⟩
        exact tl (h2.put h2.a0 (by omega) h2.c0 h2.cb h2.f0 h2.f1) ((fr1.trans Fr.set).trans Fr.set)
      · refine it_f (decide_eq_false hc) ?_
        have q1 : f.natAbs.log2 ≤ 60 := log2_le (by have := h.f0; have := h.f1; omega)
        have q2 : Nat.log2 (Int.natAbs 73673) ≤ 60 := by decide
        refine ⟨_, rfl, _, ix_dk h2.pen rfl, ⟨Nat.lt_of_le_of_lt (Nat.add_le_add q1 q2) (by decide), _, rfl, .inl ⟨_, rfl, by decide, _, rfl, _, rfl, .inr ⟨_, _, h2.pen, rfl, ?_⟩⟩⟩⟩
        have e := emod_in (a := f * 73673 + zs[a.toNat]) (b := 2147483543) (by decide)
        exact tl (h2.put h2.a0 h2.d0 h2.c0 h2.cb e.1 (by omega)) ((fr1.trans Fr.set).trans Fr.set)
    · refine it_f (decide_eq_false (by rw [List.length_map]; exact hl)) ?_
      exact tl h1 fr1
  · refine it_f (beq_eq_false_iff_ne.mpr hd) (it_f rfl ?_)
    exact tl h1 fr1
theorem pick (rp : P → Sx) (n : Nat) {p q m : Nat} {zs : List Int} {b : Int} {st : Sto} {xs : List D} {Q : K1} (h : PenOk st p q zs b) (hb : b + 1 < 2 ^ 48) (hx : st[m]? = some (.lst xs)) (h0 : xs ≠ []) (hl : xs.length < 2 ^ 60)
    (hQ : ∀ x st', x ∈ xs → PenOk st' p q zs (b + 1) → Fr p st st' → Q x st') : (cx rp (n + 2)).call 2 [.ref p, .ref m] st Q := by
  refine ⟨rfl, ?_⟩
  show Wss (cx rp (n + 1)) ir__law_pick [some (.ref p), some (.ref m)] st (bodyK Q)
  have pos : 0 < xs.length := List.length_pos_iff.mpr h0
  refine wss_ret ⟨_, rfl, we_call2 ⟨_, rfl, we_bi1 ⟨_, rfl, w_len hx (draw rp n h hb (by omega) (by omega) fun r st' r0 r1 pk fr => ?_)⟩⟩⟩
  have lt : r.toNat < xs.length := by omega
  by_cases e : m = p
  · obtain ⟨a, d, c, f, g⟩ := h
    have z := g.pen
    rw [← e, hx] at z
    cases z
  · exact ⟨xs[r.toNat], ix_lst (fr.ot m _ e hx) (atI_pos r0 (List.getElem?_eq_getElem lt)), hQ _ _ (List.getElem_mem lt) pk fr⟩
/-- what stood still stands -/
abbrev Ext (st st' : Sto) : Prop := ∀ (i : Nat) (o : O), st[i]? = some o → st'[i]? = some o
theorem pen (rp : P → Sx) (n : Nat) {s : Nat} {zs : List Int} {st : Sto} {Q : K1} (h : st[s]? = some (.rol (zs.map .int))) (hl : zs.length ≤ 1000) (hQ : ∀ st', PenOk st' st.length (st.length + 1) zs 0 → Ext st st' → Q (.ref st.length) st') : (cx rp (n + 2)).call 0 [.ref s] st Q := by
  refine ⟨rfl, ?_⟩
  show Wss (cx rp (n + 1)) ir__law_pen [some (.ref s), none, none] st (bodyK Q)
  refine wss_for ⟨_, rfl, zs.map .int, lstAt_rol h, ?_⟩
  refine forW_ind (cx_mono rp (n + 1)) (fun _ env st' => st' = st ∧ ∃ (t : Int) (x : Option D), 0 ≤ t ∧ t < 1000000033 ∧ env = [some (.ref s), some (.int t), x]) (fun i env st' hi => ?_) 0 ⟨rfl, 0, none, by decide, by decide, rfl⟩ (fun i x env st' hx hi => ?_) (fun env st' hi => ?_)
  · obtain ⟨rfl, _⟩ := hi
    intro y hy
    rw [List.mem_singleton.mp hy]
    exact lstAt_rol h
  · obtain ⟨rfl, t, y, t0, t1, rfl⟩ := hi
    rw [List.getElem?_map] at hx
    obtain ⟨z, _, rfl⟩ := Option.map_eq_some_iff.mp hx
    have q1 : t.natAbs.log2 ≤ 60 := log2_le (by omega)
    have q2 : Nat.log2 (Int.natAbs 173) ≤ 60 := by decide
    refine ⟨_, rfl, ⟨Nat.lt_of_le_of_lt (Nat.add_le_add q1 q2) (by decide), _, rfl, .inl ⟨_, rfl, by decide, ?_⟩⟩⟩
    have e := emod_in (a := t * 173 + z) (b := 1000000033) (by decide)
    exact ⟨rfl, _, _, e.1, e.2, rfl⟩
  · obtain ⟨rfl, t, y, t0, t1, rfl⟩ := hi
    refine wss_ret (wes_c (wes_cons (we_bi1 ⟨_, rfl, w_list (lstAt_rol (app_at h)) ?_⟩)))
    refine ⟨_, rfl, _, rfl, (by show 5 ≤ 15; decide), app_at new_at, ?_⟩
    refine hQ _ ⟨0, 0, 0, t, ⟨?_, ?_, by omega, by decide, by decide, by decide, by decide, t0, by omega⟩⟩ fun i o hi => ?_
    · have e : (st' ++ [O.dk []]).length = st'.length + 1 := by simp
      rw [List.getElem?_set_self (by simp), e]
      rfl
    · rw [List.getElem?_set_ne (by omega)]
      simp
    · rw [List.getElem?_set_ne (by have := (List.getElem?_eq_some_iff.mp hi).1; omega)]
      exact app_at (app_at hi)
/-! ### the exceptions -/
def clsOf : Nat → Nat
  | 0 => 3 | 1 => 4 | 2 => 5 | 3 => 6 | 4 => 7 | 5 => 8 | 6 => 9 | 7 => 10 | 8 => 11 | 9 => 12 | 10 => 13 | 11 => 14 | 12 => 1 | 13 => 2 | 14 => 15 | 15 => 16 | _ => 17
/-- how many fields -/
def many : Nat → Nat
  | 12 => 2 | 13 => 2 | 14 => 2 | 15 => 0 | 16 => 0 | _ => 1
theorem ext_app {st l : Sto} : Ext st (st ++ l) := fun _ _ h => app_at h
theorem ext_trans {a b c : Sto} (f : Ext a b) (g : Ext b c) : Ext a c := fun i o h => g i o (f i o h)
theorem single (rp : P → Sx) (n : Nat) {k : Nat} {a : D} {st : Sto} {Q : K1} (h3 : 3 ≤ k) (h12 : k < 12) (hQ : ∀ st' e fs, Ext st st' → st'[e]? = some (.exc (clsOf k) fs) → Q (.tup [.ref e, .tup [a]]) st') : (cx rp (n + 2)).call 4 [.int k, a] st Q := by
  refine ⟨rfl, ?_⟩
  show Wss (cx rp (n + 1)) ir__law_single [some (.int k), some a, none] st (bodyK Q)
  have fin : ∀ (c : Nat) (f : Sx), (cx rp (n + 1)).xc c = some [f] → c = clsOf k → Wss (cx rp (n + 1)) (.cons (.asg (.nm 2) (.exc c (.cons (.v 1) .nil))) (.cons (.ret (.tup (.cons (.v 2) (.cons (.tup (.cons (.att (.v 2) f) .nil)) .nil)))) .nil)) [some (.int k), some a, none] st (bodyK Q) := by
    intro c f hc e
    refine ⟨_, rfl, _, hc, rfl, _, rfl, ?_⟩
    refine ⟨_, rfl, _, _, rfl, fld_exc new_at hc (by simp) (by show (if f = f then some a else none) = _; rw [if_pos rfl]), (by show 1 ≤ LINE; decide), (by show 2 ≤ LINE; decide), ?_⟩
    subst e
    exact hQ _ _ _ ext_app new_at
  match k, h3, h12 with
  | 3, _, _ => exact ⟨_, rfl, _, rfl, _, rfl, fin 6 s_word rfl rfl⟩
  | 4, _, _ => exact ⟨_, rfl, _, rfl, _, rfl, _, rfl, _, rfl, _, rfl, fin 7 s_game rfl rfl⟩
  | 5, _, _ => exact ⟨_, rfl, _, rfl, _, rfl, _, rfl, _, rfl, _, rfl, _, rfl, _, rfl, _, rfl, fin 8 s_goal rfl rfl⟩
  | 6, _, _ => exact ⟨_, rfl, _, rfl, _, rfl, _, rfl, _, rfl, _, rfl, _, rfl, _, rfl, _, rfl, _, rfl, _, rfl, _, rfl, fin 9 s_plan rfl rfl⟩
  | 7, _, _ => exact ⟨_, rfl, _, rfl, _, rfl, _, rfl, _, rfl, _, rfl, _, rfl, _, rfl, _, rfl, _, rfl, _, rfl, _, rfl, _, rfl, _, rfl, _, rfl, fin 10 s_play rfl rfl⟩
  | 8, _, _ => exact ⟨_, rfl, _, rfl, _, rfl, _, rfl, _, rfl, _, rfl, _, rfl, _, rfl, _, rfl, _, rfl, _, rfl, _, rfl, _, rfl, _, rfl, _, rfl, _, rfl, _, rfl, _, rfl, fin 11 s_job rfl rfl⟩
  | 9, _, _ => exact ⟨_, rfl, _, rfl, _, rfl, _, rfl, _, rfl, _, rfl, _, rfl, _, rfl, _, rfl, _, rfl, _, rfl, _, rfl, _, rfl, _, rfl, _, rfl, _, rfl, _, rfl, _, rfl, _, rfl, _, rfl, _, rfl, fin 12 s_answers rfl rfl⟩
  | 10, _, _ => exact ⟨_, rfl, _, rfl, _, rfl, _, rfl, _, rfl, _, rfl, _, rfl, _, rfl, _, rfl, _, rfl, _, rfl, _, rfl, _, rfl, _, rfl, _, rfl, _, rfl, _, rfl, _, rfl, _, rfl, _, rfl, _, rfl, _, rfl, _, rfl, _, rfl, fin 13 s_paper rfl rfl⟩
  | 11, _, _ => exact ⟨_, rfl, _, rfl, _, rfl, _, rfl, _, rfl, _, rfl, _, rfl, _, rfl, _, rfl, _, rfl, _, rfl, _, rfl, _, rfl, _, rfl, _, rfl, _, rfl, _, rfl, _, rfl, _, rfl, _, rfl, _, rfl, _, rfl, _, rfl, _, rfl, fin 14 s_line rfl rfl⟩
theorem one (rp : P → Sx) (n : Nat) {k : Nat} {a b : D} {st : Sto} {Q : K1} (hk : k < 17) (hQ : ∀ st' e fs, Ext st st' → st'[e]? = some (.exc (clsOf k) fs) → Q (.tup [.ref e, .tup ([a, b].take (many k))]) st') : (cx rp (n + 3)).call 3 [.int k, a, b] st Q := by
  refine ⟨rfl, ?_⟩
  show Wss (cx rp (n + 2)) ir__law_one [some (.int k), some a, some b, none] st (bodyK Q)
  have first : ∀ (j : Nat), j < 3 → k = j → Wss (cx rp (n + 2)) ir__law_one [some (.int k), some a, some b, none] st (bodyK Q) := by
    intro j hj e
    have e1 : (((st ++ [O.exc 3 [(s_name, a)]]) ++ [O.exc 4 [(s_name, a)]]) ++ [O.exc 5 [(s_name, a)]]).length = st.length + 3 := by simp
    subst e
    refine ⟨_, rfl, _, rfl, _, rfl, it_t (decide_eq_true (by omega)) ?_⟩
    refine ⟨_, rfl, _, rfl, rfl, _, rfl, _, rfl, rfl, _, rfl, _, rfl, rfl, (by show 3 ≤ LINE; decide), _, rfl, _, ix_lst new_at (atI_nat (x := .ref (st.length + k)) ?_), ?_⟩
    · match k, hj with
      | 0, _ => rfl
      | 1, _ => simp
      | 2, _ => simp
    · have at_ : ((((st ++ [O.exc 3 [(s_name, a)]]) ++ [O.exc 4 [(s_name, a)]]) ++ [O.exc 5 [(s_name, a)]]) ++ [O.lst [D.ref st.length, .ref (st ++ [O.exc 3 [(s_name, a)]]).length, .ref ((st ++ [O.exc 3 [(s_name, a)]]) ++ [O.exc 4 [(s_name, a)]]).length]])[st.length + k]? = some (.exc (clsOf k) [(s_name, a)]) := by
        match k, hj with
        | 0, _ => exact app_at (app_at (app_at new_at))
        | 1, _ => simp [clsOf]
        | 2, _ => simp [clsOf]
      have xk : (cx rp (n + 2)).xc (clsOf k) = some [s_name] := by
        match k, hj with
        | 0, _ => rfl
        | 1, _ => rfl
        | 2, _ => rfl
      have mk1 : many k = 1 := by
        match k, hj with
        | 0, _ => rfl
        | 1, _ => rfl
        | 2, _ => rfl
      refine ⟨_, rfl, _, rfl, _, _, rfl, fld_exc at_ xk (by simp) (d := a) rfl, (by show 1 ≤ LINE; decide), (by show 2 ≤ LINE; decide), ?_⟩
      have q := hQ _ _ _ (ext_trans (ext_trans (ext_trans ext_app ext_app) ext_app) ext_app) at_
      rw [mk1] at q
      exact q
  have two : ∀ (c : Nat) (f g : Sx), (cx rp (n + 2)).xc c = some [f, g] → f ≠ g → c = clsOf k → many k = 2 → Wss (cx rp (n + 2)) (.cons (.asg (.nm 3) (.exc c (.cons (.v 1) (.cons (.v 2) .nil)))) (.cons (.ret (.tup (.cons (.v 3) (.cons (.tup (.cons (.att (.v 3) f) (.cons (.att (.v 3) g) .nil))) .nil)))) .nil)) [some (.int k), some a, some b, none] st (bodyK Q) := by
    intro c f g hc hne e mk2
    subst e
    refine ⟨_, rfl, _, rfl, _, hc, rfl, _, rfl, ?_⟩
    refine ⟨_, rfl, _, _, rfl, fld_exc new_at hc (by simp) (d := a) (by show (if f = f then some a else _) = _; rw [if_pos rfl]), _, rfl, _, _, rfl, fld_exc new_at hc (by simp) (d := b) (by show (if f = g then some a else if g = g then some b else none) = _; rw [if_neg hne, if_pos rfl]), (by show 2 ≤ LINE; decide), (by show 2 ≤ LINE; decide), ?_⟩
    have q := hQ _ _ _ ext_app (new_at (st := st) (o := .exc (clsOf k) (zipF [f, g] [a, b])))
    rw [mk2] at q
    exact q
  by_cases h3 : k < 3
  · exact first k h3 rfl
  · by_cases h12 : k < 12
    · have mk1 : many k = 1 := by
        match k, h3, h12 with
        | 3, _, _ => rfl
        | 4, _, _ => rfl
        | 5, _, _ => rfl
        | 6, _, _ => rfl
        | 7, _, _ => rfl
        | 8, _, _ => rfl
        | 9, _, _ => rfl
        | 10, _, _ => rfl
        | 11, _, _ => rfl
      refine ⟨_, rfl, _, rfl, _, rfl, it_f (decide_eq_false (by omega)) ?_⟩
      refine ⟨_, rfl, _, rfl, _, rfl, it_t (decide_eq_true (by omega)) ?_⟩
      refine wss_ret (we_call2 ⟨_, rfl, _, rfl, single rp n (by omega) h12 fun st' e fs x he => ?_⟩)
      have q := hQ st' e fs x he
      rw [mk1] at q
      exact q
    · match k, h12, hk with
      | 12, _, _ => exact ⟨_, rfl, _, rfl, _, rfl, _, rfl, _, rfl, _, rfl, _, rfl, _, rfl, _, rfl, two 1 s_line s_column rfl (by decide) rfl rfl⟩
      | 13, _, _ => exact ⟨_, rfl, _, rfl, _, rfl, _, rfl, _, rfl, _, rfl, _, rfl, _, rfl, _, rfl, _, rfl, _, rfl, _, rfl, two 2 s_what s_number rfl (by decide) rfl rfl⟩
      | 14, _, _ => exact ⟨_, rfl, _, rfl, _, rfl, _, rfl, _, rfl, _, rfl, _, rfl, _, rfl, _, rfl, _, rfl, _, rfl, _, rfl, _, rfl, _, rfl, _, rfl, two 15 s_promise s_witness rfl (by decide) rfl rfl⟩
      | 15, _, _ => exact ⟨_, rfl, _, rfl, _, rfl, _, rfl, _, rfl, _, rfl, _, rfl, _, rfl, _, rfl, _, rfl, _, rfl, _, rfl, _, rfl, _, rfl, _, rfl, _, rfl, _, rfl, _, rfl, _, rfl, rfl, (by show 0 ≤ LINE; decide), (by show 2 ≤ LINE; decide), hQ _ _ _ ext_app (new_at (o := .exc 16 []))⟩
      | 16, _, _ => exact ⟨_, rfl, _, rfl, _, rfl, _, rfl, _, rfl, _, rfl, _, rfl, _, rfl, _, rfl, _, rfl, _, rfl, _, rfl, _, rfl, _, rfl, _, rfl, _, rfl, _, rfl, _, rfl, _, rfl, rfl, (by show 0 ≤ LINE; decide), (by show 2 ≤ LINE; decide), hQ _ _ _ ext_app (new_at (o := .exc 17 []))⟩
      | k + 17, _, h => exact absurd h (by omega)
/-- what isinstance says, class by class -/
def whichL (c : Nat) : List D := ([103, 104, 105, 106, 107, 108, 109, 110, 111, 112, 113, 114, 101, 102, 115, 116, 117].map fun k => D.bl ((ancT c).contains k))
theorem which (rp : P → Sx) (n : Nat) {e c : Nat} {fs : List (Sx × D)} {st : Sto} {Q : K1} (hc : c < 18) (he : st[e]? = some (.exc c fs)) (hQ : ∀ st' m, Ext st st' → st'[m]? = some (.lst (whichL c)) → Q (.ref m) st') : (cx rp (n + 2)).call 5 [.ref e] st Q := by
  refine ⟨rfl, ?_⟩
  show Wss (cx rp (n + 1)) ir__law_which [some (.ref e), none] st (bodyK Q)
  have is : ∀ {st' : Sto} (k : Nat), Ext st st' → isAny (cx rp (n + 1)) st' (.ref e) [k] = some ((ancT c).contains k) := fun k x => kind_exc (x _ _ he) (by show isxT c k = _; unfold isxT; rw [if_pos hc])
  have x0 : Ext st st := fun _ _ h => h
  have xx : ∀ {a b : Sto}, Ext st a → Ext st (a ++ b) := fun h => ext_trans h ext_app
  refine ⟨_, rfl, _, is 103 x0, _, rfl, _, is 104 x0, _, rfl, _, is 105 x0, (by show 3 ≤ LINE; decide), ?_⟩
  refine ⟨_, rfl, _, rfl, _, is 106 ext_app, _, rfl, _, is 107 ext_app, _, rfl, _, is 108 ext_app, _, rfl, _, is 109 ext_app, (by show 4 ≤ LINE; decide), _, _, app_at new_at, new_at, (by show 7 ≤ LINE; decide), ?_⟩
  refine ⟨_, rfl, _, rfl, _, is 110 (xx (xx (xx (x0)))), _, rfl, _, is 111 (xx (xx (xx (x0)))), _, rfl, _, is 112 (xx (xx (xx (x0)))), _, rfl, _, is 113 (xx (xx (xx (x0)))), (by show 4 ≤ LINE; decide), _, _, app_at new_at, new_at, (by show 11 ≤ LINE; decide), ?_⟩
  refine ⟨_, rfl, _, rfl, _, is 114 (xx (xx (xx (xx (xx (x0)))))), (by show 1 ≤ LINE; decide), _, _, app_at new_at, new_at, (by show 12 ≤ LINE; decide), ?_⟩
  refine ⟨_, rfl, _, rfl, _, is 101 (xx (xx (xx (xx (xx (xx (xx (x0)))))))), _, rfl, _, is 102 (xx (xx (xx (xx (xx (xx (xx (x0)))))))), _, rfl, _, is 115 (xx (xx (xx (xx (xx (xx (xx (x0)))))))), (by show 3 ≤ LINE; decide), _, _, app_at new_at, new_at, (by show 15 ≤ LINE; decide), ?_⟩
  refine ⟨_, rfl, _, rfl, _, is 116 (xx (xx (xx (xx (xx (xx (xx (xx (xx (x0)))))))))), _, rfl, _, is 117 (xx (xx (xx (xx (xx (xx (xx (xx (xx (x0)))))))))), (by show 2 ≤ LINE; decide), _, _, app_at new_at, new_at, (by show 17 ≤ LINE; decide), ?_⟩
  exact hQ _ _ (xx (xx (xx (xx (xx (xx (xx (xx (xx (xx (xx (x0)))))))))))) new_at
/-! ### the menu -/
def menuL (j : Nat) (r t : Int) : List D := [.non, .bl true, .int 0, .int (-1 - r), .int (10 ^ 40 + t), .str [], .str s_log, .tup [.int 1, .int 2], .ref j, .tup [.str s_b, .str s_c], .tup [.tup [.int 0, .int 0]]]
/-- the plain data of what the menu has -/
structure IsP (j : Nat) (d : D) (p : P) : Prop where
  sh : shortP p = true
  wt : wtP p ≤ 500
  to : ∀ (st : Sto) (n : Nat), st[j]? = some (.lst [.int 3]) → toP st (n + 3) d = some p
theorem shortI {i : Int} (h : i.natAbs < 2 ^ 150) : shortP (.int i) = true := decide_eq_true (Nat.lt_of_le_of_lt (log2_le h) (by decide))
theorem wtI {i : Int} (h : i.natAbs < 2 ^ 150) : wtP (.int i) ≤ 500 := by
  have q := log2_le h
  show (if (i == 0) = true then 0 else i.natAbs.log2 + 1) ≤ 500
  split <;> omega
theorem menuP {j : Nat} {r t : Int} (r0 : 0 ≤ r) (r1 : r < 9) (t0 : 0 ≤ t) (t1 : t < 99) {d : D} (h : d ∈ menuL j r t) : ∃ p, IsP j d p := by
  have e150 : ((2 : Nat) ^ 150 : Nat) = 1427247692705959881058285969449495136382746624 := by decide
  have e40 : ((10 : Int) ^ 40 : Int) = 10000000000000000000000000000000000000000 := by decide
  unfold menuL at h
  simp only [List.mem_cons, List.not_mem_nil, or_false] at h
  rcases h with rfl | rfl | rfl | rfl | rfl | rfl | rfl | rfl | rfl | rfl | rfl
  · exact ⟨.non, rfl, by decide, fun _ _ _ => rfl⟩
  · exact ⟨.bl true, rfl, by decide, fun _ _ _ => rfl⟩
  · exact ⟨.int 0, rfl, by decide, fun _ _ _ => rfl⟩
  · exact ⟨.int (-1 - r), shortI (by omega), wtI (by omega), fun _ _ _ => rfl⟩
  · exact ⟨.int (10 ^ 40 + t), shortI (by rw [e40]; omega), wtI (by rw [e40]; omega), fun _ _ _ => rfl⟩
  · exact ⟨.str [], rfl, by decide, fun _ _ _ => rfl⟩
  · exact ⟨.str s_log, rfl, by decide, fun _ _ _ => rfl⟩
  · exact ⟨.tup [.int 1, .int 2], rfl, by decide, fun _ _ _ => rfl⟩
  · exact ⟨.lst [.int 3], rfl, by decide, fun st n h => by
      show (match lstAt st j with
        | some xs => (omap (toP st (n + 2)) xs).map P.lst
        | none => none) = _
      rw [lstAt_lst h] <;> rfl⟩
  · exact ⟨.tup [.str s_b, .str s_c], rfl, by decide, fun _ _ _ => rfl⟩
  · exact ⟨.tup [.tup [.int 0, .int 0]], rfl, by decide, fun _ _ _ => rfl⟩
/-- the first so many of a pair -/
theorem tup_to {j : Nat} {a b : D} {pa pb : P} {st : Sto} (k n : Nat) (ha : IsP j a pa) (hb : IsP j b pb) (h : st[j]? = some (.lst [.int 3])) (hk : k < 3) : toP st (n + 4) (.tup ([a, b].take k)) = some (.tup ([pa, pb].take k)) := by
  have e : toP st (n + 4) (.tup ([a, b].take k)) = (omap (toP st (n + 3)) ([a, b].take k)).map .tup := rfl
  rw [e]
  match k, hk with
  | 0, _ => rfl
  | 1, _ => simp [omap, ha.to st n h]
  | 2, _ => simp [omap, ha.to st n h, hb.to st n h]
theorem tup_ok {j : Nat} {a b : D} {pa pb : P} (k : Nat) (ha : IsP j a pa) (hb : IsP j b pb) (hk : k < 3) : repOk (.tup ([pa, pb].take k)) = true := by
  have h1 := ha.wt
  have h2 := hb.wt
  match k, hk with
  | 0, _ => rfl
  | 1, _ => simp [repOk, shortP, shortPs, wtP, wtPs, ha.sh]; omega
  | 2, _ => simp [repOk, shortP, shortPs, wtP, wtPs, ha.sh, hb.sh]; omega
theorem cut_take {a b : D} {i : Nat} (h : i < 3) : cut [a, b] none (some (i : Int)) = [a, b].take i := by
  match i, h with
  | 0, _ => rfl
  | 1, _ => rfl
  | 2, _ => rfl
theorem isx_all : ∀ k, k < 17 → isxT (clsOf k) 100 = some true ∧ isxT (clsOf k) 6 = some true := by decide
theorem cls_lt : ∀ k, k < 17 → clsOf k < 18 := by decide
theorem many_lt : ∀ k, k < 17 → many k < 3 := by decide
def bools (k : Nat) : List Bool := (List.range 17).map fun (i : Nat) => ((i : Int) == (k : Int))
theorem which_eq : ∀ k, k < 17 → ([103, 104, 105, 106, 107, 108, 109, 110, 111, 112, 113, 114, 101, 102, 115, 116, 117].map fun j => (ancT (clsOf k)).contains j) = bools k := by decide
theorem whichL_eq {k : Nat} (h : k < 17) : whichL (clsOf k) = (bools k).map D.bl := by
  rw [← which_eq k h, List.map_map]
  rfl
theorem PenOk.ne {st : Sto} {p q m : Nat} {zs : List Int} {b : Int} {xs : List D} (h : PenOk st p q zs b) (hm : st[m]? = some (.lst xs)) : m ≠ p := by
  obtain ⟨a, d, c, f, g⟩ := h
  intro e
  rw [e, g.pen] at hm
  cases hm
theorem PenOk.ext {st st' : Sto} {p q : Nat} {zs : List Int} {b : Int} (h : PenOk st p q zs b) (x : Ext st st') : PenOk st' p q zs b := by
  obtain ⟨a, d, c, f, g⟩ := h
  exact ⟨a, d, c, f, x _ _ g.pen, x _ _ g.cells, g.ne, g.a0, g.d0, g.c0, g.cb, g.f0, g.f1⟩
def loopB : Ss := forBody (dropS 3 ir_law)
theorem turn (rp : P → Sx) {zs : List Int} {m j k : Nat} {r t b : Int} {st : Sto} {y3 y4 y5 y6 y7 y8 y9 y10 : Option D} {N B Ct : Env → Sto → Prop} {Rt : K1} (hk : k < 17) (r0 : 0 ≤ r) (r1 : r < 9) (t0 : 0 ≤ t) (t1 : t < 99) (pk : PenOk st 1 2 zs b) (hb : b + 2 < 2 ^ 48)
    (hm : st[m]? = some (.lst (menuL j r t))) (hj : st[j]? = some (.lst [.int 3]))
    (hN : ∀ st' y4 y5 y6 y7 y8 y9 y10, PenOk st' 1 2 zs (b + 2) → st'[m]? = some (.lst (menuL j r t)) → st'[j]? = some (.lst [.int 3]) → N [some (.ref 0), some (.ref 1), some (.ref m), some (.int k), y4, y5, y6, y7, y8, y9, y10] st') :
    Wg (cx rp 5) (.nm 3) (.int k) [some (.ref 0), some (.ref 1), some (.ref m), y3, y4, y5, y6, y7, y8, y9, y10] st fun env1 st1 => Wss (cx rp 5) loopB env1 st1 { nx := N, ct := Ct, bk := B, rt := Rt } := by
  show Wss (cx rp 5) loopB [some (.ref 0), some (.ref 1), some (.ref m), some (.int k), y4, y5, y6, y7, y8, y9, y10] st { nx := N, ct := Ct, bk := B, rt := Rt }
  have nm := pk.ne hm
  have nj := pk.ne hj
  show Wss (cx rp 5) (.cons (.asg _ (.tup _)) _) _ _ _
  refine wss_asg (we_tup (wes_cons (we_call2 ⟨_, rfl, _, rfl, pick rp 3 pk (by omega) hm (fun z => nomatch z) (by show 11 < 2 ^ 60; decide) fun va st1 ia pk1 f1 => ?_⟩)))
  have hm1 := f1.ot m _ nm hm
  have hj1 := f1.ot j _ nj hj
  refine wes_cons (we_call2 ⟨_, rfl, _, rfl, pick rp 3 pk1 (by omega) hm1 (fun z => nomatch z) (by show 11 < 2 ^ 60; decide) fun vb st2 ib pk2 f2 => ?_⟩)
  have hm2 := f2.ot m _ nm hm1
  have hj2 := f2.ot j _ nj hj1
  obtain ⟨pa, ha⟩ := menuP r0 r1 t0 t1 ia
  obtain ⟨pb, hbb⟩ := menuP r0 r1 t0 t1 ib
  refine ⟨(by show 2 ≤ LINE; decide), _, .inl rfl, rfl, _, _, rfl, _, _, rfl, rfl, ?_⟩
  -- dues
  refine wss_set (we_lc ⟨3, rfl, by decide, by decide, ?_⟩)
  let due : List D := (List.range 3).map fun i => .str (rp (.tup ([pa, pb].take i)))
  have hdue : ∀ i, i < 3 → due[i]? = some (.str (rp (.tup ([pa, pb].take i)))) := fun i hi => by
    show ((List.range 3).map fun i => D.str (rp (.tup ([pa, pb].take i))))[i]? = _
    rw [List.getElem?_map, List.getElem?_range hi] <;> rfl
  refine lcW_ind (cx_mono rp 5) (fun i s => s = st2 ++ [.lst (due.take i)]) (fun i s _ => live_nil) 0 rfl (fun i x s hx hi => ?_) (fun s hi => ?_)
  · rw [Nat.zero_add] at hi ⊢
    subst hi
    have lt : i < 3 := by
      have := (List.getElem?_eq_some_iff.mp hx).1
      simpa using this
    have ex : x = .int i := by
      rw [List.getElem?_map, List.getElem?_range (by simpa using lt)] at hx
      exact (Option.some.inj hx).symm
    subst ex
    refine ⟨true, rfl, it_t rfl (we_bi1 ⟨_, rfl, _, rfl, (by show 2 ≤ LINE; decide), _, rfl, _, rfl, ?_⟩)⟩
    have e := tup_to (n := 46) i ha hbb (st := st2 ++ [.lst (due.take i)]) (app_at hj2) lt
    refine sl_tup ?_
    rw [cut_take lt]
    refine w_repr e (tup_ok i ha hbb lt) ⟨_, new_at, ?_, ?_⟩
    · have := List.length_take_le i due
      exact Nat.lt_of_le_of_lt (Nat.le_trans this (Nat.le_of_lt lt)) (by decide)
    · show _ = _
      rw [set_new, List.take_add_one, hdue i lt] <;> rfl
  · have hs : s = st2 ++ [.lst due] := hi
    subst hs
    have hd : (st2 ++ [O.lst due])[st2.length]? = some (.lst due) := new_at
    refine wss_asg (we_call3 ⟨_, rfl, _, rfl, _, rfl, one rp 2 hk fun st4 e fs x4 he => ?_⟩)
    have pk4 : PenOk st4 1 2 zs (b + 2) := by
      have z := (pk2.ext ext_app).ext x4
      have e2 : b + 1 + 1 = b + 2 := by omega
      rw [e2] at z
      exact z
    have hm4 := x4 _ _ (app_at (l := [O.lst due]) hm2)
    have hj4 := x4 _ _ (app_at (l := [O.lst due]) hj2)
    have hd4 := x4 _ _ hd
    have mk := many_lt k hk
    refine ⟨_, .inl rfl, rfl, _, _, rfl, _, _, rfl, rfl, ?_⟩
    have lent : ([va, vb].take (many k)).length = many k := by
      rw [List.length_take]
      show min (many k) 2 = _
      omega
    refine wss_ife (we_bi1 (b := .repr) ⟨_, rfl, w_repr (tup_to (n := 46) (many k) ha hbb hj4 mk) (tup_ok (many k) ha hbb mk) ⟨_, rfl, we_bi1 ⟨_, rfl, w_lenT ⟨.str (rp (.tup ([pa, pb].take (many k)))), ?_, false, ne_str, false, rfl, it_f rfl ?_⟩⟩⟩⟩)
    · rw [lent]
      exact ix_lst hd4 (atI_nat (hdue _ mk))
    obtain ⟨i1, i2⟩ := isx_all k hk
    refine wss_ife ⟨_, rfl, true, kind_exc he i1, true, rfl, it_f rfl ⟨_, rfl, true, kind_exc he i2, true, rfl, it_f rfl ?_⟩⟩
    refine wss_ife (we_call1 ⟨_, rfl, which rp 3 (cls_lt k hk) he fun st5 w x5 hw => ?_⟩)
    rw [whichL_eq hk] at hw
    refine we_lc ⟨17, rfl, by decide, by decide, ?_⟩
    refine lcW_ind (cx_mono rp 5) (fun i s => s = st5 ++ [.lst (((bools k).map D.bl).take i)]) (fun i s _ => live_nil) 0 rfl (fun i x s hx hi => ?_) (fun s hi => ?_)
    · rw [Nat.zero_add] at hi ⊢
      subst hi
      have lt : i < 17 := by
        have := (List.getElem?_eq_some_iff.mp hx).1
        simpa using this
      have ex : x = .int i := by
        rw [List.getElem?_map, List.getElem?_range (by simpa using lt)] at hx
        exact (Option.some.inj hx).symm
      subst ex
      refine ⟨true, rfl, it_t rfl ⟨_, rfl, _, rfl, _, rfl, _, new_at, ?_, ?_⟩⟩
      · have := List.length_take_le i ((bools k).map D.bl)
        exact Nat.lt_of_le_of_lt (Nat.le_trans this (Nat.le_of_lt lt)) (by decide)
      · show _ = _
        have hbi : ((bools k).map D.bl)[i]? = some (.bl ((i : Int) == (k : Int))) := by
          rw [List.getElem?_map]
          unfold bools
          rw [List.getElem?_map, List.getElem?_range lt] <;> rfl
        rw [set_new, List.take_add_one, hbi] <;> rfl
    · have hs : s = st5 ++ [.lst ((bools k).map D.bl)] := by
        have e : ((bools k).map D.bl).take (0 + ((List.range (Int.toNat 17)).map fun (i : Nat) => D.int i).length) = (bools k).map D.bl := List.take_of_length_le (by simp [bools])
        rw [← e]
        exact hi
      subst hs
      refine ⟨false, ne_bls (app_at hw) new_at, false, rfl, it_f rfl ?_⟩
      exact hN _ _ _ _ _ _ _ _ ((pk4.ext x5).ext ext_app) (app_at (x5 _ _ hm4)) (app_at (x5 _ _ hj4))
def deep : Nat := 5
theorem law (rp : P → Sx) {zs : List Int} (hl : zs.length ≤ 63) : (cx rp 6).call 6 [.ref 0] [.rol (zs.map .int)] fun d _ => d = .bl true := by
  refine ⟨rfl, ?_⟩
  show Wss (cx rp 5) ir_law [some (.ref 0), none, none, none, none, none, none, none, none, none, none] [.rol (zs.map .int)] (bodyK _)
  refine wss_set (we_call1 ⟨_, rfl, pen rp 3 (s := 0) rfl (by omega) fun st1 pk1 x1 => ?_⟩)
  have pk1 : PenOk st1 1 2 zs 0 := pk1
  show Wss (cx rp 5) (.cons (.asg (.nm 2) (.lst _)) _) _ _ _
  refine wss_set ?_
  refine we_lst ?_
  refine wes_c (wes_c (wes_c ?_))
  refine wes_cons ?_
  refine ⟨_, rfl, we_call2 ⟨_, rfl, draw rp 4 pk1 (by decide) (by decide) (by decide) fun r st2 r0 r1 pk2 f2 => ?_⟩⟩
  refine w_sub ?_
  refine wes_cons ?_
  refine ⟨⟨by decide, by decide, by decide⟩, we_call2 ⟨_, rfl, draw rp 4 pk2 (by decide) (by decide) (by decide) fun t st3 t0 t1 pk3 f3 => ?_⟩⟩
  refine w_add ?_
  refine wes_c (wes_c ?_)
  refine ⟨(by show 2 ≤ LINE; decide), ?_⟩
  refine ⟨(by show 1 ≤ LINE; decide), ?_⟩
  refine ⟨(by show 2 ≤ LINE; decide), (by show 10 ≤ LINE; decide), ?_⟩
  have hj : (st3 ++ [O.lst [D.int 3]])[st3.length]? = some (.lst [.int 3]) := new_at
  refine ⟨_, rfl, rcv_lst new_at rfl, ?_⟩
  refine ⟨(by show 2 ≤ LINE; decide), (by show 1 ≤ LINE; decide), _, bm_app new_at (by show 10 < LINE; decide), ?_⟩
  refine wss_for ⟨17, rfl, by decide, by decide, ?_⟩
  rw [set_new]
  refine forW_ind (cx_mono rp 5) (fun k env st => ∃ y3 y4 y5 y6 y7 y8 y9 y10, env = [some (.ref 0), some (.ref 1), some (.ref (st3 ++ [O.lst [D.int 3]]).length), y3, y4, y5, y6, y7, y8, y9, y10] ∧ PenOk st 1 2 zs (2 + 2 * (k : Int)) ∧
    st[(st3 ++ [O.lst [D.int 3]]).length]? = some (.lst (menuL st3.length r t)) ∧ st[st3.length]? = some (.lst [.int 3])) (fun _ _ _ _ => live_nil) 0 ?_ (fun i x env st hx hi => ?_) (fun env st hi => ?_)
  · exact ⟨none, none, none, none, none, none, none, none, rfl, (pk3.ext ext_app).ext ext_app, new_at, app_at hj⟩
  · rw [Nat.zero_add] at hi ⊢
    have lt : i < 17 := by
      have := (List.getElem?_eq_some_iff.mp hx).1
      simpa using this
    have ex : x = .int i := by
      rw [List.getElem?_map, List.getElem?_range (by simpa using lt)] at hx
      exact (Option.some.inj hx).symm
    subst ex
    obtain ⟨y3, y4, y5, y6, y7, y8, y9, y10, rfl, pk, hm, hj⟩ := hi
    refine turn rp lt r0 r1 t0 t1 pk (by omega) hm hj fun st' z4 z5 z6 z7 z8 z9 z10 pk' hm' hj' => ?_
    refine ⟨some (.int i), z4, z5, z6, z7, z8, z9, z10, rfl, ?_, hm', hj'⟩
    have e : 2 + 2 * (i : Int) + 2 = 2 + 2 * ((i + 1 : Nat) : Int) := by omega
    rw [← e]
    exact pk'
  · exact wss_ret (show D.bl true = .bl true from rfl)
end Py.K00
end
section
set_option Elab.async false
set_option linter.all false
set_option maxRecDepth 100000
set_option maxHeartbeats 0
namespace Py.K00
open PySem PySem.Spec L2 PyProof.Rows
/-! the row, tied to the small syntax; printed by gen.py -/
def row (i : Nat) : Stmt := PySem.Challenge.pw_endlessplans_k00_errors.main.body.getD i (.Pass ⟨0, 0, 0, 0⟩)
theorem es_fold : (("fold" : String) : Str) = tx s_fold := by decide +kernel
theorem es_count : (("count" : String) : Str) = tx s_count := by decide +kernel
theorem es_digits : (("digits" : String) : Str) = tx s_digits := by decide +kernel
theorem es_at : (("at" : String) : Str) = tx s_at := by decide +kernel
theorem es_cells : (("cells" : String) : Str) = tx s_cells := by decide +kernel
theorem es_name : (("name" : String) : Str) = tx s_name := by decide +kernel
theorem es_line : (("line" : String) : Str) = tx s_line := by decide +kernel
theorem es_column : (("column" : String) : Str) = tx s_column := by decide +kernel
theorem es_what : (("what" : String) : Str) = tx s_what := by decide +kernel
theorem es_number : (("number" : String) : Str) = tx s_number := by decide +kernel
theorem es_promise : (("promise" : String) : Str) = tx s_promise := by decide +kernel
theorem es_witness : (("witness" : String) : Str) = tx s_witness := by decide +kernel
theorem es_word : (("word" : String) : Str) = tx s_word := by decide +kernel
theorem es_game : (("game" : String) : Str) = tx s_game := by decide +kernel
theorem es_goal : (("goal" : String) : Str) = tx s_goal := by decide +kernel
theorem es_plan : (("plan" : String) : Str) = tx s_plan := by decide +kernel
theorem es_play : (("play" : String) : Str) = tx s_play := by decide +kernel
theorem es_job : (("job" : String) : Str) = tx s_job := by decide +kernel
theorem es_answers : (("answers" : String) : Str) = tx s_answers := by decide +kernel
theorem es_paper : (("paper" : String) : Str) = tx s_paper := by decide +kernel
theorem es_ : (("" : String) : Str) = tx s_ := by decide +kernel
theorem es_log : (("log" : String) : Str) = tx s_log := by decide +kernel
theorem es_b : (("b" : String) : Str) = tx s_b := by decide +kernel
theorem es_c : (("c" : String) : Str) = tx s_c := by decide +kernel
def d__law_pen : He.DefD := ⟨("_law_pen", none), "_law_pen", "_law_pen", defArgs (row 20), defBody (row 20), defScope (row 20), [], []⟩
def d__law_draw : He.DefD := ⟨("_law_draw", none), "_law_draw", "_law_draw", defArgs (row 21), defBody (row 21), defScope (row 21), [], []⟩
def d__law_pick : He.DefD := ⟨("_law_pick", none), "_law_pick", "_law_pick", defArgs (row 22), defBody (row 22), defScope (row 22), [], []⟩
def d__law_one : He.DefD := ⟨("_law_one", none), "_law_one", "_law_one", defArgs (row 23), defBody (row 23), defScope (row 23), [], []⟩
def d__law_single : He.DefD := ⟨("_law_single", none), "_law_single", "_law_single", defArgs (row 24), defBody (row 24), defScope (row 24), [], []⟩
def d__law_which : He.DefD := ⟨("_law_which", none), "_law_which", "_law_which", defArgs (row 25), defBody (row 25), defScope (row 25), [], []⟩
def d_law : He.DefD := ⟨("law", none), "law", "law", defArgs (row 26), defBody (row 26), defScope (row 26), [], []⟩
def d_init_BadText : He.DefD := ⟨("BadText", some "__init__"), "__init__", "BadText.__init__", defArgs (inClass (row 2) 0), defBody (inClass (row 2) 0), defScope (inClass (row 2) 0), [], []⟩
def d_init_BadNumber : He.DefD := ⟨("BadNumber", some "__init__"), "__init__", "BadNumber.__init__", defArgs (inClass (row 3) 0), defBody (inClass (row 3) 0), defScope (inClass (row 3) 0), [], []⟩
def d_init_BadName : He.DefD := ⟨("BadName", some "__init__"), "__init__", "BadName.__init__", defArgs (inClass (row 4) 0), defBody (inClass (row 4) 0), defScope (inClass (row 4) 0), [], []⟩
def d_init_NoName : He.DefD := ⟨("NoName", some "__init__"), "__init__", "NoName.__init__", defArgs (inClass (row 5) 0), defBody (inClass (row 5) 0), defScope (inClass (row 5) 0), [], []⟩
def d_init_TakenName : He.DefD := ⟨("TakenName", some "__init__"), "__init__", "TakenName.__init__", defArgs (inClass (row 6) 0), defBody (inClass (row 6) 0), defScope (inClass (row 6) 0), [], []⟩
def d_init_BadWord : He.DefD := ⟨("BadWord", some "__init__"), "__init__", "BadWord.__init__", defArgs (inClass (row 7) 0), defBody (inClass (row 7) 0), defScope (inClass (row 7) 0), [], []⟩
def d_init_BadGame : He.DefD := ⟨("BadGame", some "__init__"), "__init__", "BadGame.__init__", defArgs (inClass (row 8) 0), defBody (inClass (row 8) 0), defScope (inClass (row 8) 0), [], []⟩
def d_init_BadGoal : He.DefD := ⟨("BadGoal", some "__init__"), "__init__", "BadGoal.__init__", defArgs (inClass (row 9) 0), defBody (inClass (row 9) 0), defScope (inClass (row 9) 0), [], []⟩
def d_init_BadPlan : He.DefD := ⟨("BadPlan", some "__init__"), "__init__", "BadPlan.__init__", defArgs (inClass (row 10) 0), defBody (inClass (row 10) 0), defScope (inClass (row 10) 0), [], []⟩
def d_init_BadPlay : He.DefD := ⟨("BadPlay", some "__init__"), "__init__", "BadPlay.__init__", defArgs (inClass (row 11) 0), defBody (inClass (row 11) 0), defScope (inClass (row 11) 0), [], []⟩
def d_init_BadJob : He.DefD := ⟨("BadJob", some "__init__"), "__init__", "BadJob.__init__", defArgs (inClass (row 12) 0), defBody (inClass (row 12) 0), defScope (inClass (row 12) 0), [], []⟩
def d_init_BadAnswers : He.DefD := ⟨("BadAnswers", some "__init__"), "__init__", "BadAnswers.__init__", defArgs (inClass (row 13) 0), defBody (inClass (row 13) 0), defScope (inClass (row 13) 0), [], []⟩
def d_init_BadPaper : He.DefD := ⟨("BadPaper", some "__init__"), "__init__", "BadPaper.__init__", defArgs (inClass (row 14) 0), defBody (inClass (row 14) 0), defScope (inClass (row 14) 0), [], []⟩
def d_init_BadLog : He.DefD := ⟨("BadLog", some "__init__"), "__init__", "BadLog.__init__", defArgs (inClass (row 15) 0), defBody (inClass (row 15) 0), defScope (inClass (row 15) 0), [], []⟩
def d_init_NotKept : He.DefD := ⟨("NotKept", some "__init__"), "__init__", "NotKept.__init__", defArgs (inClass (row 16) 0), defBody (inClass (row 16) 0), defScope (inClass (row 16) 0), [], []⟩
def fnL : List He.DefD := [d__law_pen, d__law_draw, d__law_pick, d__law_one, d__law_single, d__law_which, d_law, d_init_BadText, d_init_BadNumber, d_init_BadName, d_init_NoName, d_init_TakenName, d_init_BadWord, d_init_BadGame, d_init_BadGoal, d_init_BadPlan, d_init_BadPlay, d_init_BadJob, d_init_BadAnswers, d_init_BadPaper, d_init_BadLog, d_init_NotKept]
def faN : Nat → Str
  | 0 => "_law_pen"
  | 1 => "_law_draw"
  | 2 => "_law_pick"
  | 3 => "_law_one"
  | 4 => "_law_single"
  | 5 => "_law_which"
  | 6 => "law"
  | _ => ""
def caN : Nat → Str
  | 0 => "PlanError"
  | 1 => "BadText"
  | 2 => "BadNumber"
  | 3 => "BadName"
  | 4 => "NoName"
  | 5 => "TakenName"
  | 6 => "BadWord"
  | 7 => "BadGame"
  | 8 => "BadGoal"
  | 9 => "BadPlan"
  | 10 => "BadPlay"
  | 11 => "BadJob"
  | 12 => "BadAnswers"
  | 13 => "BadPaper"
  | 14 => "BadLog"
  | 15 => "NotKept"
  | 16 => "NothingToUndo"
  | 17 => "NothingToRedo"
  | _ => ""
def tab (K : PySem.W.Frag) : Tab := ⟨fun k => He.ga K (faN k), fun c => He.ga K (caN c)⟩
/-- a context over these classes -/
structure Base (C : Py.Cx) : Prop where
  xc : C.xc = xcT
  isa : C.isa = fun _ _ => none
  isx : C.isx = isxT
  cls : C.cls = fun _ => false
  rp : C.rp = rpW
theorem kindC {K : PySem.W.Frag} {k : Nat} {cu : PySem.W.Frag → Value} (h : fKind tab (mk (fun _ => []) fun _ _ _ _ => False) 18 k cu K = true) (C : Py.Cx) (hb : Base C) : KindH K (tab K) C k (cu K) := by
  have q : KindH K (tab K) (mk (fun _ => []) fun _ _ _ _ => False) k (cu K) := fKind_ok h (fun c b e => nomatch e) fun c b e => by
    have e2 : isxT c k = some b := e
    unfold isxT at e2
    split at e2
    · assumption
    · cases e2
  refine ⟨q.non, q.bl, q.int, q.str, q.tup, q.lst, fun c b e => ?_, fun c b e => q.clx c b ?_⟩
  · rw [hb.isa] at e
    cases e
  · rw [hb.isx] at e
    exact e
theorem isaC {K : PySem.W.Frag} (h : (fGs K && (List.range 18).all fun c => (ancT c).isEmpty || fExcK K ((tab K).ca c)) = true) (C : Py.Cx) (hb : Base C) : IsaH K (tab K) C := by
  obtain ⟨h1, h2⟩ := band h
  obtain ⟨h3, h4⟩ := band h1
  refine ⟨fun c k b e => ?_, fun c k b e => ?_, He.eqO_ok h3, of_decide_eq_true h4⟩
  · rw [hb.isa] at e
    cases e
  · rw [hb.isx] at e
    unfold isxT at e
    split at e
    · rename_i lt
      have q := List.all_eq_true.mp h2 c (List.mem_range.mpr lt)
      cases q1 : (ancT c).isEmpty with
      | true =>
        exfalso
        revert q1
        clear q h2 e k b
        revert c
        decide
      | false =>
        rw [q1] at q
        exact fExcK_ok q
    · cases e
structure Top (P : Program) (w : World) (K : PySem.W.Frag) (mg : Str → Option Value) (base : Heap) : Prop where
  g__law_pen : mg "_law_pen" = some (.ref ((tab K).fa 0))
  g__law_draw : mg "_law_draw" = some (.ref ((tab K).fa 1))
  g__law_pick : mg "_law_pick" = some (.ref ((tab K).fa 2))
  g__law_one : mg "_law_one" = some (.ref ((tab K).fa 3))
  g__law_single : mg "_law_single" = some (.ref ((tab K).fa 4))
  g__law_which : mg "_law_which" = some (.ref ((tab K).fa 5))
  g_law : mg "law" = some (.ref ((tab K).fa 6))
  c_PlanError : mg "PlanError" = some (.ref ((tab K).ca 0))
  c_BadText : mg "BadText" = some (.ref ((tab K).ca 1))
  c_BadNumber : mg "BadNumber" = some (.ref ((tab K).ca 2))
  c_BadName : mg "BadName" = some (.ref ((tab K).ca 3))
  c_NoName : mg "NoName" = some (.ref ((tab K).ca 4))
  c_TakenName : mg "TakenName" = some (.ref ((tab K).ca 5))
  c_BadWord : mg "BadWord" = some (.ref ((tab K).ca 6))
  c_BadGame : mg "BadGame" = some (.ref ((tab K).ca 7))
  c_BadGoal : mg "BadGoal" = some (.ref ((tab K).ca 8))
  c_BadPlan : mg "BadPlan" = some (.ref ((tab K).ca 9))
  c_BadPlay : mg "BadPlay" = some (.ref ((tab K).ca 10))
  c_BadJob : mg "BadJob" = some (.ref ((tab K).ca 11))
  c_BadAnswers : mg "BadAnswers" = some (.ref ((tab K).ca 12))
  c_BadPaper : mg "BadPaper" = some (.ref ((tab K).ca 13))
  c_BadLog : mg "BadLog" = some (.ref ((tab K).ca 14))
  c_NotKept : mg "NotKept" = some (.ref ((tab K).ca 15))
  c_NothingToUndo : mg "NothingToUndo" = some (.ref ((tab K).ca 16))
  c_NothingToRedo : mg "NothingToRedo" = some (.ref ((tab K).ca 17))
  b_ValueError : mg "ValueError" = none
  b_int : mg "int" = none
  b_isinstance : mg "isinstance" = none
  b_len : mg "len" = none
  b_list : mg "list" = none
  b_range : mg "range" = none
  b_repr : mg "repr" = none
  i_PlanError : ∀ C : Py.Cx, Base C → KindH K (tab K) C 100 (.ref ((tab K).ca 0))
  i_BadText : ∀ C : Py.Cx, Base C → KindH K (tab K) C 101 (.ref ((tab K).ca 1))
  i_BadNumber : ∀ C : Py.Cx, Base C → KindH K (tab K) C 102 (.ref ((tab K).ca 2))
  i_BadName : ∀ C : Py.Cx, Base C → KindH K (tab K) C 103 (.ref ((tab K).ca 3))
  i_NoName : ∀ C : Py.Cx, Base C → KindH K (tab K) C 104 (.ref ((tab K).ca 4))
  i_TakenName : ∀ C : Py.Cx, Base C → KindH K (tab K) C 105 (.ref ((tab K).ca 5))
  i_BadWord : ∀ C : Py.Cx, Base C → KindH K (tab K) C 106 (.ref ((tab K).ca 6))
  i_BadGame : ∀ C : Py.Cx, Base C → KindH K (tab K) C 107 (.ref ((tab K).ca 7))
  i_BadGoal : ∀ C : Py.Cx, Base C → KindH K (tab K) C 108 (.ref ((tab K).ca 8))
  i_BadPlan : ∀ C : Py.Cx, Base C → KindH K (tab K) C 109 (.ref ((tab K).ca 9))
  i_BadPlay : ∀ C : Py.Cx, Base C → KindH K (tab K) C 110 (.ref ((tab K).ca 10))
  i_BadJob : ∀ C : Py.Cx, Base C → KindH K (tab K) C 111 (.ref ((tab K).ca 11))
  i_BadAnswers : ∀ C : Py.Cx, Base C → KindH K (tab K) C 112 (.ref ((tab K).ca 12))
  i_BadPaper : ∀ C : Py.Cx, Base C → KindH K (tab K) C 113 (.ref ((tab K).ca 13))
  i_BadLog : ∀ C : Py.Cx, Base C → KindH K (tab K) C 114 (.ref ((tab K).ca 14))
  i_NotKept : ∀ C : Py.Cx, Base C → KindH K (tab K) C 115 (.ref ((tab K).ca 15))
  i_NothingToUndo : ∀ C : Py.Cx, Base C → KindH K (tab K) C 116 (.ref ((tab K).ca 16))
  i_NothingToRedo : ∀ C : Py.Cx, Base C → KindH K (tab K) C 117 (.ref ((tab K).ca 17))
  i_ValueError : ∀ C : Py.Cx, Base C → KindH K (tab K) C 6 (.type "ValueError")
  isa : ∀ C : Py.Cx, Base C → IsaH K (tab K) C
  x_PlanError : PySem.W.excIn K ((tab K).ca 0) He.veBase "ValueError.__new__" = true
  q_PlanError : PySem.W.keepIn K (.ref ((tab K).ca 0)) = true
  x_NothingToUndo : PySem.W.excIn K ((tab K).ca 16) He.veBase "ValueError.__new__" = true
  q_NothingToUndo : PySem.W.keepIn K (.ref ((tab K).ca 16)) = true
  x_NothingToRedo : PySem.W.excIn K ((tab K).ca 17) He.veBase "ValueError.__new__" = true
  q_NothingToRedo : PySem.W.keepIn K (.ref ((tab K).ca 17)) = true
  m_BadText : XMk P w K mg base ((tab K).ca 1) [s_line, s_column]
  f_BadText : XfC K ((tab K).ca 1)
  n_BadText : ∀ f ∈ ([s_line, s_column] : List Sx), PySem.W.findIn K (.ref ((tab K).ca 1)) (tx f) = some none
  m_BadNumber : XMk P w K mg base ((tab K).ca 2) [s_what, s_number]
  f_BadNumber : XfC K ((tab K).ca 2)
  n_BadNumber : ∀ f ∈ ([s_what, s_number] : List Sx), PySem.W.findIn K (.ref ((tab K).ca 2)) (tx f) = some none
  m_BadName : XMk P w K mg base ((tab K).ca 3) [s_name]
  f_BadName : XfC K ((tab K).ca 3)
  n_BadName : ∀ f ∈ ([s_name] : List Sx), PySem.W.findIn K (.ref ((tab K).ca 3)) (tx f) = some none
  m_NoName : XMk P w K mg base ((tab K).ca 4) [s_name]
  f_NoName : XfC K ((tab K).ca 4)
  n_NoName : ∀ f ∈ ([s_name] : List Sx), PySem.W.findIn K (.ref ((tab K).ca 4)) (tx f) = some none
  m_TakenName : XMk P w K mg base ((tab K).ca 5) [s_name]
  f_TakenName : XfC K ((tab K).ca 5)
  n_TakenName : ∀ f ∈ ([s_name] : List Sx), PySem.W.findIn K (.ref ((tab K).ca 5)) (tx f) = some none
  m_BadWord : XMk P w K mg base ((tab K).ca 6) [s_word]
  f_BadWord : XfC K ((tab K).ca 6)
  n_BadWord : ∀ f ∈ ([s_word] : List Sx), PySem.W.findIn K (.ref ((tab K).ca 6)) (tx f) = some none
  m_BadGame : XMk P w K mg base ((tab K).ca 7) [s_game]
  f_BadGame : XfC K ((tab K).ca 7)
  n_BadGame : ∀ f ∈ ([s_game] : List Sx), PySem.W.findIn K (.ref ((tab K).ca 7)) (tx f) = some none
  m_BadGoal : XMk P w K mg base ((tab K).ca 8) [s_goal]
  f_BadGoal : XfC K ((tab K).ca 8)
  n_BadGoal : ∀ f ∈ ([s_goal] : List Sx), PySem.W.findIn K (.ref ((tab K).ca 8)) (tx f) = some none
  m_BadPlan : XMk P w K mg base ((tab K).ca 9) [s_plan]
  f_BadPlan : XfC K ((tab K).ca 9)
  n_BadPlan : ∀ f ∈ ([s_plan] : List Sx), PySem.W.findIn K (.ref ((tab K).ca 9)) (tx f) = some none
  m_BadPlay : XMk P w K mg base ((tab K).ca 10) [s_play]
  f_BadPlay : XfC K ((tab K).ca 10)
  n_BadPlay : ∀ f ∈ ([s_play] : List Sx), PySem.W.findIn K (.ref ((tab K).ca 10)) (tx f) = some none
  m_BadJob : XMk P w K mg base ((tab K).ca 11) [s_job]
  f_BadJob : XfC K ((tab K).ca 11)
  n_BadJob : ∀ f ∈ ([s_job] : List Sx), PySem.W.findIn K (.ref ((tab K).ca 11)) (tx f) = some none
  m_BadAnswers : XMk P w K mg base ((tab K).ca 12) [s_answers]
  f_BadAnswers : XfC K ((tab K).ca 12)
  n_BadAnswers : ∀ f ∈ ([s_answers] : List Sx), PySem.W.findIn K (.ref ((tab K).ca 12)) (tx f) = some none
  m_BadPaper : XMk P w K mg base ((tab K).ca 13) [s_paper]
  f_BadPaper : XfC K ((tab K).ca 13)
  n_BadPaper : ∀ f ∈ ([s_paper] : List Sx), PySem.W.findIn K (.ref ((tab K).ca 13)) (tx f) = some none
  m_BadLog : XMk P w K mg base ((tab K).ca 14) [s_line]
  f_BadLog : XfC K ((tab K).ca 14)
  n_BadLog : ∀ f ∈ ([s_line] : List Sx), PySem.W.findIn K (.ref ((tab K).ca 14)) (tx f) = some none
  m_NotKept : XMk P w K mg base ((tab K).ca 15) [s_promise, s_witness]
  f_NotKept : XfC K ((tab K).ca 15)
  n_NotKept : ∀ f ∈ ([s_promise, s_witness] : List Sx), PySem.W.findIn K (.ref ((tab K).ca 15)) (tx f) = some none
def fields : List Sx := [s_answers, s_column, s_game, s_goal, s_job, s_line, s_name, s_number, s_paper, s_plan, s_play, s_promise, s_what, s_witness, s_word]
def fx0 : List (PySem.W.Frag → Bool) := [fGlo "_law_pen",
  fGlo "_law_draw",
  fGlo "_law_pick",
  fGlo "_law_one",
  fGlo "_law_single",
  fGlo "_law_which",
  fGlo "law",
  fGlo "PlanError",
  fGlo "BadText",
  fGlo "BadNumber",
  fGlo "BadName",
  fGlo "NoName",
  fGlo "TakenName",
  fGlo "BadWord",
  fGlo "BadGame",
  fGlo "BadGoal",
  fGlo "BadPlan",
  fGlo "BadPlay",
  fGlo "BadJob",
  fGlo "BadAnswers",
  fGlo "BadPaper",
  fGlo "BadLog",
  fGlo "NotKept",
  fGlo "NothingToUndo",
  fGlo "NothingToRedo",
  fFree "ValueError",
  fFree "int",
  fFree "isinstance",
  fFree "len",
  fFree "list"]
def fx1 : List (PySem.W.Frag → Bool) := [fFree "range",
  fFree "repr",
  fKind tab (mk (fun _ => []) fun _ _ _ _ => False) 18 100 (fun K => .ref ((tab K).ca 0)),
  fKind tab (mk (fun _ => []) fun _ _ _ _ => False) 18 101 (fun K => .ref ((tab K).ca 1)),
  fKind tab (mk (fun _ => []) fun _ _ _ _ => False) 18 102 (fun K => .ref ((tab K).ca 2)),
  fKind tab (mk (fun _ => []) fun _ _ _ _ => False) 18 103 (fun K => .ref ((tab K).ca 3)),
  fKind tab (mk (fun _ => []) fun _ _ _ _ => False) 18 104 (fun K => .ref ((tab K).ca 4)),
  fKind tab (mk (fun _ => []) fun _ _ _ _ => False) 18 105 (fun K => .ref ((tab K).ca 5)),
  fKind tab (mk (fun _ => []) fun _ _ _ _ => False) 18 106 (fun K => .ref ((tab K).ca 6)),
  fKind tab (mk (fun _ => []) fun _ _ _ _ => False) 18 107 (fun K => .ref ((tab K).ca 7)),
  fKind tab (mk (fun _ => []) fun _ _ _ _ => False) 18 108 (fun K => .ref ((tab K).ca 8)),
  fKind tab (mk (fun _ => []) fun _ _ _ _ => False) 18 109 (fun K => .ref ((tab K).ca 9)),
  fKind tab (mk (fun _ => []) fun _ _ _ _ => False) 18 110 (fun K => .ref ((tab K).ca 10)),
  fKind tab (mk (fun _ => []) fun _ _ _ _ => False) 18 111 (fun K => .ref ((tab K).ca 11)),
  fKind tab (mk (fun _ => []) fun _ _ _ _ => False) 18 112 (fun K => .ref ((tab K).ca 12)),
  fKind tab (mk (fun _ => []) fun _ _ _ _ => False) 18 113 (fun K => .ref ((tab K).ca 13)),
  fKind tab (mk (fun _ => []) fun _ _ _ _ => False) 18 114 (fun K => .ref ((tab K).ca 14)),
  fKind tab (mk (fun _ => []) fun _ _ _ _ => False) 18 115 (fun K => .ref ((tab K).ca 15)),
  fKind tab (mk (fun _ => []) fun _ _ _ _ => False) 18 116 (fun K => .ref ((tab K).ca 16)),
  fKind tab (mk (fun _ => []) fun _ _ _ _ => False) 18 117 (fun K => .ref ((tab K).ca 17)),
  fKind tab (mk (fun _ => []) fun _ _ _ _ => False) 18 6 (fun _ => .type "ValueError"),
  fun K => fGs K && (List.range 18).all fun c => (ancT c).isEmpty || fExcK K ((tab K).ca c),
  fun K => PySem.W.excIn K ((tab K).ca 0) He.veBase "ValueError.__new__",
  fun K => PySem.W.keepIn K (.ref ((tab K).ca 0)),
  fun K => PySem.W.excIn K ((tab K).ca 16) He.veBase "ValueError.__new__",
  fun K => PySem.W.keepIn K (.ref ((tab K).ca 16)),
  fun K => PySem.W.excIn K ((tab K).ca 17) He.veBase "ValueError.__new__",
  fun K => PySem.W.keepIn K (.ref ((tab K).ca 17)),
  fun K => fOx K ((tab K).ca 1) && (xfB K ((tab K).ca 1) && (fNo K ((tab K).ca 1) [s_line, s_column] && fInit K ((tab K).ca 1) (He.ma K (He.ga K "BadText") "__init__"))),
  fun K => fOx K ((tab K).ca 2) && (xfB K ((tab K).ca 2) && (fNo K ((tab K).ca 2) [s_what, s_number] && fInit K ((tab K).ca 2) (He.ma K (He.ga K "BadNumber") "__init__")))]
def fx2 : List (PySem.W.Frag → Bool) := [fun K => fOx K ((tab K).ca 3) && (xfB K ((tab K).ca 3) && (fNo K ((tab K).ca 3) [s_name] && fInit K ((tab K).ca 3) (He.ma K (He.ga K "BadName") "__init__"))),
  fun K => fOx K ((tab K).ca 4) && (xfB K ((tab K).ca 4) && (fNo K ((tab K).ca 4) [s_name] && fInit K ((tab K).ca 4) (He.ma K (He.ga K "NoName") "__init__"))),
  fun K => fOx K ((tab K).ca 5) && (xfB K ((tab K).ca 5) && (fNo K ((tab K).ca 5) [s_name] && fInit K ((tab K).ca 5) (He.ma K (He.ga K "TakenName") "__init__"))),
  fun K => fOx K ((tab K).ca 6) && (xfB K ((tab K).ca 6) && (fNo K ((tab K).ca 6) [s_word] && fInit K ((tab K).ca 6) (He.ma K (He.ga K "BadWord") "__init__"))),
  fun K => fOx K ((tab K).ca 7) && (xfB K ((tab K).ca 7) && (fNo K ((tab K).ca 7) [s_game] && fInit K ((tab K).ca 7) (He.ma K (He.ga K "BadGame") "__init__"))),
  fun K => fOx K ((tab K).ca 8) && (xfB K ((tab K).ca 8) && (fNo K ((tab K).ca 8) [s_goal] && fInit K ((tab K).ca 8) (He.ma K (He.ga K "BadGoal") "__init__"))),
  fun K => fOx K ((tab K).ca 9) && (xfB K ((tab K).ca 9) && (fNo K ((tab K).ca 9) [s_plan] && fInit K ((tab K).ca 9) (He.ma K (He.ga K "BadPlan") "__init__"))),
  fun K => fOx K ((tab K).ca 10) && (xfB K ((tab K).ca 10) && (fNo K ((tab K).ca 10) [s_play] && fInit K ((tab K).ca 10) (He.ma K (He.ga K "BadPlay") "__init__"))),
  fun K => fOx K ((tab K).ca 11) && (xfB K ((tab K).ca 11) && (fNo K ((tab K).ca 11) [s_job] && fInit K ((tab K).ca 11) (He.ma K (He.ga K "BadJob") "__init__"))),
  fun K => fOx K ((tab K).ca 12) && (xfB K ((tab K).ca 12) && (fNo K ((tab K).ca 12) [s_answers] && fInit K ((tab K).ca 12) (He.ma K (He.ga K "BadAnswers") "__init__"))),
  fun K => fOx K ((tab K).ca 13) && (xfB K ((tab K).ca 13) && (fNo K ((tab K).ca 13) [s_paper] && fInit K ((tab K).ca 13) (He.ma K (He.ga K "BadPaper") "__init__"))),
  fun K => fOx K ((tab K).ca 14) && (xfB K ((tab K).ca 14) && (fNo K ((tab K).ca 14) [s_line] && fInit K ((tab K).ca 14) (He.ma K (He.ga K "BadLog") "__init__"))),
  fun K => fOx K ((tab K).ca 15) && (xfB K ((tab K).ca 15) && (fNo K ((tab K).ca 15) [s_promise, s_witness] && fInit K ((tab K).ca 15) (He.ma K (He.ga K "NotKept") "__init__")))]
def fxL : List (PySem.W.Frag → Bool) := fx0 ++ fx1 ++ fx2
theorem clsH {P : Program} {w : World} {K : PySem.W.Frag} {mg : Str → Option Value} {base : Heap} (tp : Top P w K mg base) {C : Py.Cx} (hb : Base C) : ClsH K (tab K) C fields := by
  refine ⟨fun c e => (nomatch (show false = true from (congrFun hb.cls c).symm.trans e)), fun c f e _ => (nomatch (show false = true from (congrFun hb.cls c).symm.trans e)), fun c ns e hn => ?_⟩
  rw [hb.xc] at e
  match c, e with
  | 0, e => cases e; exact absurd rfl hn
  | 1, e => cases e; exact ⟨tp.m_BadText.ox, tp.f_BadText, tp.n_BadText⟩
  | 2, e => cases e; exact ⟨tp.m_BadNumber.ox, tp.f_BadNumber, tp.n_BadNumber⟩
  | 3, e => cases e; exact ⟨tp.m_BadName.ox, tp.f_BadName, tp.n_BadName⟩
  | 4, e => cases e; exact ⟨tp.m_NoName.ox, tp.f_NoName, tp.n_NoName⟩
  | 5, e => cases e; exact ⟨tp.m_TakenName.ox, tp.f_TakenName, tp.n_TakenName⟩
  | 6, e => cases e; exact ⟨tp.m_BadWord.ox, tp.f_BadWord, tp.n_BadWord⟩
  | 7, e => cases e; exact ⟨tp.m_BadGame.ox, tp.f_BadGame, tp.n_BadGame⟩
  | 8, e => cases e; exact ⟨tp.m_BadGoal.ox, tp.f_BadGoal, tp.n_BadGoal⟩
  | 9, e => cases e; exact ⟨tp.m_BadPlan.ox, tp.f_BadPlan, tp.n_BadPlan⟩
  | 10, e => cases e; exact ⟨tp.m_BadPlay.ox, tp.f_BadPlay, tp.n_BadPlay⟩
  | 11, e => cases e; exact ⟨tp.m_BadJob.ox, tp.f_BadJob, tp.n_BadJob⟩
  | 12, e => cases e; exact ⟨tp.m_BadAnswers.ox, tp.f_BadAnswers, tp.n_BadAnswers⟩
  | 13, e => cases e; exact ⟨tp.m_BadPaper.ox, tp.f_BadPaper, tp.n_BadPaper⟩
  | 14, e => cases e; exact ⟨tp.m_BadLog.ox, tp.f_BadLog, tp.n_BadLog⟩
  | 15, e => cases e; exact ⟨tp.m_NotKept.ox, tp.f_NotKept, tp.n_NotKept⟩
  | 16, e => cases e; exact absurd rfl hn
  | 17, e => cases e; exact absurd rfl hn
  | _ + 18, e => cases e
theorem sc__law_pen : FnScope ["script", "fold", "cell"] ["script"] (defScope (row 20)) := ⟨rfl, rfl, rfl, by decide +kernel, rfl, by decide +kernel, by decide +kernel⟩
theorem t__law_pen {P : Program} {w : World} {K : PySem.W.Frag} {mg : Str → Option Value} {base : Heap} {C : Py.Cx} {lv : Nat} (hC : C.Mono) (hb : Base C) (tp : Top P w K mg base) (h2 : 2 ≤ lv) (Fn : ∀ k, k < 7 → FnH P w K mg base (tab K) C lv k)
    (cd : Value) (A : Around) (up : List PySem.Env) (s : Shared) (H : Hp) (E : XK) (hr : Room lv (A.deeper (envOfC "_law_pen" (defScope (row 20)) s.heap.objs.size ((tab K).fa 0) cd))) (gd : A.guards = some []) :
    PSs (cxOf CX0 P w K mg base ["script", "fold", "cell"] "_law_pen" (defScope (row 20)) ((tab K).fa 0) cd A up s H E).nox (defBody (row 20)) (tSs K (tab K) C ir__law_pen) := by
  have nd : (["script", "fold", "cell"] : List Str).Nodup := sc__law_pen.nd
  have hu : (A.deeper (envOfC "_law_pen" (defScope (row 20)) s.heap.objs.size ((tab K).fa 0) cd)).units + 65 < cLine := by have := hr.un; omega
  have hu1 : (A.deeper (envOfC "_law_pen" (defScope (row 20)) s.heap.objs.size ((tab K).fa 0) cd)).units + 1 < cLine := by omega
  have hu64 : (A.deeper (envOfC "_law_pen" (defScope (row 20)) s.heap.objs.size ((tab K).fa 0) cd)).units + 64 < cLine := by omega
  have clsH := clsH tp hb
  obtain ⟨hxc, hisa, hisx, hcls, hrp⟩ := id hb
  exact (ss_cons hC (st_set (i := 1) hC nd rfl (.inl rfl) (.inr rfl) se_int)
    (ss_cons hC (st_for hC PassesOwn.never rfl (si_seq hC (se_v (i := 0) rfl (.inl rfl))) (sg_nm nd rfl (.inl rfl) (.inr rfl)) (ss_cons hC (st_set (i := 1) hC nd rfl (.inl rfl) (.inr rfl) (se_bin hC op_mod bin_mod (se_biT hC call_int2 bi_int rfl tp.b_int Boot.«int» (sa_cons hC (se_bin hC op_add4 bin_add (se_bin hC op_mulW bin_mul (se_v (i := 1) rfl (.inl rfl)) se_int) (se_v (i := 2) rfl (.inl rfl))) (sa_nil hC))) se_int))
    ss_nil))
    (ss_cons hC (st_ret hC (se_dct hC (pd_cons hC (se_str es_cells ⟨by decide, by decide⟩) (se_biT hC call_list_of bi_list rfl tp.b_list Boot.«list» (sa_cons hC (se_v (i := 0) rfl (.inl rfl)) (sa_nil hC))) (pd_cons hC (se_str es_at ⟨by decide, by decide⟩) se_int (pd_cons hC (se_str es_digits ⟨by decide, by decide⟩) se_int (pd_cons hC (se_str es_count ⟨by decide, by decide⟩) se_int (pd_cons hC (se_str es_fold ⟨by decide, by decide⟩) (se_v (i := 1) rfl (.inl rfl)) pd_nil)))))))
    ss_nil)))
theorem sc__law_draw : FnScope ["pen", "many", "cell", "digit", "blend"] ["pen", "many"] (defScope (row 21)) := ⟨rfl, rfl, rfl, by decide +kernel, rfl, by decide +kernel, by decide +kernel⟩
theorem t__law_draw {P : Program} {w : World} {K : PySem.W.Frag} {mg : Str → Option Value} {base : Heap} {C : Py.Cx} {lv : Nat} (hC : C.Mono) (hb : Base C) (tp : Top P w K mg base) (h2 : 2 ≤ lv) (Fn : ∀ k, k < 7 → FnH P w K mg base (tab K) C lv k)
    (cd : Value) (A : Around) (up : List PySem.Env) (s : Shared) (H : Hp) (E : XK) (hr : Room lv (A.deeper (envOfC "_law_draw" (defScope (row 21)) s.heap.objs.size ((tab K).fa 1) cd))) (gd : A.guards = some []) :
    PSs (cxOf CX0 P w K mg base ["pen", "many", "cell", "digit", "blend"] "_law_draw" (defScope (row 21)) ((tab K).fa 1) cd A up s H E).nox (defBody (row 21)) (tSs K (tab K) C ir__law_draw) := by
  have nd : (["pen", "many", "cell", "digit", "blend"] : List Str).Nodup := sc__law_draw.nd
  have hu : (A.deeper (envOfC "_law_draw" (defScope (row 21)) s.heap.objs.size ((tab K).fa 1) cd)).units + 65 < cLine := by have := hr.un; omega
  have hu1 : (A.deeper (envOfC "_law_draw" (defScope (row 21)) s.heap.objs.size ((tab K).fa 1) cd)).units + 1 < cLine := by omega
  have hu64 : (A.deeper (envOfC "_law_draw" (defScope (row 21)) s.heap.objs.size ((tab K).fa 1) cd)).units + 64 < cLine := by omega
  have clsH := clsH tp hb
  obtain ⟨hxc, hisa, hisx, hcls, hrp⟩ := id hb
  exact (ss_cons hC (st_asg hC (se_bin hC op_add4 bin_add (se_ix hC hu (se_v (i := 0) rfl (.inl rfl)) (se_str es_count ⟨by decide, by decide⟩)) se_int) (sg_sub hC hu1 (se_v (i := 0) rfl (.inl rfl)) (se_str es_count ⟨by decide, by decide⟩)))
    (ss_cons hC (st_ife hC (PW.pt (sw_and hC (st_cmp hC (op_eqD hu64) cmp_eq (se_ix hC hu (se_v (i := 0) rfl (.inl rfl)) (se_str es_digits ⟨by decide, by decide⟩)) se_int (nomark _)) (sw_and1 (st_cmp hC op_lt cmp_lt (se_ix hC hu (se_v (i := 0) rfl (.inl rfl)) (se_str es_at ⟨by decide, by decide⟩)) (se_biB hC call_len3 bi_len rfl tp.b_len Boot.«len» (sa_cons hC (se_ix hC hu (se_v (i := 0) rfl (.inl rfl)) (se_str es_cells ⟨by decide, by decide⟩)) (sa_nil hC))) (nomark _))))) (ss_cons hC (st_set (i := 2) hC nd rfl (.inl rfl) (.inr rfl) (se_ix hC hu (se_ix hC hu (se_v (i := 0) rfl (.inl rfl)) (se_str es_cells ⟨by decide, by decide⟩)) (se_ix hC hu (se_v (i := 0) rfl (.inl rfl)) (se_str es_at ⟨by decide, by decide⟩))))
    (ss_cons hC (st_asg hC (se_bin hC op_add4 bin_add (se_ix hC hu (se_v (i := 0) rfl (.inl rfl)) (se_str es_at ⟨by decide, by decide⟩)) se_int) (sg_sub hC hu1 (se_v (i := 0) rfl (.inl rfl)) (se_str es_at ⟨by decide, by decide⟩)))
    (ss_cons hC (st_ife hC (st_cmp hC op_ge cmp_ge (se_v (i := 2) rfl (.inl rfl)) (se_bin hC op_pow bin_pow se_int se_int) (nomark _)) (ss_cons hC (st_asg hC (se_bin hC op_sub bin_sub (se_v (i := 2) rfl (.inl rfl)) (se_bin hC op_pow bin_pow se_int se_int)) (sg_sub hC hu1 (se_v (i := 0) rfl (.inl rfl)) (se_str es_digits ⟨by decide, by decide⟩)))
    ss_nil) (ss_cons hC (st_asg hC (se_bin hC op_mod bin_mod (se_biT hC call_int2 bi_int rfl tp.b_int Boot.«int» (sa_cons hC (se_bin hC op_add4 bin_add (se_bin hC op_mulW bin_mul (se_ix hC hu (se_v (i := 0) rfl (.inl rfl)) (se_str es_fold ⟨by decide, by decide⟩)) se_int) (se_v (i := 2) rfl (.inl rfl))) (sa_nil hC))) se_int) (sg_sub hC hu1 (se_v (i := 0) rfl (.inl rfl)) (se_str es_fold ⟨by decide, by decide⟩)))
    ss_nil))
    ss_nil))) ss_nil)
    (ss_cons hC (st_ife hC (st_cmp hC op_gt cmp_gt (se_ix hC hu (se_v (i := 0) rfl (.inl rfl)) (se_str es_digits ⟨by decide, by decide⟩)) se_int (nomark _)) (ss_cons hC (st_set (i := 3) hC nd rfl (.inl rfl) (.inr rfl) (se_bin hC op_mod bin_mod (se_biT hC call_int2 bi_int rfl tp.b_int Boot.«int» (sa_cons hC (se_ix hC hu (se_v (i := 0) rfl (.inl rfl)) (se_str es_digits ⟨by decide, by decide⟩)) (sa_nil hC))) (se_v (i := 1) rfl (.inl rfl))))
    (ss_cons hC (st_asg hC (se_bin hC op_fdivW bin_fdiv (se_ix hC hu (se_v (i := 0) rfl (.inl rfl)) (se_str es_digits ⟨by decide, by decide⟩)) (se_v (i := 1) rfl (.inl rfl))) (sg_sub hC hu1 (se_v (i := 0) rfl (.inl rfl)) (se_str es_digits ⟨by decide, by decide⟩)))
    (ss_cons hC (st_ret hC (se_v (i := 3) rfl (.inl rfl)))
    ss_nil))) ss_nil)
    (ss_cons hC (st_set (i := 4) hC nd rfl (.inl rfl) (.inr rfl) (se_bin hC op_add4 bin_add (se_bin hC op_add4 bin_add (se_ix hC hu (se_v (i := 0) rfl (.inl rfl)) (se_str es_fold ⟨by decide, by decide⟩)) (se_bin hC op_mulW bin_mul (se_ix hC hu (se_v (i := 0) rfl (.inl rfl)) (se_str es_count ⟨by decide, by decide⟩)) se_int)) se_int))
    (ss_cons hC (st_ret hC (se_bin hC op_mod bin_mod (se_bin hC op_fdivW bin_fdiv (se_biT hC call_int2 bi_int rfl tp.b_int Boot.«int» (sa_cons hC (se_bin hC op_mod bin_mod (se_bin hC op_pow bin_pow (se_v (i := 4) rfl (.inl rfl)) se_int) se_int) (sa_nil hC))) se_int) (se_v (i := 1) rfl (.inl rfl))))
    ss_nil)))))
theorem sc__law_pick : FnScope ["pen", "some"] ["pen", "some"] (defScope (row 22)) := ⟨rfl, rfl, rfl, by decide +kernel, rfl, by decide +kernel, by decide +kernel⟩
theorem t__law_pick {P : Program} {w : World} {K : PySem.W.Frag} {mg : Str → Option Value} {base : Heap} {C : Py.Cx} {lv : Nat} (hC : C.Mono) (hb : Base C) (tp : Top P w K mg base) (h2 : 2 ≤ lv) (Fn : ∀ k, k < 7 → FnH P w K mg base (tab K) C lv k)
    (cd : Value) (A : Around) (up : List PySem.Env) (s : Shared) (H : Hp) (E : XK) (hr : Room lv (A.deeper (envOfC "_law_pick" (defScope (row 22)) s.heap.objs.size ((tab K).fa 2) cd))) (gd : A.guards = some []) :
    PSs (cxOf CX0 P w K mg base ["pen", "some"] "_law_pick" (defScope (row 22)) ((tab K).fa 2) cd A up s H E).nox (defBody (row 22)) (tSs K (tab K) C ir__law_pick) := by
  have nd : (["pen", "some"] : List Str).Nodup := sc__law_pick.nd
  have hu : (A.deeper (envOfC "_law_pick" (defScope (row 22)) s.heap.objs.size ((tab K).fa 2) cd)).units + 65 < cLine := by have := hr.un; omega
  have hu1 : (A.deeper (envOfC "_law_pick" (defScope (row 22)) s.heap.objs.size ((tab K).fa 2) cd)).units + 1 < cLine := by omega
  have hu64 : (A.deeper (envOfC "_law_pick" (defScope (row 22)) s.heap.objs.size ((tab K).fa 2) cd)).units + 64 < cLine := by omega
  have clsH := clsH tp hb
  obtain ⟨hxc, hisa, hisx, hcls, hrp⟩ := id hb
  exact (ss_cons hC (st_ret hC (se_ix hC hu (se_v (i := 1) rfl (.inl rfl)) (se_call hC (Fn 1 (by decide)) hr gd rfl tp.g__law_draw (sa_cons hC (se_v (i := 0) rfl (.inl rfl)) (sa_cons hC (se_biB hC call_len3 bi_len rfl tp.b_len Boot.«len» (sa_cons hC (se_v (i := 1) rfl (.inl rfl)) (sa_nil hC))) (sa_nil hC))))))
    ss_nil)
theorem sc__law_one : FnScope ["kind", "a", "b", "e"] ["kind", "a", "b"] (defScope (row 23)) := ⟨rfl, rfl, rfl, by decide +kernel, rfl, by decide +kernel, by decide +kernel⟩
theorem t__law_one {P : Program} {w : World} {K : PySem.W.Frag} {mg : Str → Option Value} {base : Heap} {C : Py.Cx} {lv : Nat} (hC : C.Mono) (hb : Base C) (tp : Top P w K mg base) (h2 : 2 ≤ lv) (Fn : ∀ k, k < 7 → FnH P w K mg base (tab K) C lv k)
    (cd : Value) (A : Around) (up : List PySem.Env) (s : Shared) (H : Hp) (E : XK) (hr : Room lv (A.deeper (envOfC "_law_one" (defScope (row 23)) s.heap.objs.size ((tab K).fa 3) cd))) (gd : A.guards = some []) :
    PSs (cxOf CX0 P w K mg base ["kind", "a", "b", "e"] "_law_one" (defScope (row 23)) ((tab K).fa 3) cd A up s H E).nox (defBody (row 23)) (tSs K (tab K) C ir__law_one) := by
  have nd : (["kind", "a", "b", "e"] : List Str).Nodup := sc__law_one.nd
  have hu : (A.deeper (envOfC "_law_one" (defScope (row 23)) s.heap.objs.size ((tab K).fa 3) cd)).units + 65 < cLine := by have := hr.un; omega
  have hu1 : (A.deeper (envOfC "_law_one" (defScope (row 23)) s.heap.objs.size ((tab K).fa 3) cd)).units + 1 < cLine := by omega
  have hu64 : (A.deeper (envOfC "_law_one" (defScope (row 23)) s.heap.objs.size ((tab K).fa 3) cd)).units + 64 < cLine := by omega
  have clsH := clsH tp hb
  obtain ⟨hxc, hisa, hisx, hcls, hrp⟩ := id hb
  exact (ss_cons hC (st_ife hC (st_cmp hC op_lt cmp_lt (se_v (i := 0) rfl (.inl rfl)) se_int (nomark _)) (ss_cons hC (st_set (i := 3) hC nd rfl (.inl rfl) (.inr rfl) (se_ix hC hu (se_lst hC (sa_cons hC (se_excM (ns := [s_name]) hC (congrFun hxc 3) (by decide) (by decide) (tp.m_BadName) hr h2 gd rfl tp.c_BadName (sa_cons hC (se_v (i := 1) rfl (.inl rfl)) (sa_nil hC))) (sa_cons hC (se_excM (ns := [s_name]) hC (congrFun hxc 4) (by decide) (by decide) (tp.m_NoName) hr h2 gd rfl tp.c_NoName (sa_cons hC (se_v (i := 1) rfl (.inl rfl)) (sa_nil hC))) (sa_cons hC (se_excM (ns := [s_name]) hC (congrFun hxc 5) (by decide) (by decide) (tp.m_TakenName) hr h2 gd rfl tp.c_TakenName (sa_cons hC (se_v (i := 1) rfl (.inl rfl)) (sa_nil hC))) (sa_nil hC))))) (se_v (i := 0) rfl (.inl rfl))))
    (ss_cons hC (st_ret hC (se_tup hC (sa_cons hC (se_v (i := 3) rfl (.inl rfl)) (sa_cons hC (se_tup hC (sa_cons hC (se_att hC clsH es_name (by decide) (se_v (i := 3) rfl (.inl rfl)) rfl) (sa_nil hC))) (sa_nil hC)))))
    ss_nil)) ss_nil)
    (ss_cons hC (st_ife hC (st_cmp hC op_lt cmp_lt (se_v (i := 0) rfl (.inl rfl)) se_int (nomark _)) (ss_cons hC (st_ret hC (se_call hC (Fn 4 (by decide)) hr gd rfl tp.g__law_single (sa_cons hC (se_v (i := 0) rfl (.inl rfl)) (sa_cons hC (se_v (i := 1) rfl (.inl rfl)) (sa_nil hC)))))
    ss_nil) ss_nil)
    (ss_cons hC (st_ife hC (st_cmp hC (op_eqD hu64) cmp_eq (se_v (i := 0) rfl (.inl rfl)) se_int (nomark _)) (ss_cons hC (st_set (i := 3) hC nd rfl (.inl rfl) (.inr rfl) (se_excM (ns := [s_line, s_column]) hC (congrFun hxc 1) (by decide) (by decide) (tp.m_BadText) hr h2 gd rfl tp.c_BadText (sa_cons hC (se_v (i := 1) rfl (.inl rfl)) (sa_cons hC (se_v (i := 2) rfl (.inl rfl)) (sa_nil hC)))))
    (ss_cons hC (st_ret hC (se_tup hC (sa_cons hC (se_v (i := 3) rfl (.inl rfl)) (sa_cons hC (se_tup hC (sa_cons hC (se_att hC clsH es_line (by decide) (se_v (i := 3) rfl (.inl rfl)) rfl) (sa_cons hC (se_att hC clsH es_column (by decide) (se_v (i := 3) rfl (.inl rfl)) rfl) (sa_nil hC)))) (sa_nil hC)))))
    ss_nil)) ss_nil)
    (ss_cons hC (st_ife hC (st_cmp hC (op_eqD hu64) cmp_eq (se_v (i := 0) rfl (.inl rfl)) se_int (nomark _)) (ss_cons hC (st_set (i := 3) hC nd rfl (.inl rfl) (.inr rfl) (se_excM (ns := [s_what, s_number]) hC (congrFun hxc 2) (by decide) (by decide) (tp.m_BadNumber) hr h2 gd rfl tp.c_BadNumber (sa_cons hC (se_v (i := 1) rfl (.inl rfl)) (sa_cons hC (se_v (i := 2) rfl (.inl rfl)) (sa_nil hC)))))
    (ss_cons hC (st_ret hC (se_tup hC (sa_cons hC (se_v (i := 3) rfl (.inl rfl)) (sa_cons hC (se_tup hC (sa_cons hC (se_att hC clsH es_what (by decide) (se_v (i := 3) rfl (.inl rfl)) rfl) (sa_cons hC (se_att hC clsH es_number (by decide) (se_v (i := 3) rfl (.inl rfl)) rfl) (sa_nil hC)))) (sa_nil hC)))))
    ss_nil)) ss_nil)
    (ss_cons hC (st_ife hC (st_cmp hC (op_eqD hu64) cmp_eq (se_v (i := 0) rfl (.inl rfl)) se_int (nomark _)) (ss_cons hC (st_set (i := 3) hC nd rfl (.inl rfl) (.inr rfl) (se_excM (ns := [s_promise, s_witness]) hC (congrFun hxc 15) (by decide) (by decide) (tp.m_NotKept) hr h2 gd rfl tp.c_NotKept (sa_cons hC (se_v (i := 1) rfl (.inl rfl)) (sa_cons hC (se_v (i := 2) rfl (.inl rfl)) (sa_nil hC)))))
    (ss_cons hC (st_ret hC (se_tup hC (sa_cons hC (se_v (i := 3) rfl (.inl rfl)) (sa_cons hC (se_tup hC (sa_cons hC (se_att hC clsH es_promise (by decide) (se_v (i := 3) rfl (.inl rfl)) rfl) (sa_cons hC (se_att hC clsH es_witness (by decide) (se_v (i := 3) rfl (.inl rfl)) rfl) (sa_nil hC)))) (sa_nil hC)))))
    ss_nil)) ss_nil)
    (ss_cons hC (st_ret hC (se_tup hC (sa_cons hC (se_ife hC (st_cmp hC (op_eqD hu64) cmp_eq (se_v (i := 0) rfl (.inl rfl)) se_int (nomark _)) (se_exc0 hC (congrFun hxc 16) PySem.F.excBase_ValueError tp.x_NothingToUndo tp.c_NothingToUndo tp.q_NothingToUndo rfl) (se_exc0 hC (congrFun hxc 17) PySem.F.excBase_ValueError tp.x_NothingToRedo tp.c_NothingToRedo tp.q_NothingToRedo rfl)) (sa_cons hC (se_tup hC (sa_nil hC)) (sa_nil hC)))))
    ss_nil))))))
theorem sc__law_single : FnScope ["kind", "a", "e"] ["kind", "a"] (defScope (row 24)) := ⟨rfl, rfl, rfl, by decide +kernel, rfl, by decide +kernel, by decide +kernel⟩
theorem t__law_single {P : Program} {w : World} {K : PySem.W.Frag} {mg : Str → Option Value} {base : Heap} {C : Py.Cx} {lv : Nat} (hC : C.Mono) (hb : Base C) (tp : Top P w K mg base) (h2 : 2 ≤ lv) (Fn : ∀ k, k < 7 → FnH P w K mg base (tab K) C lv k)
    (cd : Value) (A : Around) (up : List PySem.Env) (s : Shared) (H : Hp) (E : XK) (hr : Room lv (A.deeper (envOfC "_law_single" (defScope (row 24)) s.heap.objs.size ((tab K).fa 4) cd))) (gd : A.guards = some []) :
    PSs (cxOf CX0 P w K mg base ["kind", "a", "e"] "_law_single" (defScope (row 24)) ((tab K).fa 4) cd A up s H E).nox (defBody (row 24)) (tSs K (tab K) C ir__law_single) := by
  have nd : (["kind", "a", "e"] : List Str).Nodup := sc__law_single.nd
  have hu : (A.deeper (envOfC "_law_single" (defScope (row 24)) s.heap.objs.size ((tab K).fa 4) cd)).units + 65 < cLine := by have := hr.un; omega
  have hu1 : (A.deeper (envOfC "_law_single" (defScope (row 24)) s.heap.objs.size ((tab K).fa 4) cd)).units + 1 < cLine := by omega
  have hu64 : (A.deeper (envOfC "_law_single" (defScope (row 24)) s.heap.objs.size ((tab K).fa 4) cd)).units + 64 < cLine := by omega
  have clsH := clsH tp hb
  obtain ⟨hxc, hisa, hisx, hcls, hrp⟩ := id hb
  exact (ss_cons hC (st_ife hC (st_cmp hC (op_eqD hu64) cmp_eq (se_v (i := 0) rfl (.inl rfl)) se_int (nomark _)) (ss_cons hC (st_set (i := 2) hC nd rfl (.inl rfl) (.inr rfl) (se_excM (ns := [s_word]) hC (congrFun hxc 6) (by decide) (by decide) (tp.m_BadWord) hr h2 gd rfl tp.c_BadWord (sa_cons hC (se_v (i := 1) rfl (.inl rfl)) (sa_nil hC))))
    (ss_cons hC (st_ret hC (se_tup hC (sa_cons hC (se_v (i := 2) rfl (.inl rfl)) (sa_cons hC (se_tup hC (sa_cons hC (se_att hC clsH es_word (by decide) (se_v (i := 2) rfl (.inl rfl)) rfl) (sa_nil hC))) (sa_nil hC)))))
    ss_nil)) ss_nil)
    (ss_cons hC (st_ife hC (st_cmp hC (op_eqD hu64) cmp_eq (se_v (i := 0) rfl (.inl rfl)) se_int (nomark _)) (ss_cons hC (st_set (i := 2) hC nd rfl (.inl rfl) (.inr rfl) (se_excM (ns := [s_game]) hC (congrFun hxc 7) (by decide) (by decide) (tp.m_BadGame) hr h2 gd rfl tp.c_BadGame (sa_cons hC (se_v (i := 1) rfl (.inl rfl)) (sa_nil hC))))
    (ss_cons hC (st_ret hC (se_tup hC (sa_cons hC (se_v (i := 2) rfl (.inl rfl)) (sa_cons hC (se_tup hC (sa_cons hC (se_att hC clsH es_game (by decide) (se_v (i := 2) rfl (.inl rfl)) rfl) (sa_nil hC))) (sa_nil hC)))))
    ss_nil)) ss_nil)
    (ss_cons hC (st_ife hC (st_cmp hC (op_eqD hu64) cmp_eq (se_v (i := 0) rfl (.inl rfl)) se_int (nomark _)) (ss_cons hC (st_set (i := 2) hC nd rfl (.inl rfl) (.inr rfl) (se_excM (ns := [s_goal]) hC (congrFun hxc 8) (by decide) (by decide) (tp.m_BadGoal) hr h2 gd rfl tp.c_BadGoal (sa_cons hC (se_v (i := 1) rfl (.inl rfl)) (sa_nil hC))))
    (ss_cons hC (st_ret hC (se_tup hC (sa_cons hC (se_v (i := 2) rfl (.inl rfl)) (sa_cons hC (se_tup hC (sa_cons hC (se_att hC clsH es_goal (by decide) (se_v (i := 2) rfl (.inl rfl)) rfl) (sa_nil hC))) (sa_nil hC)))))
    ss_nil)) ss_nil)
    (ss_cons hC (st_ife hC (st_cmp hC (op_eqD hu64) cmp_eq (se_v (i := 0) rfl (.inl rfl)) se_int (nomark _)) (ss_cons hC (st_set (i := 2) hC nd rfl (.inl rfl) (.inr rfl) (se_excM (ns := [s_plan]) hC (congrFun hxc 9) (by decide) (by decide) (tp.m_BadPlan) hr h2 gd rfl tp.c_BadPlan (sa_cons hC (se_v (i := 1) rfl (.inl rfl)) (sa_nil hC))))
    (ss_cons hC (st_ret hC (se_tup hC (sa_cons hC (se_v (i := 2) rfl (.inl rfl)) (sa_cons hC (se_tup hC (sa_cons hC (se_att hC clsH es_plan (by decide) (se_v (i := 2) rfl (.inl rfl)) rfl) (sa_nil hC))) (sa_nil hC)))))
    ss_nil)) ss_nil)
    (ss_cons hC (st_ife hC (st_cmp hC (op_eqD hu64) cmp_eq (se_v (i := 0) rfl (.inl rfl)) se_int (nomark _)) (ss_cons hC (st_set (i := 2) hC nd rfl (.inl rfl) (.inr rfl) (se_excM (ns := [s_play]) hC (congrFun hxc 10) (by decide) (by decide) (tp.m_BadPlay) hr h2 gd rfl tp.c_BadPlay (sa_cons hC (se_v (i := 1) rfl (.inl rfl)) (sa_nil hC))))
    (ss_cons hC (st_ret hC (se_tup hC (sa_cons hC (se_v (i := 2) rfl (.inl rfl)) (sa_cons hC (se_tup hC (sa_cons hC (se_att hC clsH es_play (by decide) (se_v (i := 2) rfl (.inl rfl)) rfl) (sa_nil hC))) (sa_nil hC)))))
    ss_nil)) ss_nil)
    (ss_cons hC (st_ife hC (st_cmp hC (op_eqD hu64) cmp_eq (se_v (i := 0) rfl (.inl rfl)) se_int (nomark _)) (ss_cons hC (st_set (i := 2) hC nd rfl (.inl rfl) (.inr rfl) (se_excM (ns := [s_job]) hC (congrFun hxc 11) (by decide) (by decide) (tp.m_BadJob) hr h2 gd rfl tp.c_BadJob (sa_cons hC (se_v (i := 1) rfl (.inl rfl)) (sa_nil hC))))
    (ss_cons hC (st_ret hC (se_tup hC (sa_cons hC (se_v (i := 2) rfl (.inl rfl)) (sa_cons hC (se_tup hC (sa_cons hC (se_att hC clsH es_job (by decide) (se_v (i := 2) rfl (.inl rfl)) rfl) (sa_nil hC))) (sa_nil hC)))))
    ss_nil)) ss_nil)
    (ss_cons hC (st_ife hC (st_cmp hC (op_eqD hu64) cmp_eq (se_v (i := 0) rfl (.inl rfl)) se_int (nomark _)) (ss_cons hC (st_set (i := 2) hC nd rfl (.inl rfl) (.inr rfl) (se_excM (ns := [s_answers]) hC (congrFun hxc 12) (by decide) (by decide) (tp.m_BadAnswers) hr h2 gd rfl tp.c_BadAnswers (sa_cons hC (se_v (i := 1) rfl (.inl rfl)) (sa_nil hC))))
    (ss_cons hC (st_ret hC (se_tup hC (sa_cons hC (se_v (i := 2) rfl (.inl rfl)) (sa_cons hC (se_tup hC (sa_cons hC (se_att hC clsH es_answers (by decide) (se_v (i := 2) rfl (.inl rfl)) rfl) (sa_nil hC))) (sa_nil hC)))))
    ss_nil)) ss_nil)
    (ss_cons hC (st_ife hC (st_cmp hC (op_eqD hu64) cmp_eq (se_v (i := 0) rfl (.inl rfl)) se_int (nomark _)) (ss_cons hC (st_set (i := 2) hC nd rfl (.inl rfl) (.inr rfl) (se_excM (ns := [s_paper]) hC (congrFun hxc 13) (by decide) (by decide) (tp.m_BadPaper) hr h2 gd rfl tp.c_BadPaper (sa_cons hC (se_v (i := 1) rfl (.inl rfl)) (sa_nil hC))))
    (ss_cons hC (st_ret hC (se_tup hC (sa_cons hC (se_v (i := 2) rfl (.inl rfl)) (sa_cons hC (se_tup hC (sa_cons hC (se_att hC clsH es_paper (by decide) (se_v (i := 2) rfl (.inl rfl)) rfl) (sa_nil hC))) (sa_nil hC)))))
    ss_nil)) ss_nil)
    (ss_cons hC (st_set (i := 2) hC nd rfl (.inl rfl) (.inr rfl) (se_excM (ns := [s_line]) hC (congrFun hxc 14) (by decide) (by decide) (tp.m_BadLog) hr h2 gd rfl tp.c_BadLog (sa_cons hC (se_v (i := 1) rfl (.inl rfl)) (sa_nil hC))))
    (ss_cons hC (st_ret hC (se_tup hC (sa_cons hC (se_v (i := 2) rfl (.inl rfl)) (sa_cons hC (se_tup hC (sa_cons hC (se_att hC clsH es_line (by decide) (se_v (i := 2) rfl (.inl rfl)) rfl) (sa_nil hC))) (sa_nil hC)))))
    ss_nil))))))))))
theorem sc__law_which : FnScope ["e", "found"] ["e"] (defScope (row 25)) := ⟨rfl, rfl, rfl, by decide +kernel, rfl, by decide +kernel, by decide +kernel⟩
theorem t__law_which {P : Program} {w : World} {K : PySem.W.Frag} {mg : Str → Option Value} {base : Heap} {C : Py.Cx} {lv : Nat} (hC : C.Mono) (hb : Base C) (tp : Top P w K mg base) (h2 : 2 ≤ lv) (Fn : ∀ k, k < 7 → FnH P w K mg base (tab K) C lv k)
    (cd : Value) (A : Around) (up : List PySem.Env) (s : Shared) (H : Hp) (E : XK) (hr : Room lv (A.deeper (envOfC "_law_which" (defScope (row 25)) s.heap.objs.size ((tab K).fa 5) cd))) (gd : A.guards = some []) :
    PSs (cxOf CX0 P w K mg base ["e", "found"] "_law_which" (defScope (row 25)) ((tab K).fa 5) cd A up s H E).nox (defBody (row 25)) (tSs K (tab K) C ir__law_which) := by
  have nd : (["e", "found"] : List Str).Nodup := sc__law_which.nd
  have hu : (A.deeper (envOfC "_law_which" (defScope (row 25)) s.heap.objs.size ((tab K).fa 5) cd)).units + 65 < cLine := by have := hr.un; omega
  have hu1 : (A.deeper (envOfC "_law_which" (defScope (row 25)) s.heap.objs.size ((tab K).fa 5) cd)).units + 1 < cLine := by omega
  have hu64 : (A.deeper (envOfC "_law_which" (defScope (row 25)) s.heap.objs.size ((tab K).fa 5) cd)).units + 64 < cLine := by omega
  have clsH := clsH tp hb
  obtain ⟨hxc, hisa, hisx, hcls, hrp⟩ := id hb
  exact (ss_cons hC (st_set (i := 1) hC nd rfl (.inl rfl) (.inr rfl) (se_lst hC (sa_cons hC (se_isi hC (tp.i_BadName C hb) (tp.isa C hb) (.own _) rfl tp.b_isinstance Boot.«isinstance» (se_v (i := 0) rfl (.inl rfl)) (pe_glob rfl tp.c_BadName rfl)) (sa_cons hC (se_isi hC (tp.i_NoName C hb) (tp.isa C hb) (.own _) rfl tp.b_isinstance Boot.«isinstance» (se_v (i := 0) rfl (.inl rfl)) (pe_glob rfl tp.c_NoName rfl)) (sa_cons hC (se_isi hC (tp.i_TakenName C hb) (tp.isa C hb) (.own _) rfl tp.b_isinstance Boot.«isinstance» (se_v (i := 0) rfl (.inl rfl)) (pe_glob rfl tp.c_TakenName rfl)) (sa_nil hC))))))
    (ss_cons hC (st_set (i := 1) hC nd rfl (.inl rfl) (.inr rfl) (se_bin hC op_add4 bin_add (se_v (i := 1) rfl (.inl rfl)) (se_lst hC (sa_cons hC (se_isi hC (tp.i_BadWord C hb) (tp.isa C hb) (.own _) rfl tp.b_isinstance Boot.«isinstance» (se_v (i := 0) rfl (.inl rfl)) (pe_glob rfl tp.c_BadWord rfl)) (sa_cons hC (se_isi hC (tp.i_BadGame C hb) (tp.isa C hb) (.own _) rfl tp.b_isinstance Boot.«isinstance» (se_v (i := 0) rfl (.inl rfl)) (pe_glob rfl tp.c_BadGame rfl)) (sa_cons hC (se_isi hC (tp.i_BadGoal C hb) (tp.isa C hb) (.own _) rfl tp.b_isinstance Boot.«isinstance» (se_v (i := 0) rfl (.inl rfl)) (pe_glob rfl tp.c_BadGoal rfl)) (sa_cons hC (se_isi hC (tp.i_BadPlan C hb) (tp.isa C hb) (.own _) rfl tp.b_isinstance Boot.«isinstance» (se_v (i := 0) rfl (.inl rfl)) (pe_glob rfl tp.c_BadPlan rfl)) (sa_nil hC))))))))
    (ss_cons hC (st_set (i := 1) hC nd rfl (.inl rfl) (.inr rfl) (se_bin hC op_add4 bin_add (se_v (i := 1) rfl (.inl rfl)) (se_lst hC (sa_cons hC (se_isi hC (tp.i_BadPlay C hb) (tp.isa C hb) (.own _) rfl tp.b_isinstance Boot.«isinstance» (se_v (i := 0) rfl (.inl rfl)) (pe_glob rfl tp.c_BadPlay rfl)) (sa_cons hC (se_isi hC (tp.i_BadJob C hb) (tp.isa C hb) (.own _) rfl tp.b_isinstance Boot.«isinstance» (se_v (i := 0) rfl (.inl rfl)) (pe_glob rfl tp.c_BadJob rfl)) (sa_cons hC (se_isi hC (tp.i_BadAnswers C hb) (tp.isa C hb) (.own _) rfl tp.b_isinstance Boot.«isinstance» (se_v (i := 0) rfl (.inl rfl)) (pe_glob rfl tp.c_BadAnswers rfl)) (sa_cons hC (se_isi hC (tp.i_BadPaper C hb) (tp.isa C hb) (.own _) rfl tp.b_isinstance Boot.«isinstance» (se_v (i := 0) rfl (.inl rfl)) (pe_glob rfl tp.c_BadPaper rfl)) (sa_nil hC))))))))
    (ss_cons hC (st_set (i := 1) hC nd rfl (.inl rfl) (.inr rfl) (se_bin hC op_add4 bin_add (se_v (i := 1) rfl (.inl rfl)) (se_lst hC (sa_cons hC (se_isi hC (tp.i_BadLog C hb) (tp.isa C hb) (.own _) rfl tp.b_isinstance Boot.«isinstance» (se_v (i := 0) rfl (.inl rfl)) (pe_glob rfl tp.c_BadLog rfl)) (sa_nil hC)))))
    (ss_cons hC (st_set (i := 1) hC nd rfl (.inl rfl) (.inr rfl) (se_bin hC op_add4 bin_add (se_v (i := 1) rfl (.inl rfl)) (se_lst hC (sa_cons hC (se_isi hC (tp.i_BadText C hb) (tp.isa C hb) (.own _) rfl tp.b_isinstance Boot.«isinstance» (se_v (i := 0) rfl (.inl rfl)) (pe_glob rfl tp.c_BadText rfl)) (sa_cons hC (se_isi hC (tp.i_BadNumber C hb) (tp.isa C hb) (.own _) rfl tp.b_isinstance Boot.«isinstance» (se_v (i := 0) rfl (.inl rfl)) (pe_glob rfl tp.c_BadNumber rfl)) (sa_cons hC (se_isi hC (tp.i_NotKept C hb) (tp.isa C hb) (.own _) rfl tp.b_isinstance Boot.«isinstance» (se_v (i := 0) rfl (.inl rfl)) (pe_glob rfl tp.c_NotKept rfl)) (sa_nil hC)))))))
    (ss_cons hC (st_ret hC (se_bin hC op_add4 bin_add (se_v (i := 1) rfl (.inl rfl)) (se_lst hC (sa_cons hC (se_isi hC (tp.i_NothingToUndo C hb) (tp.isa C hb) (.own _) rfl tp.b_isinstance Boot.«isinstance» (se_v (i := 0) rfl (.inl rfl)) (pe_glob rfl tp.c_NothingToUndo rfl)) (sa_cons hC (se_isi hC (tp.i_NothingToRedo C hb) (tp.isa C hb) (.own _) rfl tp.b_isinstance Boot.«isinstance» (se_v (i := 0) rfl (.inl rfl)) (pe_glob rfl tp.c_NothingToRedo rfl)) (sa_nil hC))))))
    ss_nil))))))
theorem sc_law : FnScope ["script", "pen", "menu", "kind", "a", "b", "dues", "e", "fields", "many", "k"] ["script"] (defScope (row 26)) := ⟨rfl, rfl, rfl, by decide +kernel, rfl, by decide +kernel, by decide +kernel⟩
theorem t_law {P : Program} {w : World} {K : PySem.W.Frag} {mg : Str → Option Value} {base : Heap} {C : Py.Cx} {lv : Nat} (hC : C.Mono) (hb : Base C) (tp : Top P w K mg base) (h2 : 2 ≤ lv) (Fn : ∀ k, k < 7 → FnH P w K mg base (tab K) C lv k)
    (cd : Value) (A : Around) (up : List PySem.Env) (s : Shared) (H : Hp) (E : XK) (hr : Room lv (A.deeper (envOfC "law" (defScope (row 26)) s.heap.objs.size ((tab K).fa 6) cd))) (gd : A.guards = some []) :
    PSs (cxOf CX0 P w K mg base ["script", "pen", "menu", "kind", "a", "b", "dues", "e", "fields", "many", "k"] "law" (defScope (row 26)) ((tab K).fa 6) cd A up s H E).nox (defBody (row 26)) (tSs K (tab K) C ir_law) := by
  have nd : (["script", "pen", "menu", "kind", "a", "b", "dues", "e", "fields", "many", "k"] : List Str).Nodup := sc_law.nd
  have hu : (A.deeper (envOfC "law" (defScope (row 26)) s.heap.objs.size ((tab K).fa 6) cd)).units + 65 < cLine := by have := hr.un; omega
  have hu1 : (A.deeper (envOfC "law" (defScope (row 26)) s.heap.objs.size ((tab K).fa 6) cd)).units + 1 < cLine := by omega
  have hu64 : (A.deeper (envOfC "law" (defScope (row 26)) s.heap.objs.size ((tab K).fa 6) cd)).units + 64 < cLine := by omega
  have clsH := clsH tp hb
  obtain ⟨hxc, hisa, hisx, hcls, hrp⟩ := id hb
  exact (ss_cons hC (st_set (i := 1) hC nd rfl (.inl rfl) (.inr rfl) (se_call hC (Fn 0 (by decide)) hr gd rfl tp.g__law_pen (sa_cons hC (se_v (i := 0) rfl (.inl rfl)) (sa_nil hC))))
    (ss_cons hC (st_set (i := 2) hC nd rfl (.inl rfl) (.inr rfl) (se_lst hC (sa_cons hC se_non (sa_cons hC se_bl (sa_cons hC se_int (sa_cons hC (se_bin hC op_sub bin_sub (se_neg hC se_int) (se_call hC (Fn 1 (by decide)) hr gd rfl tp.g__law_draw (sa_cons hC (se_v (i := 1) rfl (.inl rfl)) (sa_cons hC se_int (sa_nil hC))))) (sa_cons hC (se_bin hC op_add4 bin_add (se_bin hC op_pow bin_pow se_int se_int) (se_call hC (Fn 1 (by decide)) hr gd rfl tp.g__law_draw (sa_cons hC (se_v (i := 1) rfl (.inl rfl)) (sa_cons hC se_int (sa_nil hC))))) (sa_cons hC (se_str es_ ⟨by decide, by decide⟩) (sa_cons hC (se_str es_log ⟨by decide, by decide⟩) (sa_cons hC (se_tup hC (sa_cons hC se_int (sa_cons hC se_int (sa_nil hC)))) (sa_cons hC (se_lst hC (sa_cons hC se_int (sa_nil hC))) (sa_cons hC (se_tup hC (sa_cons hC (se_str es_b ⟨by decide, by decide⟩) (sa_cons hC (se_str es_c ⟨by decide, by decide⟩) (sa_nil hC)))) (sa_nil hC)))))))))))))
    (ss_cons hC (st_ex hC (se_bm hC PySem.F.slot_list_append PySem.F.type_list_append mt_append bm_append rfl (se_v (i := 2) rfl (.inl rfl)) (sa_cons hC (se_tup hC (sa_cons hC (se_tup hC (sa_cons hC se_int (sa_cons hC se_int (sa_nil hC)))) (sa_nil hC))) (sa_nil hC))))
    (ss_cons hC (st_for hC PassesOwn.never rfl (si_rng1 hC rfl tp.b_range se_int) (sg_nm nd rfl (.inr rfl) (.inl rfl)) (ss_cons hC (st_asg hC (se_tup hC (sa_cons hC (se_call hC (Fn 2 (by decide)) hr gd rfl tp.g__law_pick (sa_cons hC (se_v (i := 1) rfl (.inl rfl)) (sa_cons hC (se_v (i := 2) rfl (.inl rfl)) (sa_nil hC)))) (sa_cons hC (se_call hC (Fn 2 (by decide)) hr gd rfl tp.g__law_pick (sa_cons hC (se_v (i := 1) rfl (.inl rfl)) (sa_cons hC (se_v (i := 2) rfl (.inl rfl)) (sa_nil hC)))) (sa_nil hC)))) (sg_tup rfl (sgs_cons hC (sg_nm nd rfl (.inr rfl) (.inl rfl)) (sgs_cons hC (sg_nm nd rfl (.inr rfl) (.inl rfl)) sgs_nil))))
    (ss_cons hC (st_setLc (i := 6) hC rfl nd rfl rfl (own := [(("many" : Str), 9)]) (si_rng1 hC rfl tp.b_range se_int) (blkOk_by (N := ["script", "pen", "menu", "kind", "a", "b", "dues", "e", "fields", "many", "k"]) (sc := defScope (row 26)) (by decide +kernel)) (by decide) (fun _ _ _ _ _ => (sg_nm nd rfl (.inl rfl) (.inr rfl))) (fun _ _ _ _ _ => sp_nil) (fun _ _ _ _ _ => (se_biB hC (call_reprD gd hu) (by rw [hrp]; exact bi_repr) rfl tp.b_repr Boot.«repr» (sa_cons hC (se_sl hC (se_tup hC (sa_cons hC (se_v (i := 4) rfl (.inr (.inl rfl))) (sa_cons hC (se_v (i := 5) rfl (.inr (.inl rfl))) (sa_nil hC)))) (so_none hC) (so_some hC (se_v (i := 9) rfl (.inl rfl)))) (sa_nil hC)))))
    (ss_cons hC (st_asg hC (se_call hC (Fn 3 (by decide)) hr gd rfl tp.g__law_one (sa_cons hC (se_v (i := 3) rfl (.inr (.inl rfl))) (sa_cons hC (se_v (i := 4) rfl (.inr (.inl rfl))) (sa_cons hC (se_v (i := 5) rfl (.inr (.inl rfl))) (sa_nil hC))))) (sg_tup rfl (sgs_cons hC (sg_nm nd rfl (.inl rfl) (.inr rfl)) (sgs_cons hC (sg_nm nd rfl (.inl rfl) (.inr rfl)) sgs_nil))))
    (ss_cons hC (st_ife hC (st_cmp hC (op_neD hu64) cmp_ne (se_biB hC (call_reprD gd hu) (by rw [hrp]; exact bi_repr) rfl tp.b_repr Boot.«repr» (sa_cons hC (se_v (i := 8) rfl (.inl rfl)) (sa_nil hC))) (se_ix hC hu (se_v (i := 6) rfl (.inl rfl)) (se_biB hC call_len3 bi_len rfl tp.b_len Boot.«len» (sa_cons hC (se_v (i := 8) rfl (.inl rfl)) (sa_nil hC)))) (nomark _)) (ss_cons hC (st_ret hC se_bl)
    ss_nil) ss_nil)
    (ss_cons hC (st_ife hC (PW.pt (sw_or hC (st_not hC (st_e hC (se_isi hC (tp.i_PlanError C hb) (tp.isa C hb) (.own _) rfl tp.b_isinstance Boot.«isinstance» (se_v (i := 7) rfl (.inl rfl)) (pe_glob rfl tp.c_PlanError rfl)))) (sw_or1 (st_not hC (st_e hC (se_isi hC (tp.i_ValueError C hb) (tp.isa C hb) (.ty _) rfl tp.b_isinstance Boot.«isinstance» (se_v (i := 7) rfl (.inl rfl)) (pe_bltn (v := .ty "ValueError") rfl tp.b_ValueError Boot.«ValueError» rfl))))))) (ss_cons hC (st_ret hC se_bl)
    ss_nil) ss_nil)
    (ss_cons hC (st_ife hC (st_cmp hC (op_neD hu64) cmp_ne (se_call hC (Fn 5 (by decide)) hr gd rfl tp.g__law_which (sa_cons hC (se_v (i := 7) rfl (.inl rfl)) (sa_nil hC))) (se_lc hC rfl nd (own := [(("k" : Str), 10)]) (si_rng1 hC rfl tp.b_range se_int) (blkOk_by (N := ["script", "pen", "menu", "kind", "a", "b", "dues", "e", "fields", "many", "k"]) (sc := defScope (row 26)) (by decide +kernel)) (by decide) (fun _ _ _ _ _ => (sg_nm nd rfl (.inl rfl) (.inr rfl))) (fun _ _ _ _ _ => sp_nil) (fun _ _ _ _ _ => (se_cmp hC (op_eqD hu64) cmp_eq (se_v (i := 10) rfl (.inl rfl)) (se_v (i := 3) rfl (.inr (.inl rfl))) (nomark _)))) (nomark _)) (ss_cons hC (st_ret hC se_bl)
    ss_nil) ss_nil)
    ss_nil)))))))
    (ss_cons hC (st_ret hC se_bl)
    ss_nil)))))
/-- the defs stand -/
structure Dfs (K : PySem.W.Frag) : Prop where
  d__law_pen : ∃ fd, FunD K "_law_pen" "_law_pen" (defArgs (row 20)) (defBody (row 20)) (defScope (row 20)) [] [] ((tab K).fa 0) fd
  d__law_draw : ∃ fd, FunD K "_law_draw" "_law_draw" (defArgs (row 21)) (defBody (row 21)) (defScope (row 21)) [] [] ((tab K).fa 1) fd
  d__law_pick : ∃ fd, FunD K "_law_pick" "_law_pick" (defArgs (row 22)) (defBody (row 22)) (defScope (row 22)) [] [] ((tab K).fa 2) fd
  d__law_one : ∃ fd, FunD K "_law_one" "_law_one" (defArgs (row 23)) (defBody (row 23)) (defScope (row 23)) [] [] ((tab K).fa 3) fd
  d__law_single : ∃ fd, FunD K "_law_single" "_law_single" (defArgs (row 24)) (defBody (row 24)) (defScope (row 24)) [] [] ((tab K).fa 4) fd
  d__law_which : ∃ fd, FunD K "_law_which" "_law_which" (defArgs (row 25)) (defBody (row 25)) (defScope (row 25)) [] [] ((tab K).fa 5) fd
  d_law : ∃ fd, FunD K "law" "law" (defArgs (row 26)) (defBody (row 26)) (defScope (row 26)) [] [] ((tab K).fa 6) fd
theorem base_cx : ∀ n, Base (cx rpW n)
  | 0 => ⟨rfl, rfl, rfl, rfl, rfl⟩
  | _ + 1 => ⟨rfl, rfl, rfl, rfl, rfl⟩
theorem all0__law_pen {P : Program} {w : World} {K : PySem.W.Frag} {mg : Str → Option Value} {base : Heap} (df : Dfs K) : FnH P w K mg base (tab K) (cx rpW 0) 2 0 := by
  obtain ⟨fd, D⟩ := df.d__law_pen
  exact FnH.zero D (ps := ["script"]) (D.bindsN fun _ _ _ _ _ _ us hl => match us, hl with | [_], _ => rfl) fun _ _ _ h => h
theorem all1__law_pen {P : Program} {w : World} {K : PySem.W.Frag} {mg : Str → Option Value} {base : Heap} (tp : Top P w K mg base) (df : Dfs K) {n : Nat} (ih : ∀ k, k < 7 → FnH P w K mg base (tab K) (cx rpW n) (n + 2) k) : FnH P w K mg base (tab K) (cx rpW (n + 1)) (n + 2 + 1) 0 := by
  obtain ⟨fd, D⟩ := df.d__law_pen
  exact FnH.step (cx_mono rpW n) D sc__law_pen (D.bindsN fun _ _ _ _ _ _ us hl => match us, hl with | [_], _ => rfl) (fun xs st Q h => ⟨h.1, h.2⟩) (fun cd A up s H E hr gd => t__law_pen (cx_mono rpW n) (base_cx n) tp (Nat.le_add_left 2 n) ih cd A up s H E hr gd)
theorem all0__law_draw {P : Program} {w : World} {K : PySem.W.Frag} {mg : Str → Option Value} {base : Heap} (df : Dfs K) : FnH P w K mg base (tab K) (cx rpW 0) 2 1 := by
  obtain ⟨fd, D⟩ := df.d__law_draw
  exact FnH.zero D (ps := ["pen", "many"]) (D.bindsN fun _ _ _ _ _ _ us hl => match us, hl with | [_, _], _ => rfl) fun _ _ _ h => h
theorem all1__law_draw {P : Program} {w : World} {K : PySem.W.Frag} {mg : Str → Option Value} {base : Heap} (tp : Top P w K mg base) (df : Dfs K) {n : Nat} (ih : ∀ k, k < 7 → FnH P w K mg base (tab K) (cx rpW n) (n + 2) k) : FnH P w K mg base (tab K) (cx rpW (n + 1)) (n + 2 + 1) 1 := by
  obtain ⟨fd, D⟩ := df.d__law_draw
  exact FnH.step (cx_mono rpW n) D sc__law_draw (D.bindsN fun _ _ _ _ _ _ us hl => match us, hl with | [_, _], _ => rfl) (fun xs st Q h => ⟨h.1, h.2⟩) (fun cd A up s H E hr gd => t__law_draw (cx_mono rpW n) (base_cx n) tp (Nat.le_add_left 2 n) ih cd A up s H E hr gd)
theorem all0__law_pick {P : Program} {w : World} {K : PySem.W.Frag} {mg : Str → Option Value} {base : Heap} (df : Dfs K) : FnH P w K mg base (tab K) (cx rpW 0) 2 2 := by
  obtain ⟨fd, D⟩ := df.d__law_pick
  exact FnH.zero D (ps := ["pen", "some"]) (D.bindsN fun _ _ _ _ _ _ us hl => match us, hl with | [_, _], _ => rfl) fun _ _ _ h => h
theorem all1__law_pick {P : Program} {w : World} {K : PySem.W.Frag} {mg : Str → Option Value} {base : Heap} (tp : Top P w K mg base) (df : Dfs K) {n : Nat} (ih : ∀ k, k < 7 → FnH P w K mg base (tab K) (cx rpW n) (n + 2) k) : FnH P w K mg base (tab K) (cx rpW (n + 1)) (n + 2 + 1) 2 := by
  obtain ⟨fd, D⟩ := df.d__law_pick
  exact FnH.step (cx_mono rpW n) D sc__law_pick (D.bindsN fun _ _ _ _ _ _ us hl => match us, hl with | [_, _], _ => rfl) (fun xs st Q h => ⟨h.1, h.2⟩) (fun cd A up s H E hr gd => t__law_pick (cx_mono rpW n) (base_cx n) tp (Nat.le_add_left 2 n) ih cd A up s H E hr gd)
theorem all0__law_one {P : Program} {w : World} {K : PySem.W.Frag} {mg : Str → Option Value} {base : Heap} (df : Dfs K) : FnH P w K mg base (tab K) (cx rpW 0) 2 3 := by
  obtain ⟨fd, D⟩ := df.d__law_one
  exact FnH.zero D (ps := ["kind", "a", "b"]) (D.bindsN fun _ _ _ _ _ _ us hl => match us, hl with | [_, _, _], _ => rfl) fun _ _ _ h => h
theorem all1__law_one {P : Program} {w : World} {K : PySem.W.Frag} {mg : Str → Option Value} {base : Heap} (tp : Top P w K mg base) (df : Dfs K) {n : Nat} (ih : ∀ k, k < 7 → FnH P w K mg base (tab K) (cx rpW n) (n + 2) k) : FnH P w K mg base (tab K) (cx rpW (n + 1)) (n + 2 + 1) 3 := by
  obtain ⟨fd, D⟩ := df.d__law_one
  exact FnH.step (cx_mono rpW n) D sc__law_one (D.bindsN fun _ _ _ _ _ _ us hl => match us, hl with | [_, _, _], _ => rfl) (fun xs st Q h => ⟨h.1, h.2⟩) (fun cd A up s H E hr gd => t__law_one (cx_mono rpW n) (base_cx n) tp (Nat.le_add_left 2 n) ih cd A up s H E hr gd)
theorem all0__law_single {P : Program} {w : World} {K : PySem.W.Frag} {mg : Str → Option Value} {base : Heap} (df : Dfs K) : FnH P w K mg base (tab K) (cx rpW 0) 2 4 := by
  obtain ⟨fd, D⟩ := df.d__law_single
  exact FnH.zero D (ps := ["kind", "a"]) (D.bindsN fun _ _ _ _ _ _ us hl => match us, hl with | [_, _], _ => rfl) fun _ _ _ h => h
theorem all1__law_single {P : Program} {w : World} {K : PySem.W.Frag} {mg : Str → Option Value} {base : Heap} (tp : Top P w K mg base) (df : Dfs K) {n : Nat} (ih : ∀ k, k < 7 → FnH P w K mg base (tab K) (cx rpW n) (n + 2) k) : FnH P w K mg base (tab K) (cx rpW (n + 1)) (n + 2 + 1) 4 := by
  obtain ⟨fd, D⟩ := df.d__law_single
  exact FnH.step (cx_mono rpW n) D sc__law_single (D.bindsN fun _ _ _ _ _ _ us hl => match us, hl with | [_, _], _ => rfl) (fun xs st Q h => ⟨h.1, h.2⟩) (fun cd A up s H E hr gd => t__law_single (cx_mono rpW n) (base_cx n) tp (Nat.le_add_left 2 n) ih cd A up s H E hr gd)
theorem all0__law_which {P : Program} {w : World} {K : PySem.W.Frag} {mg : Str → Option Value} {base : Heap} (df : Dfs K) : FnH P w K mg base (tab K) (cx rpW 0) 2 5 := by
  obtain ⟨fd, D⟩ := df.d__law_which
  exact FnH.zero D (ps := ["e"]) (D.bindsN fun _ _ _ _ _ _ us hl => match us, hl with | [_], _ => rfl) fun _ _ _ h => h
theorem all1__law_which {P : Program} {w : World} {K : PySem.W.Frag} {mg : Str → Option Value} {base : Heap} (tp : Top P w K mg base) (df : Dfs K) {n : Nat} (ih : ∀ k, k < 7 → FnH P w K mg base (tab K) (cx rpW n) (n + 2) k) : FnH P w K mg base (tab K) (cx rpW (n + 1)) (n + 2 + 1) 5 := by
  obtain ⟨fd, D⟩ := df.d__law_which
  exact FnH.step (cx_mono rpW n) D sc__law_which (D.bindsN fun _ _ _ _ _ _ us hl => match us, hl with | [_], _ => rfl) (fun xs st Q h => ⟨h.1, h.2⟩) (fun cd A up s H E hr gd => t__law_which (cx_mono rpW n) (base_cx n) tp (Nat.le_add_left 2 n) ih cd A up s H E hr gd)
theorem all0_law {P : Program} {w : World} {K : PySem.W.Frag} {mg : Str → Option Value} {base : Heap} (df : Dfs K) : FnH P w K mg base (tab K) (cx rpW 0) 2 6 := by
  obtain ⟨fd, D⟩ := df.d_law
  exact FnH.zero D (ps := ["script"]) (D.bindsN fun _ _ _ _ _ _ us hl => match us, hl with | [_], _ => rfl) fun _ _ _ h => h
theorem all1_law {P : Program} {w : World} {K : PySem.W.Frag} {mg : Str → Option Value} {base : Heap} (tp : Top P w K mg base) (df : Dfs K) {n : Nat} (ih : ∀ k, k < 7 → FnH P w K mg base (tab K) (cx rpW n) (n + 2) k) : FnH P w K mg base (tab K) (cx rpW (n + 1)) (n + 2 + 1) 6 := by
  obtain ⟨fd, D⟩ := df.d_law
  exact FnH.step (cx_mono rpW n) D sc_law (D.bindsN fun _ _ _ _ _ _ us hl => match us, hl with | [_], _ => rfl) (fun xs st Q h => ⟨h.1, h.2⟩) (fun cd A up s H E hr gd => t_law (cx_mono rpW n) (base_cx n) tp (Nat.le_add_left 2 n) ih cd A up s H E hr gd)
theorem all {P : Program} {w : World} {K : PySem.W.Frag} {mg : Str → Option Value} {base : Heap} (tp : Top P w K mg base) (df : Dfs K) : ∀ n k, k < 7 → FnH P w K mg base (tab K) (cx rpW n) (n + 2) k
  | 0, 0, _ => all0__law_pen df
  | 0, 1, _ => all0__law_draw df
  | 0, 2, _ => all0__law_pick df
  | 0, 3, _ => all0__law_one df
  | 0, 4, _ => all0__law_single df
  | 0, 5, _ => all0__law_which df
  | 0, 6, _ => all0_law df
  | n + 1, 0, _ => all1__law_pen tp df fun k hk => all tp df n k hk
  | n + 1, 1, _ => all1__law_draw tp df fun k hk => all tp df n k hk
  | n + 1, 2, _ => all1__law_pick tp df fun k hk => all tp df n k hk
  | n + 1, 3, _ => all1__law_one tp df fun k hk => all tp df n k hk
  | n + 1, 4, _ => all1__law_single tp df fun k hk => all tp df n k hk
  | n + 1, 5, _ => all1__law_which tp df fun k hk => all tp df n k hk
  | n + 1, 6, _ => all1_law tp df fun k hk => all tp df n k hk
  | 0, k + 7, h => absurd h (by omega)
  | _ + 1, k + 7, h => absurd h (by omega)
theorem law_fn {P : Program} {w : World} {K : PySem.W.Frag} {mg : Str → Option Value} {base : Heap} {fd : FuncData} (tp : Top P w K mg base) (df : Dfs K) (n : Nat) (D : FunD K "law" "law" (defArgs (row 26)) (defBody (row 26)) (defScope (row 26)) [] [] ((tab K).fa 6) fd) :
    FnG P w K mg base CX0 (n + 2 + 1) ((tab K).fa 6) fd ["script"] (spD K (tab K) (cx rpW (n + 1)) 6) :=
  FnG.stepD (cx_mono rpW n) D sc_law (fun xs st Q h => ⟨h.1, h.2⟩) fun cd A up s H E hr gd => t_law (cx_mono rpW n) (base_cx n) tp (Nat.le_add_left 2 n) (all tp df n) cd A up s H E hr gd
theorem sx_BadText : FnScope ["self", "line", "column"] ["self", "line", "column"] (defScope (inClass (row 2) 0)) := ⟨rfl, rfl, rfl, by decide +kernel, rfl, by decide +kernel, by decide +kernel⟩
theorem m_BadText {P : Program} {w : World} {K : PySem.W.Frag} {mg : Str → Option Value} {base : Heap} (c : SaysX fxL fnL K) : XMk P w K mg base ((tab K).ca 1) [s_line, s_column] ∧ XfC K ((tab K).ca 1) ∧ ∀ f ∈ ([s_line, s_column] : List Sx), PySem.W.findIn K (.ref ((tab K).ca 1)) (tx f) = some none := by
  obtain ⟨h1, h⟩ := band (c.fact 58 (q := fun K => fOx K ((tab K).ca 1) && (xfB K ((tab K).ca 1) && (fNo K ((tab K).ca 1) [s_line, s_column] && fInit K ((tab K).ca 1) (He.ma K (He.ga K "BadText") "__init__")))) rfl)
  obtain ⟨h2, h⟩ := band h
  obtain ⟨h3, h4⟩ := band h
  have no := fNo_ok h3
  obtain ⟨fd, D⟩ := c.dfn 7 (d := d_init_BadText) rfl
  exact ⟨⟨fOx_ok h1, _, fd, ["self", "line", "column"], (fInit_ok h4).1, (fInit_ok h4).2, exc_init2 D es_line es_column sx_BadText rfl (fOx_ok h1) (no _ (by decide)) (no _ (by decide)) rfl rfl rfl (by decide) (by decide) (by decide) (by decide) (by decide) (by decide), D.bindsN fun _ _ _ _ _ _ us hl => match us, hl with | [_, _, _], _ => rfl⟩, xfB_ok h2, no⟩
theorem sx_BadNumber : FnScope ["self", "what", "number"] ["self", "what", "number"] (defScope (inClass (row 3) 0)) := ⟨rfl, rfl, rfl, by decide +kernel, rfl, by decide +kernel, by decide +kernel⟩
theorem m_BadNumber {P : Program} {w : World} {K : PySem.W.Frag} {mg : Str → Option Value} {base : Heap} (c : SaysX fxL fnL K) : XMk P w K mg base ((tab K).ca 2) [s_what, s_number] ∧ XfC K ((tab K).ca 2) ∧ ∀ f ∈ ([s_what, s_number] : List Sx), PySem.W.findIn K (.ref ((tab K).ca 2)) (tx f) = some none := by
  obtain ⟨h1, h⟩ := band (c.fact 59 (q := fun K => fOx K ((tab K).ca 2) && (xfB K ((tab K).ca 2) && (fNo K ((tab K).ca 2) [s_what, s_number] && fInit K ((tab K).ca 2) (He.ma K (He.ga K "BadNumber") "__init__")))) rfl)
  obtain ⟨h2, h⟩ := band h
  obtain ⟨h3, h4⟩ := band h
  have no := fNo_ok h3
  obtain ⟨fd, D⟩ := c.dfn 8 (d := d_init_BadNumber) rfl
  exact ⟨⟨fOx_ok h1, _, fd, ["self", "what", "number"], (fInit_ok h4).1, (fInit_ok h4).2, exc_init2 D es_what es_number sx_BadNumber rfl (fOx_ok h1) (no _ (by decide)) (no _ (by decide)) rfl rfl rfl (by decide) (by decide) (by decide) (by decide) (by decide) (by decide), D.bindsN fun _ _ _ _ _ _ us hl => match us, hl with | [_, _, _], _ => rfl⟩, xfB_ok h2, no⟩
theorem sx_BadName : FnScope ["self", "name"] ["self", "name"] (defScope (inClass (row 4) 0)) := ⟨rfl, rfl, rfl, by decide +kernel, rfl, by decide +kernel, by decide +kernel⟩
theorem m_BadName {P : Program} {w : World} {K : PySem.W.Frag} {mg : Str → Option Value} {base : Heap} (c : SaysX fxL fnL K) : XMk P w K mg base ((tab K).ca 3) [s_name] ∧ XfC K ((tab K).ca 3) ∧ ∀ f ∈ ([s_name] : List Sx), PySem.W.findIn K (.ref ((tab K).ca 3)) (tx f) = some none := by
  obtain ⟨h1, h⟩ := band (c.fact 60 (q := fun K => fOx K ((tab K).ca 3) && (xfB K ((tab K).ca 3) && (fNo K ((tab K).ca 3) [s_name] && fInit K ((tab K).ca 3) (He.ma K (He.ga K "BadName") "__init__")))) rfl)
  obtain ⟨h2, h⟩ := band h
  obtain ⟨h3, h4⟩ := band h
  have no := fNo_ok h3
  obtain ⟨fd, D⟩ := c.dfn 9 (d := d_init_BadName) rfl
  exact ⟨⟨fOx_ok h1, _, fd, ["self", "name"], (fInit_ok h4).1, (fInit_ok h4).2, exc_init1 D es_name sx_BadName rfl (fOx_ok h1) (no _ (by decide)) rfl rfl (by decide) (by decide) (by decide) (by decide), D.bindsN fun _ _ _ _ _ _ us hl => match us, hl with | [_, _], _ => rfl⟩, xfB_ok h2, no⟩
theorem sx_NoName : FnScope ["self", "name"] ["self", "name"] (defScope (inClass (row 5) 0)) := ⟨rfl, rfl, rfl, by decide +kernel, rfl, by decide +kernel, by decide +kernel⟩
theorem m_NoName {P : Program} {w : World} {K : PySem.W.Frag} {mg : Str → Option Value} {base : Heap} (c : SaysX fxL fnL K) : XMk P w K mg base ((tab K).ca 4) [s_name] ∧ XfC K ((tab K).ca 4) ∧ ∀ f ∈ ([s_name] : List Sx), PySem.W.findIn K (.ref ((tab K).ca 4)) (tx f) = some none := by
  obtain ⟨h1, h⟩ := band (c.fact 61 (q := fun K => fOx K ((tab K).ca 4) && (xfB K ((tab K).ca 4) && (fNo K ((tab K).ca 4) [s_name] && fInit K ((tab K).ca 4) (He.ma K (He.ga K "NoName") "__init__")))) rfl)
  obtain ⟨h2, h⟩ := band h
  obtain ⟨h3, h4⟩ := band h
  have no := fNo_ok h3
  obtain ⟨fd, D⟩ := c.dfn 10 (d := d_init_NoName) rfl
  exact ⟨⟨fOx_ok h1, _, fd, ["self", "name"], (fInit_ok h4).1, (fInit_ok h4).2, exc_init1 D es_name sx_NoName rfl (fOx_ok h1) (no _ (by decide)) rfl rfl (by decide) (by decide) (by decide) (by decide), D.bindsN fun _ _ _ _ _ _ us hl => match us, hl with | [_, _], _ => rfl⟩, xfB_ok h2, no⟩
theorem sx_TakenName : FnScope ["self", "name"] ["self", "name"] (defScope (inClass (row 6) 0)) := ⟨rfl, rfl, rfl, by decide +kernel, rfl, by decide +kernel, by decide +kernel⟩
theorem m_TakenName {P : Program} {w : World} {K : PySem.W.Frag} {mg : Str → Option Value} {base : Heap} (c : SaysX fxL fnL K) : XMk P w K mg base ((tab K).ca 5) [s_name] ∧ XfC K ((tab K).ca 5) ∧ ∀ f ∈ ([s_name] : List Sx), PySem.W.findIn K (.ref ((tab K).ca 5)) (tx f) = some none := by
  obtain ⟨h1, h⟩ := band (c.fact 62 (q := fun K => fOx K ((tab K).ca 5) && (xfB K ((tab K).ca 5) && (fNo K ((tab K).ca 5) [s_name] && fInit K ((tab K).ca 5) (He.ma K (He.ga K "TakenName") "__init__")))) rfl)
  obtain ⟨h2, h⟩ := band h
  obtain ⟨h3, h4⟩ := band h
  have no := fNo_ok h3
  obtain ⟨fd, D⟩ := c.dfn 11 (d := d_init_TakenName) rfl
  exact ⟨⟨fOx_ok h1, _, fd, ["self", "name"], (fInit_ok h4).1, (fInit_ok h4).2, exc_init1 D es_name sx_TakenName rfl (fOx_ok h1) (no _ (by decide)) rfl rfl (by decide) (by decide) (by decide) (by decide), D.bindsN fun _ _ _ _ _ _ us hl => match us, hl with | [_, _], _ => rfl⟩, xfB_ok h2, no⟩
theorem sx_BadWord : FnScope ["self", "word"] ["self", "word"] (defScope (inClass (row 7) 0)) := ⟨rfl, rfl, rfl, by decide +kernel, rfl, by decide +kernel, by decide +kernel⟩
theorem m_BadWord {P : Program} {w : World} {K : PySem.W.Frag} {mg : Str → Option Value} {base : Heap} (c : SaysX fxL fnL K) : XMk P w K mg base ((tab K).ca 6) [s_word] ∧ XfC K ((tab K).ca 6) ∧ ∀ f ∈ ([s_word] : List Sx), PySem.W.findIn K (.ref ((tab K).ca 6)) (tx f) = some none := by
  obtain ⟨h1, h⟩ := band (c.fact 63 (q := fun K => fOx K ((tab K).ca 6) && (xfB K ((tab K).ca 6) && (fNo K ((tab K).ca 6) [s_word] && fInit K ((tab K).ca 6) (He.ma K (He.ga K "BadWord") "__init__")))) rfl)
  obtain ⟨h2, h⟩ := band h
  obtain ⟨h3, h4⟩ := band h
  have no := fNo_ok h3
  obtain ⟨fd, D⟩ := c.dfn 12 (d := d_init_BadWord) rfl
  exact ⟨⟨fOx_ok h1, _, fd, ["self", "word"], (fInit_ok h4).1, (fInit_ok h4).2, exc_init1 D es_word sx_BadWord rfl (fOx_ok h1) (no _ (by decide)) rfl rfl (by decide) (by decide) (by decide) (by decide), D.bindsN fun _ _ _ _ _ _ us hl => match us, hl with | [_, _], _ => rfl⟩, xfB_ok h2, no⟩
theorem sx_BadGame : FnScope ["self", "game"] ["self", "game"] (defScope (inClass (row 8) 0)) := ⟨rfl, rfl, rfl, by decide +kernel, rfl, by decide +kernel, by decide +kernel⟩
theorem m_BadGame {P : Program} {w : World} {K : PySem.W.Frag} {mg : Str → Option Value} {base : Heap} (c : SaysX fxL fnL K) : XMk P w K mg base ((tab K).ca 7) [s_game] ∧ XfC K ((tab K).ca 7) ∧ ∀ f ∈ ([s_game] : List Sx), PySem.W.findIn K (.ref ((tab K).ca 7)) (tx f) = some none := by
  obtain ⟨h1, h⟩ := band (c.fact 64 (q := fun K => fOx K ((tab K).ca 7) && (xfB K ((tab K).ca 7) && (fNo K ((tab K).ca 7) [s_game] && fInit K ((tab K).ca 7) (He.ma K (He.ga K "BadGame") "__init__")))) rfl)
  obtain ⟨h2, h⟩ := band h
  obtain ⟨h3, h4⟩ := band h
  have no := fNo_ok h3
  obtain ⟨fd, D⟩ := c.dfn 13 (d := d_init_BadGame) rfl
  exact ⟨⟨fOx_ok h1, _, fd, ["self", "game"], (fInit_ok h4).1, (fInit_ok h4).2, exc_init1 D es_game sx_BadGame rfl (fOx_ok h1) (no _ (by decide)) rfl rfl (by decide) (by decide) (by decide) (by decide), D.bindsN fun _ _ _ _ _ _ us hl => match us, hl with | [_, _], _ => rfl⟩, xfB_ok h2, no⟩
theorem sx_BadGoal : FnScope ["self", "goal"] ["self", "goal"] (defScope (inClass (row 9) 0)) := ⟨rfl, rfl, rfl, by decide +kernel, rfl, by decide +kernel, by decide +kernel⟩
theorem m_BadGoal {P : Program} {w : World} {K : PySem.W.Frag} {mg : Str → Option Value} {base : Heap} (c : SaysX fxL fnL K) : XMk P w K mg base ((tab K).ca 8) [s_goal] ∧ XfC K ((tab K).ca 8) ∧ ∀ f ∈ ([s_goal] : List Sx), PySem.W.findIn K (.ref ((tab K).ca 8)) (tx f) = some none := by
  obtain ⟨h1, h⟩ := band (c.fact 65 (q := fun K => fOx K ((tab K).ca 8) && (xfB K ((tab K).ca 8) && (fNo K ((tab K).ca 8) [s_goal] && fInit K ((tab K).ca 8) (He.ma K (He.ga K "BadGoal") "__init__")))) rfl)
  obtain ⟨h2, h⟩ := band h
  obtain ⟨h3, h4⟩ := band h
  have no := fNo_ok h3
  obtain ⟨fd, D⟩ := c.dfn 14 (d := d_init_BadGoal) rfl
  exact ⟨⟨fOx_ok h1, _, fd, ["self", "goal"], (fInit_ok h4).1, (fInit_ok h4).2, exc_init1 D es_goal sx_BadGoal rfl (fOx_ok h1) (no _ (by decide)) rfl rfl (by decide) (by decide) (by decide) (by decide), D.bindsN fun _ _ _ _ _ _ us hl => match us, hl with | [_, _], _ => rfl⟩, xfB_ok h2, no⟩
theorem sx_BadPlan : FnScope ["self", "plan"] ["self", "plan"] (defScope (inClass (row 10) 0)) := ⟨rfl, rfl, rfl, by decide +kernel, rfl, by decide +kernel, by decide +kernel⟩
theorem m_BadPlan {P : Program} {w : World} {K : PySem.W.Frag} {mg : Str → Option Value} {base : Heap} (c : SaysX fxL fnL K) : XMk P w K mg base ((tab K).ca 9) [s_plan] ∧ XfC K ((tab K).ca 9) ∧ ∀ f ∈ ([s_plan] : List Sx), PySem.W.findIn K (.ref ((tab K).ca 9)) (tx f) = some none := by
  obtain ⟨h1, h⟩ := band (c.fact 66 (q := fun K => fOx K ((tab K).ca 9) && (xfB K ((tab K).ca 9) && (fNo K ((tab K).ca 9) [s_plan] && fInit K ((tab K).ca 9) (He.ma K (He.ga K "BadPlan") "__init__")))) rfl)
  obtain ⟨h2, h⟩ := band h
  obtain ⟨h3, h4⟩ := band h
  have no := fNo_ok h3
  obtain ⟨fd, D⟩ := c.dfn 15 (d := d_init_BadPlan) rfl
  exact ⟨⟨fOx_ok h1, _, fd, ["self", "plan"], (fInit_ok h4).1, (fInit_ok h4).2, exc_init1 D es_plan sx_BadPlan rfl (fOx_ok h1) (no _ (by decide)) rfl rfl (by decide) (by decide) (by decide) (by decide), D.bindsN fun _ _ _ _ _ _ us hl => match us, hl with | [_, _], _ => rfl⟩, xfB_ok h2, no⟩
theorem sx_BadPlay : FnScope ["self", "play"] ["self", "play"] (defScope (inClass (row 11) 0)) := ⟨rfl, rfl, rfl, by decide +kernel, rfl, by decide +kernel, by decide +kernel⟩
theorem m_BadPlay {P : Program} {w : World} {K : PySem.W.Frag} {mg : Str → Option Value} {base : Heap} (c : SaysX fxL fnL K) : XMk P w K mg base ((tab K).ca 10) [s_play] ∧ XfC K ((tab K).ca 10) ∧ ∀ f ∈ ([s_play] : List Sx), PySem.W.findIn K (.ref ((tab K).ca 10)) (tx f) = some none := by
  obtain ⟨h1, h⟩ := band (c.fact 67 (q := fun K => fOx K ((tab K).ca 10) && (xfB K ((tab K).ca 10) && (fNo K ((tab K).ca 10) [s_play] && fInit K ((tab K).ca 10) (He.ma K (He.ga K "BadPlay") "__init__")))) rfl)
  obtain ⟨h2, h⟩ := band h
  obtain ⟨h3, h4⟩ := band h
  have no := fNo_ok h3
  obtain ⟨fd, D⟩ := c.dfn 16 (d := d_init_BadPlay) rfl
  exact ⟨⟨fOx_ok h1, _, fd, ["self", "play"], (fInit_ok h4).1, (fInit_ok h4).2, exc_init1 D es_play sx_BadPlay rfl (fOx_ok h1) (no _ (by decide)) rfl rfl (by decide) (by decide) (by decide) (by decide), D.bindsN fun _ _ _ _ _ _ us hl => match us, hl with | [_, _], _ => rfl⟩, xfB_ok h2, no⟩
theorem sx_BadJob : FnScope ["self", "job"] ["self", "job"] (defScope (inClass (row 12) 0)) := ⟨rfl, rfl, rfl, by decide +kernel, rfl, by decide +kernel, by decide +kernel⟩
theorem m_BadJob {P : Program} {w : World} {K : PySem.W.Frag} {mg : Str → Option Value} {base : Heap} (c : SaysX fxL fnL K) : XMk P w K mg base ((tab K).ca 11) [s_job] ∧ XfC K ((tab K).ca 11) ∧ ∀ f ∈ ([s_job] : List Sx), PySem.W.findIn K (.ref ((tab K).ca 11)) (tx f) = some none := by
  obtain ⟨h1, h⟩ := band (c.fact 68 (q := fun K => fOx K ((tab K).ca 11) && (xfB K ((tab K).ca 11) && (fNo K ((tab K).ca 11) [s_job] && fInit K ((tab K).ca 11) (He.ma K (He.ga K "BadJob") "__init__")))) rfl)
  obtain ⟨h2, h⟩ := band h
  obtain ⟨h3, h4⟩ := band h
  have no := fNo_ok h3
  obtain ⟨fd, D⟩ := c.dfn 17 (d := d_init_BadJob) rfl
  exact ⟨⟨fOx_ok h1, _, fd, ["self", "job"], (fInit_ok h4).1, (fInit_ok h4).2, exc_init1 D es_job sx_BadJob rfl (fOx_ok h1) (no _ (by decide)) rfl rfl (by decide) (by decide) (by decide) (by decide), D.bindsN fun _ _ _ _ _ _ us hl => match us, hl with | [_, _], _ => rfl⟩, xfB_ok h2, no⟩
theorem sx_BadAnswers : FnScope ["self", "answers"] ["self", "answers"] (defScope (inClass (row 13) 0)) := ⟨rfl, rfl, rfl, by decide +kernel, rfl, by decide +kernel, by decide +kernel⟩
theorem m_BadAnswers {P : Program} {w : World} {K : PySem.W.Frag} {mg : Str → Option Value} {base : Heap} (c : SaysX fxL fnL K) : XMk P w K mg base ((tab K).ca 12) [s_answers] ∧ XfC K ((tab K).ca 12) ∧ ∀ f ∈ ([s_answers] : List Sx), PySem.W.findIn K (.ref ((tab K).ca 12)) (tx f) = some none := by
  obtain ⟨h1, h⟩ := band (c.fact 69 (q := fun K => fOx K ((tab K).ca 12) && (xfB K ((tab K).ca 12) && (fNo K ((tab K).ca 12) [s_answers] && fInit K ((tab K).ca 12) (He.ma K (He.ga K "BadAnswers") "__init__")))) rfl)
  obtain ⟨h2, h⟩ := band h
  obtain ⟨h3, h4⟩ := band h
  have no := fNo_ok h3
  obtain ⟨fd, D⟩ := c.dfn 18 (d := d_init_BadAnswers) rfl
  exact ⟨⟨fOx_ok h1, _, fd, ["self", "answers"], (fInit_ok h4).1, (fInit_ok h4).2, exc_init1 D es_answers sx_BadAnswers rfl (fOx_ok h1) (no _ (by decide)) rfl rfl (by decide) (by decide) (by decide) (by decide), D.bindsN fun _ _ _ _ _ _ us hl => match us, hl with | [_, _], _ => rfl⟩, xfB_ok h2, no⟩
theorem sx_BadPaper : FnScope ["self", "paper"] ["self", "paper"] (defScope (inClass (row 14) 0)) := ⟨rfl, rfl, rfl, by decide +kernel, rfl, by decide +kernel, by decide +kernel⟩
theorem m_BadPaper {P : Program} {w : World} {K : PySem.W.Frag} {mg : Str → Option Value} {base : Heap} (c : SaysX fxL fnL K) : XMk P w K mg base ((tab K).ca 13) [s_paper] ∧ XfC K ((tab K).ca 13) ∧ ∀ f ∈ ([s_paper] : List Sx), PySem.W.findIn K (.ref ((tab K).ca 13)) (tx f) = some none := by
  obtain ⟨h1, h⟩ := band (c.fact 70 (q := fun K => fOx K ((tab K).ca 13) && (xfB K ((tab K).ca 13) && (fNo K ((tab K).ca 13) [s_paper] && fInit K ((tab K).ca 13) (He.ma K (He.ga K "BadPaper") "__init__")))) rfl)
  obtain ⟨h2, h⟩ := band h
  obtain ⟨h3, h4⟩ := band h
  have no := fNo_ok h3
  obtain ⟨fd, D⟩ := c.dfn 19 (d := d_init_BadPaper) rfl
  exact ⟨⟨fOx_ok h1, _, fd, ["self", "paper"], (fInit_ok h4).1, (fInit_ok h4).2, exc_init1 D es_paper sx_BadPaper rfl (fOx_ok h1) (no _ (by decide)) rfl rfl (by decide) (by decide) (by decide) (by decide), D.bindsN fun _ _ _ _ _ _ us hl => match us, hl with | [_, _], _ => rfl⟩, xfB_ok h2, no⟩
theorem sx_BadLog : FnScope ["self", "line"] ["self", "line"] (defScope (inClass (row 15) 0)) := ⟨rfl, rfl, rfl, by decide +kernel, rfl, by decide +kernel, by decide +kernel⟩
theorem m_BadLog {P : Program} {w : World} {K : PySem.W.Frag} {mg : Str → Option Value} {base : Heap} (c : SaysX fxL fnL K) : XMk P w K mg base ((tab K).ca 14) [s_line] ∧ XfC K ((tab K).ca 14) ∧ ∀ f ∈ ([s_line] : List Sx), PySem.W.findIn K (.ref ((tab K).ca 14)) (tx f) = some none := by
  obtain ⟨h1, h⟩ := band (c.fact 71 (q := fun K => fOx K ((tab K).ca 14) && (xfB K ((tab K).ca 14) && (fNo K ((tab K).ca 14) [s_line] && fInit K ((tab K).ca 14) (He.ma K (He.ga K "BadLog") "__init__")))) rfl)
  obtain ⟨h2, h⟩ := band h
  obtain ⟨h3, h4⟩ := band h
  have no := fNo_ok h3
  obtain ⟨fd, D⟩ := c.dfn 20 (d := d_init_BadLog) rfl
  exact ⟨⟨fOx_ok h1, _, fd, ["self", "line"], (fInit_ok h4).1, (fInit_ok h4).2, exc_init1 D es_line sx_BadLog rfl (fOx_ok h1) (no _ (by decide)) rfl rfl (by decide) (by decide) (by decide) (by decide), D.bindsN fun _ _ _ _ _ _ us hl => match us, hl with | [_, _], _ => rfl⟩, xfB_ok h2, no⟩
theorem sx_NotKept : FnScope ["self", "promise", "witness"] ["self", "promise", "witness"] (defScope (inClass (row 16) 0)) := ⟨rfl, rfl, rfl, by decide +kernel, rfl, by decide +kernel, by decide +kernel⟩
theorem m_NotKept {P : Program} {w : World} {K : PySem.W.Frag} {mg : Str → Option Value} {base : Heap} (c : SaysX fxL fnL K) : XMk P w K mg base ((tab K).ca 15) [s_promise, s_witness] ∧ XfC K ((tab K).ca 15) ∧ ∀ f ∈ ([s_promise, s_witness] : List Sx), PySem.W.findIn K (.ref ((tab K).ca 15)) (tx f) = some none := by
  obtain ⟨h1, h⟩ := band (c.fact 72 (q := fun K => fOx K ((tab K).ca 15) && (xfB K ((tab K).ca 15) && (fNo K ((tab K).ca 15) [s_promise, s_witness] && fInit K ((tab K).ca 15) (He.ma K (He.ga K "NotKept") "__init__")))) rfl)
  obtain ⟨h2, h⟩ := band h
  obtain ⟨h3, h4⟩ := band h
  have no := fNo_ok h3
  obtain ⟨fd, D⟩ := c.dfn 21 (d := d_init_NotKept) rfl
  exact ⟨⟨fOx_ok h1, _, fd, ["self", "promise", "witness"], (fInit_ok h4).1, (fInit_ok h4).2, exc_init2 D es_promise es_witness sx_NotKept rfl (fOx_ok h1) (no _ (by decide)) (no _ (by decide)) rfl rfl rfl (by decide) (by decide) (by decide) (by decide) (by decide) (by decide), D.bindsN fun _ _ _ _ _ _ us hl => match us, hl with | [_, _, _], _ => rfl⟩, xfB_ok h2, no⟩
theorem top_of {P : Program} {w : World} {K : PySem.W.Frag} {h : Heap} {mg : Str → Option Value} {base : Heap} (X : K.In h) (G : h.Ns mainGlobals mg) (c : SaysX fxL fnL K) : Top P w K mg base where
  g__law_pen := fGlo_ok X G (c.fact 0 (q := fGlo "_law_pen") rfl)
  g__law_draw := fGlo_ok X G (c.fact 1 (q := fGlo "_law_draw") rfl)
  g__law_pick := fGlo_ok X G (c.fact 2 (q := fGlo "_law_pick") rfl)
  g__law_one := fGlo_ok X G (c.fact 3 (q := fGlo "_law_one") rfl)
  g__law_single := fGlo_ok X G (c.fact 4 (q := fGlo "_law_single") rfl)
  g__law_which := fGlo_ok X G (c.fact 5 (q := fGlo "_law_which") rfl)
  g_law := fGlo_ok X G (c.fact 6 (q := fGlo "law") rfl)
  c_PlanError := fGlo_ok X G (c.fact 7 (q := fGlo "PlanError") rfl)
  c_BadText := fGlo_ok X G (c.fact 8 (q := fGlo "BadText") rfl)
  c_BadNumber := fGlo_ok X G (c.fact 9 (q := fGlo "BadNumber") rfl)
  c_BadName := fGlo_ok X G (c.fact 10 (q := fGlo "BadName") rfl)
  c_NoName := fGlo_ok X G (c.fact 11 (q := fGlo "NoName") rfl)
  c_TakenName := fGlo_ok X G (c.fact 12 (q := fGlo "TakenName") rfl)
  c_BadWord := fGlo_ok X G (c.fact 13 (q := fGlo "BadWord") rfl)
  c_BadGame := fGlo_ok X G (c.fact 14 (q := fGlo "BadGame") rfl)
  c_BadGoal := fGlo_ok X G (c.fact 15 (q := fGlo "BadGoal") rfl)
  c_BadPlan := fGlo_ok X G (c.fact 16 (q := fGlo "BadPlan") rfl)
  c_BadPlay := fGlo_ok X G (c.fact 17 (q := fGlo "BadPlay") rfl)
  c_BadJob := fGlo_ok X G (c.fact 18 (q := fGlo "BadJob") rfl)
  c_BadAnswers := fGlo_ok X G (c.fact 19 (q := fGlo "BadAnswers") rfl)
  c_BadPaper := fGlo_ok X G (c.fact 20 (q := fGlo "BadPaper") rfl)
  c_BadLog := fGlo_ok X G (c.fact 21 (q := fGlo "BadLog") rfl)
  c_NotKept := fGlo_ok X G (c.fact 22 (q := fGlo "NotKept") rfl)
  c_NothingToUndo := fGlo_ok X G (c.fact 23 (q := fGlo "NothingToUndo") rfl)
  c_NothingToRedo := fGlo_ok X G (c.fact 24 (q := fGlo "NothingToRedo") rfl)
  b_ValueError := fFree_ok X G (c.fact 25 (q := fFree "ValueError") rfl)
  b_int := fFree_ok X G (c.fact 26 (q := fFree "int") rfl)
  b_isinstance := fFree_ok X G (c.fact 27 (q := fFree "isinstance") rfl)
  b_len := fFree_ok X G (c.fact 28 (q := fFree "len") rfl)
  b_list := fFree_ok X G (c.fact 29 (q := fFree "list") rfl)
  b_range := fFree_ok X G (c.fact 30 (q := fFree "range") rfl)
  b_repr := fFree_ok X G (c.fact 31 (q := fFree "repr") rfl)
  i_PlanError := kindC (c.fact 32 (q := fKind tab (mk (fun _ => []) fun _ _ _ _ => False) 18 100 (fun K => .ref ((tab K).ca 0))) rfl)
  i_BadText := kindC (c.fact 33 (q := fKind tab (mk (fun _ => []) fun _ _ _ _ => False) 18 101 (fun K => .ref ((tab K).ca 1))) rfl)
  i_BadNumber := kindC (c.fact 34 (q := fKind tab (mk (fun _ => []) fun _ _ _ _ => False) 18 102 (fun K => .ref ((tab K).ca 2))) rfl)
  i_BadName := kindC (c.fact 35 (q := fKind tab (mk (fun _ => []) fun _ _ _ _ => False) 18 103 (fun K => .ref ((tab K).ca 3))) rfl)
  i_NoName := kindC (c.fact 36 (q := fKind tab (mk (fun _ => []) fun _ _ _ _ => False) 18 104 (fun K => .ref ((tab K).ca 4))) rfl)
  i_TakenName := kindC (c.fact 37 (q := fKind tab (mk (fun _ => []) fun _ _ _ _ => False) 18 105 (fun K => .ref ((tab K).ca 5))) rfl)
  i_BadWord := kindC (c.fact 38 (q := fKind tab (mk (fun _ => []) fun _ _ _ _ => False) 18 106 (fun K => .ref ((tab K).ca 6))) rfl)
  i_BadGame := kindC (c.fact 39 (q := fKind tab (mk (fun _ => []) fun _ _ _ _ => False) 18 107 (fun K => .ref ((tab K).ca 7))) rfl)
  i_BadGoal := kindC (c.fact 40 (q := fKind tab (mk (fun _ => []) fun _ _ _ _ => False) 18 108 (fun K => .ref ((tab K).ca 8))) rfl)
  i_BadPlan := kindC (c.fact 41 (q := fKind tab (mk (fun _ => []) fun _ _ _ _ => False) 18 109 (fun K => .ref ((tab K).ca 9))) rfl)
  i_BadPlay := kindC (c.fact 42 (q := fKind tab (mk (fun _ => []) fun _ _ _ _ => False) 18 110 (fun K => .ref ((tab K).ca 10))) rfl)
  i_BadJob := kindC (c.fact 43 (q := fKind tab (mk (fun _ => []) fun _ _ _ _ => False) 18 111 (fun K => .ref ((tab K).ca 11))) rfl)
  i_BadAnswers := kindC (c.fact 44 (q := fKind tab (mk (fun _ => []) fun _ _ _ _ => False) 18 112 (fun K => .ref ((tab K).ca 12))) rfl)
  i_BadPaper := kindC (c.fact 45 (q := fKind tab (mk (fun _ => []) fun _ _ _ _ => False) 18 113 (fun K => .ref ((tab K).ca 13))) rfl)
  i_BadLog := kindC (c.fact 46 (q := fKind tab (mk (fun _ => []) fun _ _ _ _ => False) 18 114 (fun K => .ref ((tab K).ca 14))) rfl)
  i_NotKept := kindC (c.fact 47 (q := fKind tab (mk (fun _ => []) fun _ _ _ _ => False) 18 115 (fun K => .ref ((tab K).ca 15))) rfl)
  i_NothingToUndo := kindC (c.fact 48 (q := fKind tab (mk (fun _ => []) fun _ _ _ _ => False) 18 116 (fun K => .ref ((tab K).ca 16))) rfl)
  i_NothingToRedo := kindC (c.fact 49 (q := fKind tab (mk (fun _ => []) fun _ _ _ _ => False) 18 117 (fun K => .ref ((tab K).ca 17))) rfl)
  i_ValueError := kindC (c.fact 50 (q := fKind tab (mk (fun _ => []) fun _ _ _ _ => False) 18 6 (fun _ => .type "ValueError")) rfl)
  isa := isaC (c.fact 51 (q := fun K => fGs K && (List.range 18).all fun c => (ancT c).isEmpty || fExcK K ((tab K).ca c)) rfl)
  x_PlanError := (c.fact 52 (q := fun K => PySem.W.excIn K ((tab K).ca 0) He.veBase "ValueError.__new__") rfl)
  q_PlanError := (c.fact 53 (q := fun K => PySem.W.keepIn K (.ref ((tab K).ca 0))) rfl)
  x_NothingToUndo := (c.fact 54 (q := fun K => PySem.W.excIn K ((tab K).ca 16) He.veBase "ValueError.__new__") rfl)
  q_NothingToUndo := (c.fact 55 (q := fun K => PySem.W.keepIn K (.ref ((tab K).ca 16))) rfl)
  x_NothingToRedo := (c.fact 56 (q := fun K => PySem.W.excIn K ((tab K).ca 17) He.veBase "ValueError.__new__") rfl)
  q_NothingToRedo := (c.fact 57 (q := fun K => PySem.W.keepIn K (.ref ((tab K).ca 17))) rfl)
  m_BadText := (m_BadText c).1
  f_BadText := (m_BadText (P := P) (w := w) (mg := mg) (base := base) c).2.1
  n_BadText := (m_BadText (P := P) (w := w) (mg := mg) (base := base) c).2.2
  m_BadNumber := (m_BadNumber c).1
  f_BadNumber := (m_BadNumber (P := P) (w := w) (mg := mg) (base := base) c).2.1
  n_BadNumber := (m_BadNumber (P := P) (w := w) (mg := mg) (base := base) c).2.2
  m_BadName := (m_BadName c).1
  f_BadName := (m_BadName (P := P) (w := w) (mg := mg) (base := base) c).2.1
  n_BadName := (m_BadName (P := P) (w := w) (mg := mg) (base := base) c).2.2
  m_NoName := (m_NoName c).1
  f_NoName := (m_NoName (P := P) (w := w) (mg := mg) (base := base) c).2.1
  n_NoName := (m_NoName (P := P) (w := w) (mg := mg) (base := base) c).2.2
  m_TakenName := (m_TakenName c).1
  f_TakenName := (m_TakenName (P := P) (w := w) (mg := mg) (base := base) c).2.1
  n_TakenName := (m_TakenName (P := P) (w := w) (mg := mg) (base := base) c).2.2
  m_BadWord := (m_BadWord c).1
  f_BadWord := (m_BadWord (P := P) (w := w) (mg := mg) (base := base) c).2.1
  n_BadWord := (m_BadWord (P := P) (w := w) (mg := mg) (base := base) c).2.2
  m_BadGame := (m_BadGame c).1
  f_BadGame := (m_BadGame (P := P) (w := w) (mg := mg) (base := base) c).2.1
  n_BadGame := (m_BadGame (P := P) (w := w) (mg := mg) (base := base) c).2.2
  m_BadGoal := (m_BadGoal c).1
  f_BadGoal := (m_BadGoal (P := P) (w := w) (mg := mg) (base := base) c).2.1
  n_BadGoal := (m_BadGoal (P := P) (w := w) (mg := mg) (base := base) c).2.2
  m_BadPlan := (m_BadPlan c).1
  f_BadPlan := (m_BadPlan (P := P) (w := w) (mg := mg) (base := base) c).2.1
  n_BadPlan := (m_BadPlan (P := P) (w := w) (mg := mg) (base := base) c).2.2
  m_BadPlay := (m_BadPlay c).1
  f_BadPlay := (m_BadPlay (P := P) (w := w) (mg := mg) (base := base) c).2.1
  n_BadPlay := (m_BadPlay (P := P) (w := w) (mg := mg) (base := base) c).2.2
  m_BadJob := (m_BadJob c).1
  f_BadJob := (m_BadJob (P := P) (w := w) (mg := mg) (base := base) c).2.1
  n_BadJob := (m_BadJob (P := P) (w := w) (mg := mg) (base := base) c).2.2
  m_BadAnswers := (m_BadAnswers c).1
  f_BadAnswers := (m_BadAnswers (P := P) (w := w) (mg := mg) (base := base) c).2.1
  n_BadAnswers := (m_BadAnswers (P := P) (w := w) (mg := mg) (base := base) c).2.2
  m_BadPaper := (m_BadPaper c).1
  f_BadPaper := (m_BadPaper (P := P) (w := w) (mg := mg) (base := base) c).2.1
  n_BadPaper := (m_BadPaper (P := P) (w := w) (mg := mg) (base := base) c).2.2
  m_BadLog := (m_BadLog c).1
  f_BadLog := (m_BadLog (P := P) (w := w) (mg := mg) (base := base) c).2.1
  n_BadLog := (m_BadLog (P := P) (w := w) (mg := mg) (base := base) c).2.2
  m_NotKept := (m_NotKept c).1
  f_NotKept := (m_NotKept (P := P) (w := w) (mg := mg) (base := base) c).2.1
  n_NotKept := (m_NotKept (P := P) (w := w) (mg := mg) (base := base) c).2.2
theorem dfs_of {K : PySem.W.Frag} (c : SaysX fxL fnL K) : Dfs K where
  d__law_pen := c.dfn 0 (d := d__law_pen) rfl
  d__law_draw := c.dfn 1 (d := d__law_draw) rfl
  d__law_pick := c.dfn 2 (d := d__law_pick) rfl
  d__law_one := c.dfn 3 (d := d__law_one) rfl
  d__law_single := c.dfn 4 (d := d__law_single) rfl
  d__law_which := c.dfn 5 (d := d__law_which) rfl
  d_law := c.dfn 6 (d := d_law) rfl
def loose0 : List PySem.Str := ["_law_pen", "_law_draw", "_law_pick", "_law_one", "_law_single", "_law_which", "PlanError", "BadText", "BadNumber", "BadName", "NoName", "TakenName", "BadWord", "BadGame", "BadGoal", "BadPlan", "BadPlay", "BadJob", "BadAnswers", "BadPaper", "BadLog", "NotKept", "NothingToUndo", "NothingToRedo"]
def loose : List PySem.Str := loose0
abbrev R : PySem.W.OpenRow := PySem.W.OpenLaw.row PySem.Challenge.rw_endlessplans_k00_errors
abbrev hk : PySem.W.Hook := hookX 5 fxL fnL
def ob (s : PySem.W.SharedT) : He.AlD := obsXG 5 fxL fnL (HandSHeadRun.getT s)
theorem ob_eq (s : PySem.W.SharedT) : ob s = hk.obs s.abs := obsXG_eq (HandSHeadRun.getT_eq s)
theorem run (w : World) : HandSHeadRun.RunEq R (PySem.W.view R.prog [26]) hk ob 9000 loose w := by
  intro os
  kernel_rfl
end Py.K00
end
section
set_option Elab.async false
set_option linter.all false
set_option maxRecDepth 100000
set_option maxHeartbeats 0
open PySem PySem.W PySem.Calls PyProof.Rows
theorem PySem.Challenge.cw_endlessplans_k00_errors_holds : PySem.Challenge.rw_endlessplans_k00_errors.Holds := by
  w_on; o_law
  refine HandSHeadRun.head_any (r := OpenLaw.row PySem.Challenge.rw_endlessplans_k00_errors) (q := view (OpenLaw.row PySem.Challenge.rw_endlessplans_k00_errors).prog [26]) (H := Py.K00.hk) (ob := Py.K00.ob) (M := 9000) (loose := Py.K00.loose) (d := HandSHeadRun.topDef (OpenLaw.row PySem.Challenge.rw_endlessplans_k00_errors).prog 26) (kwd := []) Py.K00.ob_eq
    (by kernel_rfl) (fun s => by kernel_rfl) Py.K00.run (by kernel_rfl) (by kernel_rfl) (by kernel_rfl) (by rfl) (by first | assumption | decide +kernel) (by decide +kernel) ⟨rfl, rfl, rfl, rfl, rfl, by decide +kernel⟩ ?hw ?hc
  case hw => w_witness2
  case hc =>
    refine Py.walk_law (l := PySem.Challenge.rw_endlessplans_k00_errors) (n := 63) (lv := Py.K00.deep + 2 + 1) (x := "script") rfl (by decide) (by kernel_rfl) ⟨rfl, by decide, by decide⟩ ?F
    intro w mg fa h Y G hmg0
    obtain ⟨K, KX, c⟩ := Y
    have hmg : mg ("law" : PySem.Str) = some (.ref fa) := by
      have e : (HandSHeadRun.topDef (OpenLaw.row PySem.Challenge.rw_endlessplans_k00_errors).prog 26).name = ("law" : PySem.Str) := by kernel_rfl
      rw [← e]
      exact hmg0
    obtain ⟨fd, D⟩ := (Py.K00.dfs_of c).d_law
    have e := hmg.symm.trans (Py.K00.top_of (P := (PySem.Challenge.rw_endlessplans_k00_errors).prog) (w := w) (base := h) KX G c).g_law
    cases e
    have b := L2.FunD.bindsA (ps := ["script"]) D fun _ _ _ _ _ _ us hl => match us, hl with | [_], _ => rfl
    exact ⟨K, fd, Py.spD K (Py.K00.tab K) (Py.K00.cx Py.rpW (Py.K00.deep + 1)) 6, KX, fun s u => b s [u] rfl, fun H a zs hl hO hS => Py.spD_script (Py.K00.cx_mono Py.rpW _) hO hS (Py.K00.law Py.rpW hl), fun base _ _ => Py.K00.law_fn (Py.K00.top_of KX G c) (Py.K00.dfs_of c) Py.K00.deep D⟩
end
