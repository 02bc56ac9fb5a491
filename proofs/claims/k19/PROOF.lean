import PyProof.Rows.All
import Wide.All
import OpenK.AllK
import Wide.FinOn
import KE.KStateDown
import HandS.ForMost
import HandS.Deep
import HandS.Wide
import HandS.Exc
import HandS.ExcOwn
import HandS.Lambda
import HandS.HeadHook4
import HandS.HeadWalk
import KE.KDictKeyed
import HandS.TupAny
import HandS.TupMul
import HandS.Style
import HandS.Zip
import HandS.Conv
import HandS.StrSplit
import HandS.Replace
import HandS.ReplaceLit
import HandS.SetFor
import HandS.Rev
import HandS.SortOrd
import HandS.TupLe
import HandS.SortKw
import PyProof.StrOps2
import PyProof.P3In
import HandS.Text
import HandS.IsInst
import HandS.ExcIs
import HandS.Steps
import PyProof.NeKinds
import PyProof.ExcBaseAll.ValueError
import KE.GoesMore
import KE.GoesZip
import HandS.NestedK
import HandS.Head2
import PySem.Challenge.RW_regexsteps_k19_errors_apart
set_option Elab.async false
set_option linter.all false
-- core only
set_option maxRecDepth 10000
/-! The small evaluator: data, slots, the inner form of a def's body, its value. -/
namespace EV
/-- data: what is never written again -/
inductive D where
  | non | bl (b : Bool) | int (i : Int) | str (s : List Nat)
  | tup (xs : List D) | lst (xs : List D) | dct (ks vs : List D) | set (xs : List Int)
  | obj (c : Nat) (fs : List D) | exc (c : Nat) | fnr (f : Nat) | scr (ns : List Int)
/-- what a slot holds: data, or a thing of one's own that may be written (b: borrowed) -/
inductive S where
  | d (x : D) | l (b : Bool) (xs : List D) | m (b : Bool) (ks vs : List D) | o (b : Bool) (c : Nat) (fs : List S) | clo (j : Nat) | lk (s : S)
instance : Inhabited D := ⟨.non⟩
instance : Inhabited S := ⟨.d .non⟩
abbrev Env := List (Option S)
/-! ### == and order of data -/
mutual
def D.eqv : D → D → Bool
  | .non, .non => true
  | .bl a, .bl b => a == b
  | .bl a, .int j => (if a then 1 else 0) == j
  | .int i, .bl b => i == (if b then 1 else 0)
  | .int i, .int j => i == j
  | .str x, .str y => x == y
  | .lst xs, .lst ys => D.eqvs xs ys
  | .tup xs, .tup ys => D.eqvs xs ys
  | _, _ => false
def D.eqvs : List D → List D → Bool
  | [], [] => true
  | x :: xs, y :: ys => D.eqv x y && D.eqvs xs ys
  | _, _ => false
end
mutual
/-- plain data, and how deep -/
def D.dep : D → Option Nat
  | .non | .bl _ | .int _ => some 0
  | .str x => if x.all (· < 1114112) && decide (x.length ≤ 1000000) then some 0 else none
  | .tup xs | .lst xs => (D.deps xs).map (· + 1)
  | _ => none
def D.deps : List D → Option Nat
  | [] => some 0
  | x :: xs => match D.dep x, D.deps xs with
    | some a, some b => some (max a b)
    | _, _ => none
end
def D.shp (d : D) : Bool := match d.dep with
  | some n => decide (n ≤ 60)
  | none => false
mutual
def S.toD : S → Option D
  | S.d x => some x
  | .l _ xs => some (.lst xs)
  | .m _ ks vs => some (.dct ks vs)
  | .o _ c fs => match S.toDs fs with
    | some ds => some (.obj c ds)
    | none => none
  | .clo _ => none
  | .lk _ => none
def S.toDs : List S → Option (List D)
  | [] => some []
  | s :: r => match S.toD s, S.toDs r with
    | some a, some as => some (a :: as)
    | _, _ => none
end
/-! ### the inner form -/
inductive Ty where
  | int | bool | str | tuple | list | exc (c : Nat) | valueError
inductive Prim where
  | add | sub | mul | fdiv | mod | pow | neg
  | eq | ne | lt | le | gt | ge | isC | isNC | inn | nin
  | idx | sl (lo hi : Bool) | rev | innD | ninD | idxD
  | len | isi (t : Ty) | all | any | sum | sorted | sortedLen | min1 | max1 | max0 | min2 | max2
  | list | tuple | set | str | int | zipL
  | get2 | index | count | join | replace | split | emp | nemp
inductive IG where
  | nm (i : Nat) | tup (gs : List IG)
/-- a place: a slot, a field of the object in a slot -/
inductive Plc where
  | s (i : Nat) | f (i c j : Nat)
inductive How where
  | fn | meth (c m : Nat) | len (c : Nat)
mutual
inductive IE where
  | cst (d : D) | var (i : Nat) | mv (i : Nat) | glb (g : Nat) (d : D) | fnv (f : Nat)
  | tup (es : List IE) | lst (es : List IE) | dct (ks vs : List IE)
  | prim (o : Prim) (os : List Opd)
  | and (a b : IE) | or (a b : IE) | not (a : IE) | ite (c a b : IE)
  | chain (c1 c2 : Prim) (a b c : IE)
  | attr (x : Opd) (c j : Nat)
  | call (h : How) (f : Nat) (as : List IA) | make (c f : Nat) (as : List IA) | ccall (i : Nat) (as : List IE)
  | pop (p : Plc)
  | lc (src : IT) (g : IG) (cnd : Option IE) (el : IE) | lc2 (s1 : IT) (g1 : IG) (s2 : IT) (g2 : IG) (el : IE)
  | dc (src : IT) (g : IG) (k v : IE)
inductive Opd where
  | e (x : IE) | p (p : Plc)
inductive IA where
  | e (x : IE) | ow (x : IE) | bw (i : Nat) | lam (ps : List Nat) (b : IE)
inductive IT where
  | it (x : Opd) | range (es : List IE) | zip (a b : Opd) | enum (a : Opd)
end
instance : Inhabited IE := ⟨.cst .non⟩
inductive IS where
  | asg (i : Nat) (own : Bool) (e : IE)
  | par (gs : List (Nat × Bool)) (es : List IE)
  | unp (g : IG) (x : Opd)
  | fld (i c j : Nat) (own : Bool) (e : IE)
  | sub (p : Plc) (k v : IE)
  | subD (p : Plc) (k v : IE)
  | app (p : Plc) (e : IE)
  | exp (e : IE)
  | ife (c : IE) (a b : List IS)
  | whl (c : IE) (b : List IS)
  | for_ (s : IT) (g : IG) (b : List IS)
  | ret (e : Option IE)
  | brk
  | rais (c : Nat)
  | try_ (b : List IS) (c : Nat) (i : Option Nat) (h : List IS)
  | frz (i : Nat)
/-- a def: parameters, slots, body; ro: what it returns stays one's own -/
structure FD where
  np : Nat
  ns : Nat
  body : List IS
  ro : Bool := false
structure Lam where
  ps : List Nat
  body : IE
/-! ### outcomes -/
inductive Out (α : Type) where
  | ok (a : α) (e : Env)
  | exn (c : Nat) (e : Env)
abbrev R (α : Type) := Option (Out α)
@[inline] def R.bind {α β : Type} (x : R α) (k : α → Env → R β) : R β := match x with
  | some (.ok a e) => k a e
  | some (.exn c e) => some (.exn c e)
  | none => none
inductive Fl where
  | nx | rt (s : S) | bk
inductive COut where
  | ok (r : S) (as : List S) (pe : Env)
  | exn (c : Nat) (as : List S) (pe : Env)
abbrev Call := Nat → List S → List Lam → Env → Option COut
/-! ### primitives on data -/
def lineSz : Nat := 16777216
def intOk (i : Int) : Bool := decide (i.natAbs < 2 ^ 64)
def mulOk (a b : Int) : Bool := intOk a || intOk b || (decide (a.natAbs < 2 ^ 2000) && decide (b.natAbs < 2 ^ 2000))
/-- the place of an index -/
def atI {α : Type} (xs : List α) (i : Int) : Option α := if 0 ≤ i then xs[i.toNat]? else if 0 ≤ i + xs.length then xs[(i + xs.length).toNat]? else none
def clampI (n : Nat) (i : Int) : Nat := if 0 ≤ i then min i.toNat n else (i + n).toNat
def cutL {α : Type} (xs : List α) (lo hi : Option Int) : List α :=
  let a := match lo with | some i => clampI xs.length i | none => 0
  let b := match hi with | some i => clampI xs.length i | none => xs.length
  (xs.take b).drop a
def isPre : List Nat → List Nat → Bool
  | [], _ => true
  | a :: x, b :: y => a == b && isPre x y
  | _, _ => false
/-- x in y for texts -/
def subIn (x : List Nat) : List Nat → Bool
  | [] => x.isEmpty
  | b :: y => isPre x (b :: y) || subIn x y
def ltL : List Nat → List Nat → Bool
  | [], [] => false
  | [], _ :: _ => true
  | _ :: _, [] => false
  | a :: x, b :: y => decide (a < b) || (a == b && ltL x y)
def ints? : List D → Option (List Int)
  | [] => some []
  | .int i :: r => match ints? r with
    | some l => some (i :: l)
    | none => none
  | _ => none
def bools? : List D → Option (List Bool)
  | [] => some []
  | .bl i :: r => match bools? r with
    | some l => some (i :: l)
    | none => none
  | _ => none
def strs? : List D → Option (List (List Nat))
  | [] => some []
  | .str i :: r => match strs? r with
    | some l => some (i :: l)
    | none => none
  | _ => none
def insI (x : Int) : List Int → List Int
  | [] => [x]
  | y :: r => if y ≤ x then y :: insI x r else x :: y :: r
def sortI (l : List Int) : List Int := l.foldl (fun a x => insI x a) []
def insK (x : Nat × D) : List (Nat × D) → List (Nat × D)
  | [] => [x]
  | y :: r => if y.1 ≤ x.1 then y :: insK x r else x :: y :: r
def keyLen : List D → Option (List (Nat × D))
  | [] => some []
  | .lst xs :: r => match keyLen r with
    | some l => some ((xs.length, .lst xs) :: l)
    | none => none
  | _ => none
def insP (x : Int × Int) : List (Int × Int) → List (Int × Int)
  | [] => [x]
  | y :: r => if y.1 < x.1 ∨ (y.1 = x.1 ∧ y.2 ≤ x.2) then y :: insP x r else x :: y :: r
def pairs? : List D → Option (List (Int × Int))
  | [] => some []
  | .tup [.int i, .int j] :: r => match pairs? r with
    | some l => some ((i, j) :: l)
    | none => none
  | _ => none
def signs? : List D → Option (List Int)
  | [] => some []
  | .str [i] :: r => match signs? r with
    | some l => some ((i : Int) :: l)
    | none => none
  | _ => none
def dedI : List Int → List Int → List Int
  | acc, [] => acc
  | acc, x :: r => if acc.contains x then dedI acc r else dedI (acc ++ [x]) r
def keyOk : D → Bool
  | .int _ => true
  | .str _ => true
  | .tup xs => (D.tup xs).shp
  | _ => false
/-- the place of a key -/
def findK (k : D) : List D → Nat → Option Nat
  | [], _ => none
  | x :: r, n => if D.eqv x k then some n else findK k r (n + 1)
/-- keys of one dict are of one kind -/
def sameKind : D → D → Bool
  | .tup _, .tup _ => true
  | .tup _, _ => false
  | _, .tup _ => false
  | _, _ => true
def dputD (ks vs : List D) (k v : D) : Option (List D × List D) :=
  if keyOk k && ks.all (sameKind k) && decide (ks.length < 1000000) then match findK k ks 0 with
    | some n => some (ks, vs.set n v)
    | none => some (ks ++ [k], vs ++ [v])
  else none
def dgetD (ks vs : List D) (k : D) : Option (Option D) :=
  if keyOk k && ks.all (sameKind k) then match findK k ks 0 with
    | some n => some vs[n]?
    | none => some none
  else none
def isTy : Ty → D → Option Bool
  | .int, .int _ => some true
  | .int, .bl _ => some true
  | .bool, .bl _ => some true
  | .str, .str _ => some true
  | .tuple, .tup _ => some true
  | .list, .lst _ => some true
  | .exc c, .exc c' => some (c == c' || c == 0)
  | .exc _, _ => none
  | .valueError, .exc _ => some true
  | .valueError, _ => none
  | _, .non | _, .bl _ | _, .int _ | _, .str _ | _, .tup _ | _, .lst _ => some false
  | _, _ => none
def isCst : D → D → Option Bool
  | x, .non => match x with
    | .non => some true
    | _ => some false
  | x, .bl b => match x with
    | .bl a => some (a == b)
    | _ => some false
  | _, _ => none
def anyEq (x : D) (ys : List D) : Bool := ys.any fun y => D.eqv y x
def inD : D → D → Option Bool
  | .str [c], .str y => some (y.contains c)
  | x, .lst ys => if x.shp && (D.lst ys).shp then some (anyEq x ys) else none
  | x, .tup ys => if x.shp && (D.tup ys).shp then some (anyEq x ys) else none
  | _, _ => none
def eqD (x y : D) : Option Bool := if x.shp && y.shp then some (D.eqv x y) else none
def sumI (l : List Int) : Int := l.foldl (· + ·) 0
def joinL (sep : List Nat) : List (List Nat) → List Nat
  | [] => []
  | [x] => x
  | x :: r => x ++ sep ++ joinL sep r
/-- replace one sign by nothing: the only form met -/
def removeC (c : Nat) (x : List Nat) : List Nat := x.filter fun b => !(b == c)
/-- split at one sign -/
def splitC (c : Nat) : List Nat → List Nat → List (List Nat)
  | acc, [] => [acc]
  | acc, b :: r => if b == c then acc :: splitC c [] r else splitC c (acc ++ [b]) r
def digitsN : Nat → Nat → List Nat → List Nat
  | 0, _, acc => acc
  | f + 1, n, acc => if n < 10 then (48 + n) :: acc else digitsN f (n / 10) ((48 + n % 10) :: acc)
def intText (i : Int) : List Nat := if i < 0 then 45 :: digitsN (i.natAbs + 1) i.natAbs [] else digitsN (i.natAbs + 1) i.natAbs []
def textInt (x : List Nat) : Option Int := if !x.isEmpty && x.all (fun c => decide (48 ≤ c) && decide (c ≤ 57)) && decide (x.length ≤ 600) then some (x.foldl (fun (a : Int) (c : Nat) => 10 * a + ((c : Int) - 48)) 0) else none
def firstAt (p : D → Bool) : List D → Nat → Option Nat
  | [], _ => none
  | x :: r, n => if p x then some n else firstAt p r (n + 1)
def maxI : Int → List Int → Int
  | m, [] => m
  | m, x :: r => maxI (if x > m then x else m) r
def minI : Int → List Int → Int
  | m, [] => m
  | m, x :: r => minI (if x < m then x else m) r
def zipT : List D → List D → List D
  | x :: xs, y :: ys => .tup [x, y] :: zipT xs ys
  | _, _ => []
def bl? (x : Option Bool) : Option S := x.map fun b => .d (.bl b)
def pAdd : List D → Option S
  | [.int a, .int b] => some (.d (.int (a + b)))
  | [.str a, .str b] => if a.length + b.length ≤ lineSz then some (.d (.str (a ++ b))) else none
  | [.lst a, .lst b] => if a.length + b.length ≤ lineSz then some (.l false (a ++ b)) else none
  | [.tup a, .tup b] => if a.length + b.length ≤ lineSz then some (.d (.tup (a ++ b))) else none
  | _ => none
def pSub : List D → Option S
  | [.int a, .int b] => some (.d (.int (a - b)))
  | _ => none
def pMul : List D → Option S
  | [.int a, .int b] => if mulOk a b then some (.d (.int (a * b))) else none
  | [.str a, .int n] => if n < 2 ^ 62 ∧ -(2 ^ 62) < n ∧ a.length * n.toNat ≤ lineSz then some (.d (.str (List.replicate n.toNat a).flatten)) else none
  | [.tup a, .int n] => if n = 1 then some (.d (.tup a)) else if (!a.isEmpty) = true ∧ 2 ≤ n ∧ n ≤ 1000 ∧ a.length ≤ 1000 then some (.d (.tup (List.replicate n.toNat a).flatten)) else none
  | [.lst a, .int n] => if n < 2 ^ 62 ∧ -(2 ^ 62) < n ∧ a.length * n.toNat ≤ lineSz then some (.l false (List.replicate n.toNat a).flatten) else none
  | _ => none
def pFdiv : List D → Option S
  | [.int a, .int b] => if 0 < b ∧ b < 2 ^ 1000 then some (.d (.int (a / b))) else none
  | _ => none
def pMod : List D → Option S
  | [.int a, .int b] => if 0 < b then some (.d (.int (a % b))) else none
  | _ => none
def pPow : List D → Option S
  | [.int a, .int b] => if 0 ≤ b ∧ b ≤ 1000 ∧ intOk a then some (.d (.int (a ^ b.toNat))) else none
  | _ => none
def pNeg : List D → Option S
  | [.int a] => some (.d (.int (-a)))
  | _ => none
def pEq : List D → Option S
  | [a, b] => bl? (eqD a b)
  | _ => none
def pNe : List D → Option S
  | [a, b] => bl? ((eqD a b).map (!·))
  | _ => none
def pLt : List D → Option S
  | [.int a, .int b] => some (.d (.bl (decide (a < b))))
  | [.str a, .str b] => some (.d (.bl (ltL a b)))
  | _ => none
def pLe : List D → Option S
  | [.int a, .int b] => some (.d (.bl (decide (a ≤ b))))
  | _ => none
def pGt : List D → Option S
  | [.int a, .int b] => some (.d (.bl (decide (b < a))))
  | _ => none
def pGe : List D → Option S
  | [.int a, .int b] => some (.d (.bl (decide (b ≤ a))))
  | _ => none
def pIsC : List D → Option S
  | [a, b] => bl? (isCst a b)
  | _ => none
def pIsNC : List D → Option S
  | [a, b] => bl? ((isCst a b).map (!·))
  | _ => none
def pInn : List D → Option S
  | [a, b] => bl? (inD a b)
  | _ => none
def pNin : List D → Option S
  | [a, b] => bl? ((inD a b).map (!·))
  | _ => none
def pIdx : List D → Option S
  | [.scr xs, .int i] => (atI xs i).map fun n => .d (.int n)
  | [.lst xs, .int i] => (atI xs i).map .d
  | [.tup xs, .int i] => (atI xs i).map .d
  | [.str xs, .int i] => if xs.length ≤ lineSz then (atI xs i).map fun c => .d (.str [c]) else none
  | _ => none
def pIdxD : List D → Option S
  | [.dct ks vs, k] => match dgetD ks vs k with
    | some (some d) => some (.d d)
    | _ => none
  | _ => none
def pInnD : List D → Option S
  | [k, .dct ks vs] => bl? ((dgetD ks vs k).map (·.isSome))
  | _ => none
def pNinD : List D → Option S
  | [k, .dct ks vs] => bl? ((dgetD ks vs k).map (·.isNone))
  | _ => none
def slD (x : D) (lo hi : Option Int) : Option S := match x with
  | .lst xs => some (.l false (cutL xs lo hi))
  | .tup xs => some (.d (.tup (cutL xs lo hi)))
  | .str xs => if xs.length ≤ lineSz then some (.d (.str (cutL xs lo hi))) else none
  | _ => none
def pSl : Bool → Bool → List D → Option S
  | false, true, [x, .int j] => slD x none (some j)
  | true, false, [x, .int i] => slD x (some i) none
  | true, true, [x, .int i, .int j] => slD x (some i) (some j)
  | _, _, _ => none
def pRev : List D → Option S
  | [.lst xs] => some (.l false xs.reverse)
  | _ => none
def pLen : List D → Option S
  | [.scr xs] => some (.d (.int xs.length))
  | [.lst xs] => some (.d (.int xs.length))
  | [.tup xs] => some (.d (.int xs.length))
  | [.str xs] => if xs.length ≤ lineSz then some (.d (.int xs.length)) else none
  | _ => none
def pIsi (t : Ty) : List D → Option S
  | [a] => bl? (isTy t a)
  | _ => none
def pAll : List D → Option S
  | [.lst xs] => bl? ((bools? xs).map fun l => l.all id)
  | _ => none
def pAny : List D → Option S
  | [.lst xs] => bl? ((bools? xs).map fun l => l.any id)
  | _ => none
def pSum : List D → Option S
  | [.lst xs] => (ints? xs).map fun l => .d (.int (sumI l))
  | _ => none
def pSorted : List D → Option S
  | [.lst xs] => match ints? xs with
    | some l => some (.l false ((sortI l).map .int))
    | none => match pairs? xs with
      | some l => some (.l false ((l.foldl (fun a x => insP x a) []).map fun p => .tup [.int p.1, .int p.2]))
      | none => match signs? xs with
        | some l => some (.l false ((sortI l).map fun c => .str [c.toNat]))
        | none => none
  | [.set xs] => some (.l false ((sortI xs).map .int))
  | _ => none
def pSortedLen : List D → Option S
  | [.lst xs] => (keyLen xs).map fun l => .l false ((l.foldl (fun a x => insK x a) []).map (·.2))
  | _ => none
def pMin1 : List D → Option S
  | [.lst xs] => match ints? xs with
    | some (m :: r) => some (.d (.int (minI m r)))
    | _ => none
  | _ => none
def pMax1 : List D → Option S
  | [.lst xs] => match ints? xs with
    | some (m :: r) => some (.d (.int (maxI m r)))
    | _ => none
  | _ => none
def pMax0 : List D → Option S
  | [.lst xs] => match ints? xs with
    | some (m :: r) => some (.d (.int (maxI m r)))
    | some [] => some (.d (.int 0))
    | _ => none
  | _ => none
def pMin2 : List D → Option S
  | [.int a, .int b] => some (.d (.int (if b < a then b else a)))
  | _ => none
def pMax2 : List D → Option S
  | [.int a, .int b] => some (.d (.int (if b > a then b else a)))
  | _ => none
def pList : List D → Option S
  | [.lst xs] => some (.l false xs)
  | [.tup xs] => some (.l false xs)
  | _ => none
def pTuple : List D → Option S
  | [.lst xs] => some (.d (.tup xs))
  | [.tup xs] => some (.d (.tup xs))
  | _ => none
def pSet : List D → Option S
  | [.lst xs] => (ints? xs).map fun l => .d (.set (dedI [] l))
  | [.tup xs] => (ints? xs).map fun l => .d (.set (dedI [] l))
  | _ => none
def pStr : List D → Option S
  | [.int i] => if i.natAbs < 2 ^ 64 then some (.d (.str (intText i))) else none
  | _ => none
def pInt : List D → Option S
  | [.bl b] => some (.d (.int (if b then 1 else 0)))
  | [.int b] => some (.d (.int b))
  | [.str x] => (textInt x).map fun i => .d (.int i)
  | _ => none
def pZipL : List D → Option S
  | [.lst a, .lst b] => some (.l false (zipT a b))
  | [.tup a, .lst b] => some (.l false (zipT a b))
  | _ => none
def pGet2 : List D → Option S
  | [.dct ks vs, k, d] => (dgetD ks vs k).map fun r => .d (r.getD d)
  | _ => none
def pIndex : List D → Option S
  | [.lst xs, a] => if a.shp && (D.lst xs).shp then (firstAt (fun x => D.eqv x a) xs 0).map fun n => .d (.int n) else none
  | _ => none
def pCount : List D → Option S
  | [.lst xs, .int a] => (ints? xs).map fun l => .d (.int (l.count a))
  | _ => none
def pJoin : List D → Option S
  | [.str sep, .lst xs] => match strs? xs with
    | some l => if (joinL sep l).length ≤ 1000000 then some (.d (.str (joinL sep l))) else none
    | none => none
  | _ => none
def pReplace : List D → Option S
  | [.str x, .str [c], .str []] => some (.d (.str (removeC c x)))
  | _ => none
def pSplit : List D → Option S
  | [.str x, .str [c]] => some (.l false ((splitC c [] x).map .str))
  | _ => none
def pEmp : List D → Option S
  | [.scr xs] => some (.d (.bl xs.isEmpty))
  | [.lst xs] => some (.d (.bl xs.isEmpty))
  | _ => none
def pNemp : List D → Option S
  | [.lst xs] => some (.d (.bl (!xs.isEmpty)))
  | _ => none
def prim : Prim → List D → Option S
  | .add, ds => pAdd ds
  | .sub, ds => pSub ds
  | .mul, ds => pMul ds
  | .fdiv, ds => pFdiv ds
  | .mod, ds => pMod ds
  | .pow, ds => pPow ds
  | .neg, ds => pNeg ds
  | .eq, ds => pEq ds
  | .ne, ds => pNe ds
  | .lt, ds => pLt ds
  | .le, ds => pLe ds
  | .gt, ds => pGt ds
  | .ge, ds => pGe ds
  | .isC, ds => pIsC ds
  | .isNC, ds => pIsNC ds
  | .inn, ds => pInn ds
  | .nin, ds => pNin ds
  | .idx, ds => pIdx ds
  | .sl a b, ds => pSl a b ds
  | .rev, ds => pRev ds
  | .innD, ds => pInnD ds
  | .ninD, ds => pNinD ds
  | .idxD, ds => pIdxD ds
  | .len, ds => pLen ds
  | .isi t, ds => pIsi t ds
  | .all, ds => pAll ds
  | .any, ds => pAny ds
  | .sum, ds => pSum ds
  | .sorted, ds => pSorted ds
  | .sortedLen, ds => pSortedLen ds
  | .min1, ds => pMin1 ds
  | .max1, ds => pMax1 ds
  | .max0, ds => pMax0 ds
  | .min2, ds => pMin2 ds
  | .max2, ds => pMax2 ds
  | .list, ds => pList ds
  | .tuple, ds => pTuple ds
  | .set, ds => pSet ds
  | .str, ds => pStr ds
  | .int, ds => pInt ds
  | .zipL, ds => pZipL ds
  | .get2, ds => pGet2 ds
  | .index, ds => pIndex ds
  | .count, ds => pCount ds
  | .join, ds => pJoin ds
  | .replace, ds => pReplace ds
  | .split, ds => pSplit ds
  | .emp, ds => pEmp ds
  | .nemp, ds => pNemp ds
/-! ### slots -/
def S.un : S → S
  | .lk s => s
  | s => s
def peekS : Plc → Env → Option S
  | .s i, env => match env[i]? with
    | some (some s) => some s.un
    | _ => none
  | .f i c j, env => match env[i]? with
    | some (some s) => match s.un with
      | .o _ c' fs => if c == c' then fs[j]? else none
      | .d (.obj c' fs) => if c == c' then (fs[j]?).map .d else none
      | _ => none
    | _ => none
def pinned : S → Bool
  | .l b _ => b
  | .m b _ _ => b
  | .o b _ _ => b
  | .clo _ => true
  | .lk _ => true
  | .d _ => false
def setSlot (i : Nat) (s : S) (env : Env) : Option Env := match env[i]? with
  | some (some s') => if pinned s' then none else some (env.set i (some s))
  | some none => some (env.set i (some s))
  | none => none
mutual
def setG : IG → D → Env → Option Env
  | .nm i, d, env => setSlot i (.d d) env
  | .tup gs, .tup ds, env => setGs gs ds env
  | _, _, _ => none
def setGs : List IG → List D → Env → Option Env
  | [], [], env => some env
  | g :: gs, d :: ds, env => match setG g d env with
    | some env' => setGs gs ds env'
    | none => none
  | _, _, _ => none
end
/-- a thing of one's own at a place is turned -/
def turnS (p : Plc) (f : S → Option S) (env : Env) : Option Env := match p with
  | .s i => match env[i]? with
    | some (some s) => match f s with
      | some s' => some (env.set i (some s'))
      | none => none
    | _ => none
  | .f i c j => match env[i]? with
    | some (some (.o b c' fs)) => if c == c' then match fs[j]? with
        | some s => match f s with
          | some s' => some (env.set i (some (.o b c' (fs.set j s'))))
          | none => none
        | none => none
      else none
    | _ => none
def owned : S → Bool
  | .l _ _ => true
  | .m _ _ _ => true
  | .o _ _ _ => true
  | _ => false
/-- a thing of one's own at a place -/
def ownAt : Plc → Env → Option S
  | .s i, env => match env[i]? with
    | some (some s) => if owned s then some s else none
    | _ => none
  | .f i c j, env => match env[i]? with
    | some (some (.o _ c' fs)) => if c == c' then match fs[j]? with
        | some s => if owned s then some s else none
        | none => none
      else none
    | _ => none
def isL : S → Bool
  | .l _ _ => true
  | _ => false
def isM : S → Bool
  | .m _ _ _ => true
  | _ => false
def appS (d : D) : S → Option S
  | .l b xs => if xs.length < 1000000 then some (.l b (xs ++ [d])) else none
  | _ => none
def putS (k v : D) : S → Option S
  | .l b xs => match k with
    | .int i => if 0 ≤ i ∧ i < xs.length then some (.l b (xs.set i.toNat v)) else none
    | _ => none
  | .m b ks vs => match dputD ks vs k v with
    | some (ks', vs') => some (.m b ks' vs')
    | none => none
  | _ => none
def popS : S → Option (S × D)
  | .l b xs => match xs.getLast? with
    | some d => some (.l b xs.dropLast, d)
    | none => none
  | _ => none
def unpin : S → S
  | .l _ xs => .l false xs
  | .m _ ks vs => .m false ks vs
  | .o _ c fs => .o false c fs
  | s => s
def pin : S → S
  | .l _ xs => .l true xs
  | .m _ ks vs => .m true ks vs
  | .o _ c fs => .o true c fs
  | s => s
def flagOf : S → Bool
  | .l b _ => b
  | .m b _ _ => b
  | .o b _ _ => b
  | _ => false
def reflag (b : Bool) : S → S := if b then pin else unpin
/-! ### the evaluator -/
structure EvR where
  e : IE → Env → R S
  s : List IS → Env → R Fl
structure CX where
  call : Call
  lams : List Lam
  ns : Nat
  wl : Nat
/-- while a place is walked its slot is locked -/
def slotP : Plc → Nat
  | .s i => i
  | .f i _ _ => i
def lock1 (i : Nat) (env : Env) : Env := match env[i]? with
  | some (some s) => if owned s then env.set i (some (.lk s)) else env
  | _ => env
def unlock1 (i : Nat) (e0 env : Env) : Env := match e0[i]? with
  | some (some s) => if owned s then env.set i (some s) else env
  | _ => env
def lockE : List Plc → Env → Env
  | [], env => env
  | p :: ps, env => lockE ps (lock1 (slotP p) env)
def unlockE : List Plc → Env → Env → Env
  | [], _, env => env
  | p :: ps, e0, env => unlock1 (slotP p) e0 (unlockE ps (lock1 (slotP p) e0) env)
def unlockR {α : Type} (ps : List Plc) (e0 : Env) : R α → R α
  | some (.ok a e) => some (.ok a (unlockE ps e0 e))
  | some (.exn c e) => some (.exn c (unlockE ps e0 e))
  | none => none
/-- a field that waits for other operands -/
def fPlc : Sum D Plc → List Plc
  | .inr (.f i c j) => [.f i c j]
  | _ => []
section
variable (cx : CX) (r : EvR)
/-- to data -/
def frz (x : R S) : R D := x.bind fun s env => match s.toD with
  | some d => some (.ok d env)
  | none => none
def evD (x : IE) (env : Env) : R D := frz (r.e x env)
def evDs : List IE → Env → R (List D)
  | [], env => some (.ok [] env)
  | x :: xs, env => (evD r x env).bind fun d env' => (evDs xs env').bind fun ds env'' => some (.ok (d :: ds) env'')
/-- operands: first those that are reckoned, then the places -/
def evP (o : Opd) (env : Env) : R (Sum D Plc) := match o with
  | .e x => (evD r x env).bind fun d env' => some (.ok (.inl d) env')
  | .p q => match peekS q env with
    | some _ => some (.ok (.inr q) env)
    | none => none
def evO1 : List Opd → Env → R (List (Sum D Plc))
  | [], env => some (.ok [] env)
  | x :: xs, env => (evP r x env).bind fun d env' => (unlockR (fPlc d) env' (evO1 xs (lockE (fPlc d) env'))).bind fun ds env'' => some (.ok (d :: ds) env'')
def fillO (env : Env) : List (Sum D Plc) → Option (List D)
  | [] => some []
  | .inl d :: xs => match fillO env xs with
    | some ds => some (d :: ds)
    | none => none
  | .inr q :: xs => match peekS q env with
    | some s => match s.toD, fillO env xs with
      | some d, some ds => some (d :: ds)
      | _, _ => none
    | none => none
def evOs (os : List Opd) (env : Env) : R (List D) := (evO1 r os env).bind fun l env' => match fillO env' l with
  | some ds => some (.ok ds env')
  | none => none
/-- arguments -/
inductive Av where
  | d (x : D) | ow (s : S) | bw (i : Nat) | lam (l : Lam)
def evAs : List IA → Env → R (List Av)
  | [], env => some (.ok [] env)
  | .e x :: xs, env => (evD r x env).bind fun d env' => (evAs xs env').bind fun ds env'' => some (.ok (.d d :: ds) env'')
  | .ow x :: xs, env => (r.e x env).bind fun s env' => (evAs xs env').bind fun ds env'' => some (.ok (.ow s :: ds) env'')
  | .bw i :: xs, env => match env[i]? with
    | some (some _) => (evAs xs env).bind fun ds env'' => some (.ok (.bw i :: ds) env'')
    | _ => none
  | .lam ps b :: xs, env => (evAs xs env).bind fun ds env'' => some (.ok (.lam ⟨ps, b⟩ :: ds) env'')
/-- what the callee gets; the lambdas are numbered -/
def argS (env : Env) : List Av → Nat → Option (List S)
  | [], _ => some []
  | .d x :: r, n => (argS env r n).map fun l => .d x :: l
  | .ow s :: r, n => (argS env r n).map fun l => pin s :: l
  | .bw i :: r, n => match env[i]? with
    | some (some (.lk _)) => none
    | some (some (.clo _)) => none
    | some (some s) => (argS env r n).map fun l => pin s :: l
    | _ => none
  | .lam _ :: r, n => (argS env r (n + 1)).map fun l => .clo n :: l
def lamsOf : List Av → List Lam
  | [] => []
  | .lam l :: r => l :: lamsOf r
  | _ :: r => lamsOf r
def specs : List Av → Nat
  | [] => 0
  | .bw _ :: r => specs r + 1
  | .ow _ :: r => specs r + 1
  | _ :: r => specs r
def bwsOf : List Av → List Nat
  | [] => []
  | .bw i :: r => i :: bwsOf r
  | _ :: r => bwsOf r
/-- the borrowed things come back -/
def backS : List Av → List S → Env → Option Env
  | [], [], env => some env
  | .bw i :: r, s :: ss, env => match env[i]? with
    | some (some s0) => backS r ss (env.set i (some (reflag (flagOf s0) s)))
    | _ => none
  | _ :: r, _ :: ss, env => backS r ss env
  | _, _, _ => none
mutual
/-- no lambda lent -/
def noClo : S → Bool
  | .clo _ => false
  | .o _ _ fs => noClos fs
  | .lk s => noClo s
  | _ => true
def noClos : List S → Bool
  | [] => true
  | s :: r => noClo s && noClos r
end
def noCloE (env : Env) : Bool := env.all fun o => match o with
  | some s => noClo s
  | none => true
/-- the receiver is an object of that class -/
def recvOk (c : Nat) (env : Env) : List Av → Bool
  | [.d (.obj c' _)] => c == c'
  | [.bw i] => match env[i]? with
    | some (some s) => match s.un with
      | .o _ c' _ => c == c'
      | .d (.obj c' _) => c == c'
      | _ => false
    | _ => false
  | _ => false
def callR (f : Nat) (as : List Av) (env : Env) : R S :=
  if decide (specs as ≤ 1) && ((bwsOf as).isEmpty || (lamsOf as).isEmpty) && ((lamsOf as).isEmpty || (noCloE env && decide (env.length = cx.ns))) then match argS env as 0 with
    | some ss => match cx.call f ss (lamsOf as) (if (lamsOf as).isEmpty then [] else env) with
      | some (.ok s ss' pe) => if (lamsOf as).isEmpty then (backS as ss' env).map fun env' => .ok s env' else if noCloE pe && noClo s then some (.ok s pe) else none
      | some (.exn c ss' pe) => if (lamsOf as).isEmpty then (backS as ss' env).map fun env' => .exn c env' else if noCloE pe then some (.exn c pe) else none
      | none => none
    | none => none
  else none
def boolOf : S → Option Bool
  | .d (.bl b) => some b
  | _ => none
def evB (x : IE) (env : Env) : R Bool := (r.e x env).bind fun s env' => match boolOf s with
  | some b => some (.ok b env')
  | none => none
/-! loops -/
def rangeL (a b c : Int) : Nat → List D
  | 0 => []
  | n + 1 => if (0 < c ∧ a < b) ∨ (c < 0 ∧ b < a) then .int a :: rangeL (a + c) b c n else []
def itemsOf : D → Option (List D)
  | .lst xs => some xs
  | .tup xs => some xs
  | .str xs => some (xs.map fun c => .str [c])
  | _ => none
def enumL : Nat → List D → List D
  | _, [] => []
  | n, x :: r => .tup [.int n, x] :: enumL (n + 1) r
def sizeR (a b c : Int) : Option Nat := if 0 < c then some ((b - a).toNat) else if c < 0 then some ((a - b).toNat) else none
def intB (i : Int) : Bool := decide (-(2 ^ 60) < i) && decide (i < 2 ^ 60)
/-- the walked things, and what must stay -/
def evT : IT → Env → R (List D)
  | .it x, env => (evOs r [x] env).bind fun ds env' => match ds with
    | [d] => (itemsOf d).map fun l => .ok l env'
    | _ => none
  | .range es, env => (evDs r es env).bind fun ds env' => match ds with
    | [.int b] => if intB b then some (.ok (rangeL 0 b 1 b.toNat) env') else none
    | [.int a, .int b] => if intB a && intB b then some (.ok (rangeL a b 1 (b - a).toNat) env') else none
    | [.int a, .int b, .int c] => if intB a && intB b && decide (c = -1) then some (.ok (rangeL a b (-1) (a - b).toNat) env') else none
    | _ => none
  | .zip a b, env => (evOs r [a, b] env).bind fun ds env' => match ds with
    | [x, y] => match itemsOf x, itemsOf y with
      | some l, some l' => some (.ok (zipT l l') env')
      | _, _ => none
    | _ => none
  | .enum a, env => (evOs r [a] env).bind fun ds env' => match ds with
    | [.lst l] => some (.ok (enumL 0 l) env')
    | _ => none
def opdP : Opd → List Plc
  | .p q => [q]
  | .e _ => []
def srcP : IT → List Plc
  | .it x => opdP x
  | .range _ => []
  | .zip a b => opdP a ++ opdP b
  | .enum a => opdP a
def forL (g : IG) (body : Env → R Fl) : List D → Env → R Fl
  | [], env => some (.ok .nx env)
  | d :: ds, env => match setG g d env with
    | some env1 => match body env1 with
      | some (.ok .nx env2) => forL g body ds env2
      | some (.ok .bk env2) => some (.ok .nx env2)
      | x => x
    | none => none
/-- a comprehension: its own slots are wiped behind it -/
def ownG : IG → List Nat
  | .nm i => [i]
  | .tup gs => ownGs gs
where ownGs : List IG → List Nat
  | [] => []
  | g :: gs => ownG g ++ ownGs gs
def wipeE (is : List Nat) (env : Env) : Env := is.foldl (fun e i => e.set i none) env
/-- the slots are free -/
def freeE (is : List Nat) (env : Env) : Bool := is.all fun i => match env[i]? with
  | some (some (.d _)) => true
  | some none => true
  | _ => false
def lcL (g : IG) (cnd : Env → R Bool) (el : Env → R D) : List D → Env → R (List D)
  | [], env => some (.ok [] env)
  | d :: ds, env => match setG g d env with
    | some env1 => match cnd env1 with
      | some (.ok true env2) => match el env2 with
        | some (.ok y env3) => if freeE (ownG g) env3 then match lcL g cnd el ds (wipeE (ownG g) env3) with
            | some (.ok ys env4) => some (.ok (y :: ys) env4)
            | _ => none
          else none
        | _ => none
      | some (.ok false env2) => if freeE (ownG g) env2 then lcL g cnd el ds (wipeE (ownG g) env2) else none
      | _ => none
    | none => none
def cndOf (c : Option IE) (env : Env) : R Bool := match c with
  | some x => evB r x env
  | none => some (.ok true env)
/-- what was in the slots comes back -/
def restE (is : List Nat) (e0 env : Env) : Env := is.foldl (fun e i => e.set i (e0.getD i none)) env
def okL (x : R (List D)) : R S := x.bind fun l env => if l.length ≤ 1000000 then some (.ok (.l false l) env) else none
def dputs : List D → List D → List D → List D → Option (List D × List D)
  | ks, vs, k :: kr, v :: vr => match dputD ks vs k v with
    | some (ks', vs') => dputs ks' vs' kr vr
    | none => none
  | ks, vs, [], [] => some (ks, vs)
  | _, _, _, _ => none
def setAll (l : List (Nat × D)) (env : Env) : Env := l.foldl (fun e p => e.set p.1 (some (.d p.2))) env
def whileL (c : Env → R Bool) (body : Env → R Fl) : Nat → Env → R Fl
  | 0, _ => none
  | n + 1, env => match c env with
    | some (.ok true env1) => match body env1 with
      | some (.ok .nx env2) => whileL c body n env2
      | some (.ok .bk env2) => some (.ok .nx env2)
      | x => x
    | some (.ok false env1) => some (.ok .nx env1)
    | some (.exn k e) => some (.exn k e)
    | none => none
def stepE : IE → Env → R S
  | .cst d, env => some (.ok (.d d) env)
  | .glb _ d, env => some (.ok (.d d) env)
  | .fnv f, env => some (.ok (.d (.fnr f)) env)
  | .var i, env => match env[i]? with
    | some (some (.d d)) => some (.ok (.d d) env)
    | _ => none
  | .mv i, env => match env[i]? with
    | some (some s) => if pinned s then none else some (.ok s (env.set i none))
    | _ => none
  | .tup es, env => (evDs r es env).bind fun ds env' => some (.ok (.d (.tup ds)) env')
  | .lst es, env => (evDs r es env).bind fun ds env' => some (.ok (.l false ds) env')
  | .dct ks vs, env => (evDs r ks env).bind fun kd env' => (evDs r vs env').bind fun vd env'' => match dputs [] [] kd vd with
    | some (a, b) => some (.ok (.m false a b) env'')
    | none => none
  | .prim o os, env => (evOs r os env).bind fun ds env' => match prim o ds with
    | some s => some (.ok s env')
    | none => none
  | .and a b, env => (evB r a env).bind fun c env' => if c then r.e b env' else some (.ok (.d (.bl false)) env')
  | .or a b, env => (evB r a env).bind fun c env' => if c then some (.ok (.d (.bl true)) env') else r.e b env'
  | .not a, env => (evB r a env).bind fun c env' => some (.ok (.d (.bl (!c))) env')
  | .ite c a b, env => (evB r c env).bind fun k env' => if k then r.e a env' else r.e b env'
  | .chain c1 c2 a b c, env => (evD r a env).bind fun x e1 => (evD r b e1).bind fun y e2 => match prim c1 [x, y] with
    | some (.d (.bl true)) => (evD r c e2).bind fun z e3 => match prim c2 [y, z] with
      | some s => some (.ok s e3)
      | none => none
    | some (.d (.bl false)) => some (.ok (.d (.bl false)) e2)
    | _ => none
  | .attr x c j, env => match x with
    | .p q => match peekS q env with
      | some (.d (.obj c' fs)) => if c == c' then match fs[j]? with
          | some d => some (.ok (.d d) env)
          | none => none
        else none
      | some (.o _ c' fs) => if c == c' then match fs[j]? with
          | some (.d d) => some (.ok (.d d) env)
          | _ => none
        else none
      | _ => none
    | .e x => (evD r x env).bind fun d env' => match d with
      | .obj c' fs => if c == c' then match fs[j]? with
          | some d => some (.ok (.d d) env')
          | none => none
        else none
      | _ => none
  | .call h f as, env => match h with
    | .fn => (evAs r as env).bind fun l env' => callR cx f l env'
    | .meth c _ => match as with
      | a :: rest => (evAs r [a] env).bind fun l env' => if recvOk c env' l then (evAs r rest env').bind fun l2 env2 => callR cx f (l ++ l2) env2 else none
      | [] => none
    | .len c => match as with
      | [a] => (evAs r [a] env).bind fun l env' => if recvOk c env' l then callR cx f l env' else none
      | _ => none
  | .make c f as, env => (evAs r as env).bind fun l env' => if (lamsOf l).isEmpty && decide (specs l = 0) then match argS env' l 0 with
      | some ss => match cx.call f (.o true c [] :: ss) [] [] with
        | some (.ok (.d .non) (o :: _) _) => some (.ok (unpin o) env')
        | some (.exn k (_ :: _) _) => some (.exn k env')
        | _ => none
      | none => none
    else none
  | .ccall i as, env => match env[i]? with
    | some (some (.d (.fnr f))) => (evDs r as env).bind fun ds env' => callR cx f (ds.map .d) env'
    | some (some (.clo j)) => match cx.lams[j]? with
      | some L => (evDs r as env).bind fun ds env' => if L.ps.length == ds.length && freeE L.ps (env'.drop cx.ns) then
          match r.e L.body (setAll (L.ps.zip ds) (env'.drop cx.ns)) with
          | some (.ok s pe) => if freeE L.ps pe then match s.toD with
              | some d => some (.ok (.d d) (env'.take cx.ns ++ wipeE L.ps pe))
              | none => none
            else none
          | some (.exn k pe) => if freeE L.ps pe then some (.exn k (env'.take cx.ns ++ wipeE L.ps pe)) else none
          | none => none
        else none
      | none => none
    | _ => none
  | .pop p, env => match peekS p env with
    | some s => match popS s with
      | some (_, d) => match turnS p (fun s => (popS s).map (·.1)) env with
        | some env' => some (.ok (.d d) env')
        | none => none
      | none => none
    | none => none
  | .lc src g cnd el, env => (evT r src env).bind fun ds env' => if freeE (ownG g) (lockE (srcP src) env') then
      (okL (lcL g (cndOf r cnd) (evD r el) ds (wipeE (ownG g) (lockE (srcP src) env')))).bind fun s e => some (.ok s (unlockE (srcP src) env' (restE (ownG g) (lockE (srcP src) env') e)))
    else none
  | .lc2 s1 g1 s2 g2 el, env => (evT r s1 env).bind fun ds env' => if freeE (ownG g1 ++ ownG g2) (lockE (srcP s1) env') then
      (okL ((lcL g1 (fun e => some (.ok true e)) (fun e => (evT r s2 e).bind fun ds2 e2 => if freeE (ownG g2) (lockE (srcP s2) e2) then
        (lcL g2 (fun e => some (.ok true e)) (evD r el) ds2 (wipeE (ownG g2) (lockE (srcP s2) e2))).bind fun l e3 => some (.ok (.lst l) (unlockE (srcP s2) e2 (restE (ownG g2) (lockE (srcP s2) e2) e3))) else none) ds (wipeE (ownG g1 ++ ownG g2) (lockE (srcP s1) env'))).bind fun ll e =>
          some (.ok ((ll.map fun d => match d with | .lst l => l | _ => []).flatten) e))).bind fun s e => some (.ok s (unlockE (srcP s1) env' (restE (ownG g1 ++ ownG g2) (lockE (srcP s1) env') e)))
    else none
  | .dc src g k v, env => (evT r src env).bind fun ds env' => if freeE (ownG g) (lockE (srcP src) env') then
      (lcL g (fun e => some (.ok true e)) (fun e => (evD r k e).bind fun a e1 => (evD r v e1).bind fun b e2 => some (.ok (.tup [a, b]) e2)) ds (wipeE (ownG g) (lockE (srcP src) env'))).bind fun l e =>
        match dputs [] [] (l.map fun d => match d with | .tup [a, _] => a | d => d) (l.map fun d => match d with | .tup [_, b] => b | d => d) with
        | some (ks, vs) => some (.ok (.m false ks vs) (unlockE (srcP src) env' (restE (ownG g) (lockE (srcP src) env') e)))
        | none => none
    else none
def ownS (own : Bool) (s : S) : Option S := if own then some (unpin s) else s.toD.map .d
def setPar : List (Nat × Bool) → List S → Env → Option Env
  | [], [], env => some env
  | (i, own) :: gs, s :: ss, env => match ownS own s with
    | some s' => match setSlot i s' env with
      | some env' => setPar gs ss env'
      | none => none
    | none => none
  | _, _, _ => none
def evSs : List IE → Env → R (List S)
  | [], env => some (.ok [] env)
  | x :: xs, env => (r.e x env).bind fun d env' => (evSs xs env').bind fun ds env'' => some (.ok (d :: ds) env'')
def isDN (j : Nat) (env : Env) : Bool := match env[j]? with
  | some (some (.d _)) => true
  | some none => true
  | _ => false
def stepS1 : IS → Env → R Fl
  | .asg i own e, env => (r.e e env).bind fun s env' => match ownS own s with
    | some s' => (setSlot i s' env').map fun e => .ok .nx e
    | none => none
  | .par gs es, env => (evSs r es env).bind fun ss env' => (setPar gs ss env').map fun e => .ok .nx e
  | .unp g x, env => (evOs r [x] env).bind fun ds env' => match ds with
    | [d] => (setG g d env').map fun e => .ok .nx e
    | _ => none
  | .fld i c j own e, env => (r.e e env).bind fun s env' => match ownS own s with
    | some s' => match env'[i]? with
      | some (some (.o b c' fs)) => if c == c' then (if j < fs.length then match fs[j]? with
            | some (.d _) => some (.ok .nx (env'.set i (some (.o b c' (fs.set j s')))))
            | _ => none
          else if j == fs.length then some (.ok .nx (env'.set i (some (.o b c' (fs ++ [s']))))) else none) else none
      | _ => none
    | none => none
  | .sub p k v, env => (evD r v env).bind fun y env1 => match ownAt p env1 with
    | some s => if isL s then (unlockR [p] env1 (evD r k (lockE [p] env1))).bind fun x env2 => (turnS p (putS x y) env2).map fun e => .ok .nx e else none
    | none => none
  | .subD p k v, env => (evD r v env).bind fun y env1 => match ownAt p env1 with
    | some s => if isM s then (unlockR [p] env1 (evD r k (lockE [p] env1))).bind fun x env2 => (turnS p (putS x y) env2).map fun e => .ok .nx e else none
    | none => none
  | .app p e, env => match ownAt p env with
    | some (.l _ _) => (unlockR [p] env (evD r e (lockE [p] env))).bind fun y env1 => (turnS p (appS y) env1).map fun e => .ok .nx e
    | _ => none
  | .exp e, env => (r.e e env).bind fun _ env' => some (.ok .nx env')
  | .ife c a b, env => (evB r c env).bind fun k env' => if k then r.s a env' else r.s b env'
  | .whl c b, env => whileL (evB r c) (r.s b) cx.wl env
  | .for_ src g b, env => (evT r src env).bind fun ds env' => unlockR (srcP src) env' (forL g (r.s b) ds (lockE (srcP src) env'))
  | .ret e, env => match e with
    | some x => (r.e x env).bind fun s env' => some (.ok (.rt s) env')
    | none => some (.ok (.rt (.d .non)) env)
  | .brk, env => some (.ok .bk env)
  | .rais c, env => some (.exn c env)
  | .try_ b c i h, env => match r.s b env with
    | some (.exn k env') => if k < 11 then (if c == k || c == 0 then match i with
        | some j => match setSlot j (.d (.exc k)) env' with
          | some env1 => match r.s h env1 with
            | some (.ok f env2) => if isDN j env2 then some (.ok f (env2.set j none)) else none
            | _ => none
          | none => none
        | none => r.s h env'
      else some (.exn k env')) else none
    | x => x
  | .frz i, env => match env[i]? with
    | some (some s) => if pinned s then none else match s.toD with
      | some d => some (.ok .nx (env.set i (some (.d d))))
      | none => none
    | _ => none
def stepS : List IS → Env → R Fl
  | [], env => some (.ok .nx env)
  | s :: ss, env => (stepS1 cx r s env).bind fun f env' => match f with
    | .nx => r.s ss env'
    | f => some (.ok f env')
def step : EvR := ⟨stepE cx r, stepS cx r⟩
end
def evN (cx : CX) : Nat → EvR
  | 0 => ⟨fun _ _ => none, fun _ _ => none⟩
  | n + 1 => step cx (evN cx n)
/-- a def's body -/
def bodyR (cx : CX) (n : Nat) (fd : FD) (ss : List S) (pe : Env) : Option COut :=
  if ss.length == fd.np && decide (fd.np ≤ fd.ns) then
    match (evN { cx with ns := fd.ns } n).s fd.body (ss.map some ++ List.replicate (fd.ns - fd.np) none ++ pe) with
    | some (.ok f env) => let as := (List.range fd.np).map fun i => match ss[i]? with
        | some s => if pinned s then ((env[i]?).getD none).getD (.d .non) else s
        | none => .d .non
      match f with
      | .nx => some (.ok (.d .non) as (env.drop fd.ns))
      | .rt s => if fd.ro then some (.ok (unpin s) as (env.drop fd.ns)) else s.toD.map fun d => .ok (.d d) as (env.drop fd.ns)
      | .bk => none
    | some (.exn c env) => some (.exn c ((List.range fd.np).map fun i => match ss[i]? with
        | some s => if pinned s then ((env[i]?).getD none).getD (.d .non) else s
        | none => .d .non) (env.drop fd.ns))
    | none => none
  else none
/-- calls k deep -/
def evCall (tab : Nat → Option FD) (n wl : Nat) : Nat → Call
  | 0, _, _, _, _ => none
  | k + 1, f, ss, lams, pe => match tab f with
    | some fd => bodyR ⟨evCall tab n wl k, lams, fd.ns, wl⟩ n fd ss pe
    | none => none
end EV

set_option maxRecDepth 100000
set_option maxHeartbeats 1000000
/-! How the evaluator's data and slots stand in the heap. -/
namespace EV
open PySem PySem.Spec PyProof.Rows L2 LamX
/-- what the names stand for -/
structure Wd where
  P : Program
  w : World
  K : PySem.W.Frag
  cls : Nat → Addr
  exc : Nat → Addr
  fnA : Nat → Addr
  fld : Nat → List Str
  T : List (Addr × Str)
  xs : Bool
/-! ### keys -/
mutual
def nkOf : D → Option NestedKey
  | .non => some .none
  | .bl b => some (.num (if b = true then 1 else 0))
  | .int i => some (.num i)
  | .str s => some (.text ⟨s.toArray⟩)
  | .tup xs => (nksOf xs).map .tup
  | _ => none
def nksOf : List D → Option (List NestedKey)
  | [] => some []
  | x :: xs => match nkOf x, nksOf xs with
    | some a, some b => some (a :: b)
    | _, _ => none
end
/-- an entry of a dict with tuple keys: the key, where its tuple stands, the value -/
abbrev Ent := NestedKey × Addr × V
def DtAt (W : Wd) (a : Addr) (es : List Ent) (h : Heap) : Prop :=
  ∃ (o : Obj) (ens : Array DictEntry) (ep : Nat) (xs : List (NestedKey × Addr × Value)), h.get? a = some o ∧ o.ExactDict ∧ o.data = .dict ens ep ∧
    ens.toList = xs.map (entryOfKey (nestedKind W.P W.w)) ∧ (xs.map (·.1)).Nodup ∧ Paired (fun (e : Ent) (x : NestedKey × Addr × Value) => e.1 = x.1 ∧ e.2.1 = x.2.1 ∧ RelV e.2.2 x.2.2) es xs
def dtO (W : Wd) (a : Addr) (es : List Ent) : HO := .ext (DtAt W a es)
def keyD : D → Option Key
  | .int i => some (.inl i)
  | .str s => some (.inr ⟨s.toArray⟩)
  | _ => none
/-! ### data -/
mutual
inductive Rep (W : Wd) (G : Hp) : D → V → Prop
  | non : Rep W G .non .non
  | bl (b : Bool) : Rep W G (.bl b) (.bl b)
  | int (i : Int) : Rep W G (.int i) (.int i)
  | str (s : List Nat) : Rep W G (.str s) (.str ⟨s.toArray⟩)
  | tup {a : Addr} {xs : List D} {vs : List V} : G a = some (.tup vs) → Reps W G xs vs → Rep W G (.tup xs) (.ref a)
  | lst {a : Addr} {xs : List D} {vs : List V} : G a = some (.lst vs) → Reps W G xs vs → Rep W G (.lst xs) (.ref a)
  | scr {a : Addr} {ns : List Int} : SqL W.K G a (ns.map V.int) → Rep W G (.scr ns) (.ref a)
  | dctK {a : Addr} {ks ds : List D} {kvs : List (Key × V)} : G a = some (.dK kvs) → ks.map keyD = kvs.map (fun p => some p.1) → Reps W G ds (kvs.map (·.2)) → Rep W G (.dct ks ds) (.ref a)
  | dctT {a : Addr} {ks ds : List D} {es : List Ent} : G a = some (dtO W a es) → ks ≠ [] → ks.map nkOf = es.map (fun e => some e.1) → Reps W G ks (es.map fun e => .ref e.2.1) → Reps W G ds (es.map (·.2.2)) → Rep W G (.dct ks ds) (.ref a)
  | set {a : Addr} {xs : List Int} : G a = some (.set (fun i => xs.contains i) xs.length) → Rep W G (.set xs) (.ref a)
  | obj {a dx : Addr} {c : Nat} {fs : List D} {vs : List V} : G a = some (.ins (W.cls c) dx ((W.fld c).zip vs)) → vs.length ≤ (W.fld c).length → Reps W G fs vs → Rep W G (.obj c fs) (.ref a)
  | exc {a : Addr} {c : Nat} : W.xs = true → c < 11 → G a = some (.ext fun h => ∃ (oe : Obj) (vs : Array Value), h.get? a = some oe ∧ Zc (.ref (W.exc c)) none oe ∧ oe.data = .fields vs) → Rep W G (.exc c) (.ref a)
  | fnr (f : Nat) : PySem.W.keepIn W.K (.ref (W.fnA f)) = true → Rep W G (.fnr f) (.ref (W.fnA f))
inductive Reps (W : Wd) (G : Hp) : List D → List V → Prop
  | nil : Reps W G [] []
  | cons {d : D} {v : V} {ds : List D} {vs : List V} : Rep W G d v → Reps W G ds vs → Reps W G (d :: ds) (v :: vs)
end
theorem notTbl_lst {xs : List V} (ps : Array Value) : HO.lst xs ≠ .tbl ps := fun z => by cases z
theorem sqL_ext {K : PySem.W.Frag} {G G' : Hp} {a : Addr} {vs : List V} (e : ExtN G G') (h : SqL K G a vs) : SqL K G' a vs := by
  rcases h with (h | ⟨o, h⟩) | h
  · exact .inl (.inl (e _ _ h fun _ z => by cases z))
  · exact .inl (.inr ⟨o, e _ _ h fun _ z => by cases z⟩)
  · exact .inr h
theorem sqT_ext {K : PySem.W.Frag} {G G' : Hp} {a : Addr} {vs : List V} (e : ExtN G G') (h : SqT K G a vs) : SqT K G' a vs := by
  rcases h with (h | ⟨o, h⟩) | h
  · exact .inl (.inl (e _ _ h fun _ z => by cases z))
  · exact .inl (.inr ⟨o, e _ _ h fun _ z => by cases z⟩)
  · exact .inr h
mutual
theorem Rep.ext {W : Wd} {G G' : Hp} (e : ExtN G G') : ∀ {d : D} {v : V}, Rep W G d v → Rep W G' d v
  | _, _, .non => .non
  | _, _, .bl b => .bl b
  | _, _, .int i => .int i
  | _, _, .str s => .str s
  | _, _, .tup h r => .tup (e _ _ h fun _ z => by cases z) (Reps.ext e r)
  | _, _, .lst h r => .lst (e _ _ h fun _ z => by cases z) (Reps.ext e r)
  | _, _, .scr h => .scr (sqL_ext e h)
  | _, _, .dctK h k r => .dctK (e _ _ h fun _ z => by cases z) k (Reps.ext e r)
  | _, _, .dctT h n k r1 r => .dctT (e _ _ h fun _ z => by cases z) n k (Reps.ext e r1) (Reps.ext e r)
  | _, _, .set h => .set (e _ _ h fun _ z => by cases z)
  | _, _, .obj h l r => .obj (e _ _ h fun _ z => by cases z) l (Reps.ext e r)
  | _, _, .exc hx hc h => .exc hx hc (e _ _ h fun _ z => by cases z)
  | _, _, .fnr f hk => .fnr f hk
theorem Reps.ext {W : Wd} {G G' : Hp} (e : ExtN G G') : ∀ {ds : List D} {vs : List V}, Reps W G ds vs → Reps W G' ds vs
  | _, _, .nil => .nil
  | _, _, .cons h r => .cons (Rep.ext e h) (Reps.ext e r)
end
theorem Reps.length {W : Wd} {G : Hp} : ∀ {ds : List D} {vs : List V}, Reps W G ds vs → ds.length = vs.length
  | _, _, .nil => rfl
  | _, _, .cons _ r => by simp [Reps.length r]
theorem Reps.get {W : Wd} {G : Hp} : ∀ {ds : List D} {vs : List V} {i : Nat} {d : D}, Reps W G ds vs → ds[i]? = some d → ∃ v, vs[i]? = some v ∧ Rep W G d v
  | _, _, _, _, .nil, h => by simp at h
  | _, _, 0, _, .cons h r, e => by simp at e; subst e; exact ⟨_, rfl, h⟩
  | _, _, i + 1, _, .cons h r, e => by
    obtain ⟨v, h1, h2⟩ := Reps.get (i := i) r (by simpa using e)
    exact ⟨v, by simpa using h1, h2⟩
theorem Reps.getV {W : Wd} {G : Hp} : ∀ {ds : List D} {vs : List V} {i : Nat} {v : V}, Reps W G ds vs → vs[i]? = some v → ∃ d, ds[i]? = some d ∧ Rep W G d v
  | _, _, _, _, .nil, h => by simp at h
  | _, _, 0, _, .cons h r, e => by simp at e; subst e; exact ⟨_, rfl, h⟩
  | _, _, i + 1, _, .cons h r, e => by
    obtain ⟨v, h1, h2⟩ := Reps.getV (i := i) r (by simpa using e)
    exact ⟨v, by simpa using h1, h2⟩
theorem Reps.append {W : Wd} {G : Hp} : ∀ {ds ds' : List D} {vs vs' : List V}, Reps W G ds vs → Reps W G ds' vs' → Reps W G (ds ++ ds') (vs ++ vs')
  | _, _, _, _, .nil, s => s
  | _, _, _, _, .cons h r, s => .cons h (Reps.append r s)
theorem Reps.set {W : Wd} {G : Hp} {d : D} {v : V} (h : Rep W G d v) : ∀ {ds : List D} {vs : List V} (i : Nat), Reps W G ds vs → Reps W G (ds.set i d) (vs.set i v)
  | _, _, _, .nil => .nil
  | _, _, 0, .cons _ r => .cons h r
  | _, _, i + 1, .cons h' r => .cons h' (Reps.set h i r)
theorem Reps.take {W : Wd} {G : Hp} : ∀ {ds : List D} {vs : List V} (n : Nat), Reps W G ds vs → Reps W G (ds.take n) (vs.take n)
  | _, _, 0, _ => .nil
  | _, _, _ + 1, .nil => .nil
  | _, _, n + 1, .cons h r => .cons h (Reps.take n r)
theorem Reps.drop {W : Wd} {G : Hp} : ∀ {ds : List D} {vs : List V} (n : Nat), Reps W G ds vs → Reps W G (ds.drop n) (vs.drop n)
  | _, _, 0, r => r
  | _, _, _ + 1, .nil => .nil
  | _, _, n + 1, .cons h r => Reps.drop n r
theorem Reps.reverse {W : Wd} {G : Hp} : ∀ {ds : List D} {vs : List V}, Reps W G ds vs → Reps W G ds.reverse vs.reverse
  | _, _, .nil => .nil
  | _, _, .cons h r => by rw [List.reverse_cons, List.reverse_cons]; exact Reps.append (Reps.reverse r) (.cons h .nil)
/-! ### slots -/
/-- what is fixed in a stretch of a def's run: the lambdas lent; by slot, what is walked: it stays as it is -/
structure Cz where
  cl : List V
  lk : Nat → Option (S × V × List Addr)
mutual
inductive RepS (W : Wd) (C : List V) (G : Hp) : Hp → S → V → List Addr → Prop
  | d {H : Hp} {x : D} {v : V} : Rep W G x v → RepS W C G H (.d x) v []
  | l {H : Hp} {b : Bool} {a : Addr} {xs : List D} {vs : List V} : H a = some (.lst vs) → Reps W G xs vs → RepS W C G H (.l b xs) (.ref a) [a]
  | mK {H : Hp} {b : Bool} {a : Addr} {ks ds : List D} {kvs : List (Key × V)} : H a = some (.dK kvs) → ks.map keyD = kvs.map (fun p => some p.1) → Reps W G ds (kvs.map (·.2)) → RepS W C G H (.m b ks ds) (.ref a) [a]
  | mT {H : Hp} {b : Bool} {a : Addr} {ks ds : List D} {es : List Ent} : H a = some (dtO W a es) → ks ≠ [] → ks.map nkOf = es.map (fun e => some e.1) → Reps W G ks (es.map fun e => .ref e.2.1) → Reps W G ds (es.map (·.2.2)) → RepS W C G H (.m b ks ds) (.ref a) [a]
  | o {H : Hp} {b : Bool} {a dx : Addr} {c : Nat} {fs : List S} {vs : List V} {As : List Addr} : H a = some (.ins (W.cls c) dx ((W.fld c).zip vs)) → vs.length ≤ (W.fld c).length → RepSs W C G H fs vs As → RepS W C G H (.o b c fs) (.ref a) (a :: As)
  | clo {H : Hp} {j : Nat} {v : V} : C[j]? = some v → RepS W C G H (.clo j) v []
inductive RepSs (W : Wd) (C : List V) (G : Hp) : Hp → List S → List V → List Addr → Prop
  | nil {H : Hp} : RepSs W C G H [] [] []
  | cons {H : Hp} {s : S} {v : V} {A : List Addr} {ss : List S} {vs : List V} {As : List Addr} : RepS W C G H s v A → RepSs W C G H ss vs As → RepSs W C G H (s :: ss) (v :: vs) (A ++ As)
end
mutual
theorem RepS.keep {W : Wd} {C : List V} {G G' : Hp} (e : ExtN G G') : ∀ {H H' : Hp} {s : S} {v : V} {A : List Addr}, RepS W C G H s v A → (∀ a ∈ A, H' a = H a) → RepS W C G' H' s v A
  | _, _, _, _, _, .d h, _ => .d (h.ext e)
  | _, _, _, _, _, .l h r, k => .l ((k _ (by simp)).trans h) (r.ext e)
  | _, _, _, _, _, .mK h q r, k => .mK ((k _ (by simp)).trans h) q (r.ext e)
  | _, _, _, _, _, .mT h n q r1 r, k => .mT ((k _ (by simp)).trans h) n q (r1.ext e) (r.ext e)
  | _, _, _, _, _, .o h l r, k => .o ((k _ (by simp)).trans h) l (RepSs.keep e r fun a ha => k a (List.mem_cons_of_mem _ ha))
  | _, _, _, _, _, .clo h, _ => .clo h
theorem RepSs.keep {W : Wd} {C : List V} {G G' : Hp} (e : ExtN G G') : ∀ {H H' : Hp} {s : List S} {v : List V} {A : List Addr}, RepSs W C G H s v A → (∀ a ∈ A, H' a = H a) → RepSs W C G' H' s v A
  | _, _, _, _, _, .nil, _ => .nil
  | _, _, _, _, _, .cons h r, k => .cons (RepS.keep e h fun a ha => k a (List.mem_append_left _ ha)) (RepSs.keep e r fun a ha => k a (List.mem_append_right _ ha))
end
mutual
/-- frozen: with the addresses now in G' -/
theorem RepS.frz {W : Wd} {C : List V} {G G' : Hp} (e : ExtN G G') : ∀ {H : Hp} {s : S} {v : V} {A : List Addr} {x : D}, RepS W C G H s v A → (∀ a ∈ A, G' a = H a) → s.toD = some x → Rep W G' x v
  | _, _, _, _, _, .d h, _, t => by simp only [S.toD, Option.some.injEq] at t; subst t; exact h.ext e
  | _, _, _, _, _, .l h r, k, t => by simp only [S.toD, Option.some.injEq] at t; subst t; exact .lst ((k _ (by simp)).trans h) (r.ext e)
  | _, _, _, _, _, .mK h q r, k, t => by simp only [S.toD, Option.some.injEq] at t; subst t; exact .dctK ((k _ (by simp)).trans h) q (r.ext e)
  | _, _, _, _, _, .mT h n q r1 r, k, t => by simp only [S.toD, Option.some.injEq] at t; subst t; exact .dctT ((k _ (by simp)).trans h) n q (r1.ext e) (r.ext e)
  | _, _, _, _, _, .o (fs := fs) h l r, k, t => by
    simp only [S.toD] at t
    cases q : S.toDs fs with
    | none => rw [q] at t; cases t
    | some ds =>
      rw [q] at t
      simp only [Option.some.injEq] at t
      subst t
      exact .obj ((k _ (by simp)).trans h) l (RepSs.frz e r (fun a ha => k a (List.mem_cons_of_mem _ ha)) q)
  | _, _, _, _, _, .clo h, _, t => by simp only [S.toD] at t; cases t
theorem RepSs.frz {W : Wd} {C : List V} {G G' : Hp} (e : ExtN G G') : ∀ {H : Hp} {s : List S} {v : List V} {A : List Addr} {x : List D}, RepSs W C G H s v A → (∀ a ∈ A, G' a = H a) → S.toDs s = some x → Reps W G' x v
  | _, _, _, _, _, .nil, _, t => by simp only [S.toDs, Option.some.injEq] at t; subst t; exact .nil
  | _, _, _, _, _, .cons (s := s) (ss := ss) h r, k, t => by
    simp only [S.toDs] at t
    cases q1 : s.toD with
    | none => rw [q1] at t; cases t
    | some d =>
      cases q2 : S.toDs ss with
      | none => rw [q1, q2] at t; cases t
      | some ds =>
        rw [q1, q2] at t
        simp only [Option.some.injEq] at t
        subst t
        exact .cons (RepS.frz e h (fun a ha => k a (List.mem_append_left _ ha)) q1) (RepSs.frz e r (fun a ha => k a (List.mem_append_right _ ha)) q2)
end
mutual
/-- what is one's own is tracked -/
theorem RepS.tracked {W : Wd} {C : List V} {G : Hp} : ∀ {H : Hp} {s : S} {v : V} {A : List Addr}, RepS W C G H s v A → ∀ a ∈ A, ∃ o, H a = some o ∧ ∀ ps, o ≠ .tbl ps
  | _, _, _, _, .d _, a, ha => by simp at ha
  | _, _, _, _, .l h _, a, ha => by simp at ha; subst ha; exact ⟨_, h, fun _ z => by cases z⟩
  | _, _, _, _, .mK h _ _, a, ha => by simp at ha; subst ha; exact ⟨_, h, fun _ z => by cases z⟩
  | _, _, _, _, .mT h _ _ _ _, a, ha => by simp at ha; subst ha; exact ⟨_, h, fun _ z => by cases z⟩
  | _, _, _, _, .o h _ r, a, ha => by
    rcases List.mem_cons.mp ha with e | e
    · subst e; exact ⟨_, h, fun _ z => by cases z⟩
    · exact RepSs.tracked r a e
  | _, _, _, _, .clo _, a, ha => by simp at ha
theorem RepSs.tracked {W : Wd} {C : List V} {G : Hp} : ∀ {H : Hp} {s : List S} {v : List V} {A : List Addr}, RepSs W C G H s v A → ∀ a ∈ A, ∃ o, H a = some o ∧ ∀ ps, o ≠ .tbl ps
  | _, _, _, _, .nil, a, ha => by simp at ha
  | _, _, _, _, .cons h r, a, ha => by
    rcases List.mem_append.mp ha with e | e
    · exact RepS.tracked h a e
    · exact RepSs.tracked r a e
end
/-! ### the frame -/
inductive RepE (W : Wd) (C : Cz) (G H : Hp) : Nat → L2.St → Env → List Addr → Prop
  | nil {i : Nat} : RepE W C G H i [] [] []
  | no {i : Nat} {o : Option V} {σ : L2.St} {env : Env} {A : List Addr} : RepE W C G H (i + 1) σ env A → RepE W C G H i (o :: σ) (none :: env) A
  | yes {i : Nat} {v : V} {s : S} {A0 A : List Addr} {σ : L2.St} {env : Env} : RepS W C.cl G H s v A0 → RepE W C G H (i + 1) σ env A → RepE W C G H i (some v :: σ) (some s :: env) (A0 ++ A)
  | lk {i : Nat} {v : V} {s : S} {A0 A : List Addr} {σ : L2.St} {env : Env} : C.lk i = some (s, v, A0) → RepE W C G H (i + 1) σ env A → RepE W C G H i (some v :: σ) (some (.lk s) :: env) A
inductive RepT (W : Wd) (C : Cz) (G H : Hp) : List (V × S) → List Addr → Prop
  | nil : RepT W C G H [] []
  | cons {v : V} {s : S} {A0 A : List Addr} {t : List (V × S)} : RepS W C.cl G H s v A0 → RepT W C G H t A → RepT W C G H ((v, s) :: t) (A0 ++ A)
theorem RepE.keep {W : Wd} {C : Cz} {G G' H H' : Hp} (e : ExtN G G') : ∀ {i : Nat} {σ : L2.St} {env : Env} {A : List Addr}, RepE W C G H i σ env A → (∀ a ∈ A, H' a = H a) → RepE W C G' H' i σ env A
  | _, _, _, _, .nil, _ => .nil
  | _, _, _, _, .no r, k => .no (RepE.keep e r k)
  | _, _, _, _, .yes h r, k => .yes (h.keep e fun a ha => k a (List.mem_append_left _ ha)) (RepE.keep e r fun a ha => k a (List.mem_append_right _ ha))
  | _, _, _, _, .lk h r, k => .lk h (RepE.keep e r k)
theorem RepT.keep {W : Wd} {C : Cz} {G G' H H' : Hp} (e : ExtN G G') : ∀ {t : List (V × S)} {A : List Addr}, RepT W C G H t A → (∀ a ∈ A, H' a = H a) → RepT W C G' H' t A
  | _, _, .nil, _ => .nil
  | _, _, .cons h r, k => .cons (h.keep e fun a ha => k a (List.mem_append_left _ ha)) (RepT.keep e r fun a ha => k a (List.mem_append_right _ ha))
theorem RepE.tracked {W : Wd} {C : Cz} {G H : Hp} : ∀ {i : Nat} {σ : L2.St} {env : Env} {A : List Addr}, RepE W C G H i σ env A → ∀ a ∈ A, ∃ o, H a = some o ∧ ∀ ps, o ≠ .tbl ps
  | _, _, _, _, .nil, a, ha => by simp at ha
  | _, _, _, _, .no r, a, ha => RepE.tracked r a ha
  | _, _, _, _, .yes h r, a, ha => (List.mem_append.mp ha).elim (fun e => h.tracked a e) fun e => RepE.tracked r a e
  | _, _, _, _, .lk h r, a, ha => RepE.tracked r a ha
theorem RepT.tracked {W : Wd} {C : Cz} {G H : Hp} : ∀ {t : List (V × S)} {A : List Addr}, RepT W C G H t A → ∀ a ∈ A, ∃ o, H a = some o ∧ ∀ ps, o ≠ .tbl ps
  | _, _, .nil, a, ha => by simp at ha
  | _, _, .cons h r, a, ha => (List.mem_append.mp ha).elim (fun e => h.tracked a e) fun e => RepT.tracked r a e
theorem RepE.length {W : Wd} {C : Cz} {G H : Hp} : ∀ {i : Nat} {σ : L2.St} {env : Env} {A : List Addr}, RepE W C G H i σ env A → σ.length = env.length
  | _, _, _, _, .nil => rfl
  | _, _, _, _, .no r => by simp [RepE.length r]
  | _, _, _, _, .yes _ r => by simp [RepE.length r]
  | _, _, _, _, .lk _ r => by simp [RepE.length r]
/-- what stood ahead of the def: H0 the heap, A0 what the caller lent, G0 what is frozen -/
structure Bs where
  H0 : Hp
  A0 : List Addr
  G0 : Hp
  pl : List (Nat × V)
  lk : Nat → Option (S × V × List Addr)
def Frm (H0 : Hp) (A0 : List Addr) (H : Hp) : Prop := ∀ b o, H0 b = some o → b ∉ A0 → (H b = some o ∨ ∃ ps qs, o = .tbl ps ∧ H b = some (.tbl qs))
structure Link (W : Wd) (B : Bs) (C : List V) (n : Nat) (σp : L2.St) (G : Hp) (σ : L2.St) (H : Hp) (env : Env) (tmp : List (V × S)) : Prop where
  reps : ∃ A T, RepE W ⟨C, B.lk⟩ G H 0 (σ ++ σp) env A ∧ RepT W ⟨C, B.lk⟩ G H tmp T ∧ (A ++ T).Nodup ∧ (∀ a ∈ A ++ T, G a = none) ∧ ∀ a ∈ A ++ T, B.H0 a = none ∨ a ∈ B.A0
  sub : ExtN G H
  tabs : Tabs W.T H
  frm : Frm B.H0 B.A0 H
  gnew : ∀ b o, G b = some o → B.G0 b = some o ∨ B.H0 b = none ∨ b ∈ B.A0
  gold : ExtN B.G0 G
  gnt : ∀ b ps, G b ≠ some (.tbl ps)
  len : σ.length = n
  lcs : ∀ i s v A, B.lk i = some (s, v, A) → RepS W C B.G0 B.H0 s v A ∧ ∀ a ∈ A, a ∉ B.A0
  pins : ∀ q ∈ B.pl, (σ ++ σp)[q.1]? = some (some q.2) ∧ ∃ s, env[q.1]? = some (some s) ∧ pinned s = true
section
variable {W : Wd} {B : Bs} {C : List V} {n : Nat} {σp : L2.St} {G G' : Hp} {σ σ' : L2.St} {H H' : Hp} {env env' : Env} {tmp tmp' : List (V × S)}
theorem Link.free (L : Link W B C n σp G σ H env tmp) {p : Addr} (hp : H p = none) : G p = none := by
  cases q : G p with
  | none => rfl
  | some o =>
    have := L.sub p o q fun ps z => L.gnt p ps (by rw [q, z])
    rw [hp] at this; cases this
theorem Link.fresh0 (L : Link W B C n σp G σ H env tmp) {p : Addr} (hp : H p = none) : B.H0 p = none ∨ p ∈ B.A0 := by
  by_cases ha : p ∈ B.A0
  · exact .inr ha
  · cases q : B.H0 p with
    | none => exact .inl rfl
    | some o =>
      rcases L.frm p o q ha with z | ⟨_, _, _, z⟩ <;> rw [hp] at z <;> cases z
/-- what is walked is as it was -/
theorem Link.lkd (L : Link W B C n σp G σ H env tmp) {i : Nat} {s : S} {v : V} {A : List Addr} (h : B.lk i = some (s, v, A)) : RepS W C G H s v A := by
  obtain ⟨h1, h2⟩ := L.lcs i s v A h
  refine h1.keep L.gold fun a ha => ?_
  obtain ⟨o, h3, h4⟩ := h1.tracked a ha
  rcases L.frm a o h3 (h2 a ha) with z | ⟨ps, _, z, _⟩
  · rw [z, h3]
  · exact absurd z (h4 ps)
/-- a step: what is one's own is new or was one's own; the rest stays -/
theorem Link.tr (L : Link W B C n σp G σ H env tmp) {A T : List Addr} (r1 : RepE W ⟨C, B.lk⟩ G H 0 (σ ++ σp) env A) (r2 : RepT W ⟨C, B.lk⟩ G H tmp T) (hb : ∀ a ∈ A ++ T, B.H0 a = none ∨ a ∈ B.A0)
    {A' T' : List Addr} (h1 : RepE W ⟨C, B.lk⟩ G' H' 0 (σ' ++ σp) env' A') (h2 : RepT W ⟨C, B.lk⟩ G' H' tmp' T') (nd : (A' ++ T').Nodup) (gf : ∀ a ∈ A' ++ T', G' a = none) (ho : ∀ a ∈ A' ++ T', a ∈ A ++ T ∨ H a = none)
    (sb : ExtN G' H') (tb : Tabs W.T H') (fr : ∀ b o, H b = some o → b ∉ A ++ T → (H' b = some o ∨ ∃ ps qs, o = .tbl ps ∧ H' b = some (.tbl qs)))
    (gn : ∀ b o, G' b = some o → G b = some o ∨ H b = none ∨ b ∈ A ++ T) (ge : ExtN G G') (gt : ∀ b ps, G' b ≠ some (.tbl ps)) (hl : σ'.length = n)
    (hp : ∀ q ∈ B.pl, (σ' ++ σp)[q.1]? = some (some q.2) ∧ ∃ s, env'[q.1]? = some (some s) ∧ pinned s = true) : Link W B C n σp G' σ' H' env' tmp' where
  reps := ⟨A', T', h1, h2, nd, gf, fun a ha => (ho a ha).elim (fun z => hb a z) fun z => L.fresh0 z⟩
  sub := sb
  tabs := tb
  frm := fun b o e n => by
    by_cases hm : b ∈ A ++ T
    · rcases hb b hm with z | z
      · rw [e] at z; cases z
      · exact absurd z n
    · rcases L.frm b o e n with z | ⟨ps, qs, z1, z2⟩
      · exact fr b o z hm
      · rcases fr b _ z2 hm with y | ⟨ps', qs', y1, y2⟩
        · exact .inr ⟨ps, qs, z1, y⟩
        · exact .inr ⟨ps, qs', z1, y2⟩
  gnew := fun b o e => by
    rcases gn b o e with z | z | z
    · exact L.gnew b o z
    · exact .inr (L.fresh0 z)
    · exact .inr (hb b z)
  gold := L.gold.trans ge
  gnt := gt
  len := hl
  lcs := L.lcs
  pins := hp
theorem extN_upd {H : Hp} {p : Addr} {o : HO} (hp : H p = none) : ExtN H (upd H p o) := fun b u e _ => by rw [upd_ne (ne_of_none e hp)]; exact e
theorem tabs_updN {T : List (Addr × Str)} {H : Hp} {p : Addr} {o : HO} (t : Tabs T H) (hp : H p = none) : Tabs T (upd H p o) := t.ext fun b u e => by rw [upd_ne (ne_of_none e hp)]; exact e
/-- data on top -/
theorem Link.push (L : Link W B C n σp G σ H env tmp) {x : D} {v : V} (r : Rep W G x v) : Link W B C n σp G σ H env ((v, .d x) :: tmp) := by
  obtain ⟨A, T, h1, h2, nd, gf, ho⟩ := L.reps
  exact { L with reps := ⟨A, T, h1, by simpa using RepT.cons (.d r) h2, nd, gf, ho⟩ }
theorem mem_mid {α : Type} {a b c : List α} {x : α} (h : x ∈ a ++ c) : x ∈ a ++ (b ++ c) := by
  simp only [List.mem_append] at h ⊢
  rcases h with h | h
  · exact .inl h
  · exact .inr (.inr h)
theorem nodup_swap {α : Type} {a b c : List α} (h : (a ++ (b ++ c)).Nodup) : (a ++ c).Nodup ∧ (∀ x ∈ b, x ∉ a ++ c) := by
  rw [List.nodup_append] at h
  obtain ⟨h1, h2, h3⟩ := h
  rw [List.nodup_append] at h2
  obtain ⟨h4, h5, h6⟩ := h2
  refine ⟨List.nodup_append.mpr ⟨h1, h5, fun x hx y hy => h3 x hx y (List.mem_append_right _ hy)⟩, fun x hx z => ?_⟩
  rcases List.mem_append.mp z with z | z
  · exact h3 x z x (List.mem_append_left _ hx) rfl
  · exact h6 x hx x z rfl
/-- the top is dropped -/
theorem Link.drop {t : V × S} (L : Link W B C n σp G σ H env (t :: tmp)) : Link W B C n σp G σ H env tmp := by
  obtain ⟨A, T, h1, h2, nd, gf, ho⟩ := L.reps
  cases h2 with
  | cons hs ht =>
    rename_i A0 T0
    have n0 := nodup_swap nd
    exact { L with reps := ⟨A, T0, h1, ht, n0.1, fun a ha => gf a (mem_mid ha), fun a ha => ho a (mem_mid ha)⟩ }
def frzG (G H : Hp) (A : List Addr) : Hp := fun b => if b ∈ A then H b else G b
/-- the top is frozen -/
theorem Link.frz {v : V} {s : S} {x : D} (L : Link W B C n σp G σ H env ((v, s) :: tmp)) (t : s.toD = some x) : ∃ G', ExtN G G' ∧ Link W B C n σp G' σ H env tmp ∧ Rep W G' x v := by
  obtain ⟨A, T, h1, h2, nd, gf, ho⟩ := L.reps
  cases h2 with
  | cons hs ht =>
    rename_i A0 T0
    have n0 := nodup_swap nd
    have ge : ExtN G (frzG G H A0) := fun b o e _ => by
      show (if b ∈ A0 then H b else G b) = some o
      rw [if_neg fun z => by rw [gf b (by simp only [List.mem_append]; exact .inr (.inl z))] at e; cases e]
      exact e
    have at0 : ∀ a ∈ A0, frzG G H A0 a = H a := fun a ha => if_pos ha
    refine ⟨frzG G H A0, ge, L.tr h1 (.cons hs ht) ho (h1.keep ge fun _ _ => rfl) (ht.keep ge fun _ _ => rfl) n0.1 (fun a ha => ?_) (fun a ha => .inl (mem_mid ha)) (fun b o e nt => ?_) L.tabs (fun b o e _ => .inl e) (fun b o e => ?_) ge (fun b ps e => ?_) L.len L.pins, hs.frz ge at0 t⟩
    · show (if a ∈ A0 then H a else G a) = none
      rw [if_neg fun z => n0.2 a z ha]
      exact gf a (mem_mid ha)
    · have e' : (if b ∈ A0 then H b else G b) = some o := e
      by_cases hb : b ∈ A0
      · rw [if_pos hb] at e'; exact e'
      · rw [if_neg hb] at e'; exact L.sub b o e' nt
    · have e' : (if b ∈ A0 then H b else G b) = some o := e
      by_cases hb : b ∈ A0
      · exact .inr (.inr (by simp only [List.mem_append]; exact .inr (.inl hb)))
      · rw [if_neg hb] at e'; exact .inl e'
    · have e' : (if b ∈ A0 then H b else G b) = some (.tbl ps) := e
      by_cases hb : b ∈ A0
      · rw [if_pos hb] at e'
        obtain ⟨o, q1, q2⟩ := hs.tracked b hb
        rw [q1] at e'; exact q2 ps (Option.some.inj e')
      · rw [if_neg hb] at e'; exact L.gnt b ps e'
/-- a new thing that is never written -/
theorem Link.newG (L : Link W B C n σp G σ H env tmp) {p : Addr} {o : HO} (hp : H p = none) (nt : ∀ ps, o ≠ .tbl ps) : Link W B C n σp (upd G p o) σ (upd H p o) env tmp ∧ ExtN G (upd G p o) := by
  obtain ⟨A, T, h1, h2, nd, gf, ho⟩ := L.reps
  have gp := L.free hp
  have ge : ExtN G (upd G p o) := extN_upd gp
  have ne : ∀ a ∈ A ++ T, a ≠ p := fun a ha z => by
    rcases List.mem_append.mp ha with y | y
    · obtain ⟨o', q, _⟩ := h1.tracked a y; rw [z, hp] at q; cases q
    · obtain ⟨o', q, _⟩ := h2.tracked a y; rw [z, hp] at q; cases q
  refine ⟨L.tr h1 h2 ho (h1.keep ge fun a ha => upd_ne (ne a (List.mem_append_left _ ha))) (h2.keep ge fun a ha => upd_ne (ne a (List.mem_append_right _ ha))) nd (fun a ha => by rw [upd_ne (ne a ha)]; exact gf a ha) (fun a ha => .inl ha) (fun b u e nu => ?_) (tabs_updN L.tabs hp) (fun b u e _ => .inl (by rw [upd_ne (ne_of_none e hp)]; exact e)) (fun b u e => ?_) ge (fun b ps e => ?_) L.len L.pins, ge⟩
  · by_cases hb : b = p
    · subst hb; rw [upd_same] at e ⊢; exact e
    · rw [upd_ne hb] at e ⊢; exact L.sub b u e nu
  · by_cases hb : b = p
    · subst hb; exact .inr (.inl hp)
    · rw [upd_ne hb] at e; exact .inl e
  · by_cases hb : b = p
    · subst hb; rw [upd_same] at e; exact nt ps (Option.some.inj e)
    · rw [upd_ne hb] at e; exact L.gnt b ps e
/-- a new thing of one's own, on top -/
theorem Link.newS (L : Link W B C n σp G σ H env tmp) {p : Addr} {o : HO} {s : S} (hp : H p = none) (hs : RepS W C G (upd H p o) s (.ref p) [p]) : Link W B C n σp G σ (upd H p o) env ((.ref p, s) :: tmp) := by
  obtain ⟨A, T, h1, h2, nd, gf, ho⟩ := L.reps
  have gp := L.free hp
  have ne : ∀ a ∈ A ++ T, a ≠ p := fun a ha z => by
    rcases List.mem_append.mp ha with y | y
    · obtain ⟨o', q, _⟩ := h1.tracked a y; rw [z, hp] at q; cases q
    · obtain ⟨o', q, _⟩ := h2.tracked a y; rw [z, hp] at q; cases q
  refine L.tr h1 h2 ho (h1.keep (ExtN.refl G) fun a ha => upd_ne (ne a (List.mem_append_left _ ha))) (.cons hs (h2.keep (ExtN.refl G) fun a ha => upd_ne (ne a (List.mem_append_right _ ha)))) ?_ (fun a ha => ?_) (fun a ha => ?_) (fun b u e nu => ?_) (tabs_updN L.tabs hp) (fun b u e _ => .inl (by rw [upd_ne (ne_of_none e hp)]; exact e)) (fun b u e => .inl e) (ExtN.refl G) L.gnt L.len L.pins
  · rw [List.nodup_append] at nd ⊢
    refine ⟨nd.1, by simpa using ⟨fun z => ne p (List.mem_append_right _ z) rfl, nd.2.1⟩, fun x hx y hy => ?_⟩
    rcases List.mem_append.mp hy with z | z
    · simp at z; subst z; exact ne x (List.mem_append_left _ hx)
    · exact nd.2.2 x hx y z
  · simp only [List.mem_append, List.mem_singleton] at ha
    rcases ha with z | z | z
    · exact gf a (List.mem_append_left _ z)
    · rw [z]; exact gp
    · exact gf a (List.mem_append_right _ z)
  · simp only [List.mem_append, List.mem_singleton] at ha ⊢
    rcases ha with z | z | z
    · exact .inl (.inl z)
    · rw [z]; exact .inr hp
    · exact .inl (.inr z)
  · have e2 := L.sub b u e nu
    rw [upd_ne (ne_of_none e2 hp)]; exact e2
end
end EV

set_option maxRecDepth 100000
set_option maxHeartbeats 1000000
/-! Readings by the evaluator. -/
namespace EV
open PySem PySem.Spec PyProof.Rows L2 LamX
/-- an outcome that is one -/
def Got {α : Type} (x : R α) (k : α → Env → Prop) (ke : Nat → Env → Prop) : Prop := match x with
  | some (.ok a e) => k a e
  | some (.exn c e) => ke c e
  | none => False
theorem Got.bind {α β : Type} {x : R α} {g : α → Env → R β} {k : β → Env → Prop} {ke : Nat → Env → Prop} (h : Got (x.bind g) k ke) : Got x (fun a e => Got (g a e) k ke) ke := by
  cases x with
  | none => exact h
  | some o => cases o <;> exact h
theorem Got.imp {α : Type} {x : R α} {k k' : α → Env → Prop} {ke ke' : Nat → Env → Prop} (h : Got x k ke) (h1 : ∀ a e, k a e → k' a e) (h2 : ∀ c e, ke c e → ke' c e) : Got x k' ke' := by
  cases x with
  | none => exact h
  | some o => cases o with
    | ok a e => exact h1 a e h
    | exn c e => exact h2 c e h
/-- ahead of a piece of code: W what is wanted of exceptions -/
structure Pt where
  W : Wd
  C : List V
  n : Nat
  σp : L2.St
  Wx : WX
section
variable (p : Pt)
/-- from a state: what is to be shown of an outcome -/
def Aft {α : Type} (σ : L2.St) (B : Bs) (G : Hp) (tmp : List (V × S)) (x : R α) (k : α → Env → Hp → Hp → Prop) : Prop :=
  Got x (fun a env' => ∀ G' H', ExtN G G' → Link p.W B p.C p.n p.σp G' σ H' env' tmp → k a env' G' H') fun c env' => ∀ G' H', ExtN G G' → Link p.W B p.C p.n p.σp G' σ H' env' tmp → p.Wx (.ref (p.W.exc c)) none σ H'
/-- the value lies on top -/
def tE (f : Env → R S) : TE := fun σ H Q => ∃ B G env tmp, Link p.W B p.C p.n p.σp G σ H env tmp ∧
  Got (f env) (fun s env' => ∀ v G' H', ExtN G G' → Link p.W B p.C p.n p.σp G' σ H' env' ((v, s) :: tmp) → Q v H') fun c env' => ∀ G' H', ExtN G G' → Link p.W B p.C p.n p.σp G' σ H' env' tmp → p.Wx (.ref (p.W.exc c)) none σ H'
def tD (f : Env → R D) : TE := fun σ H Q => ∃ B G env tmp, Link p.W B p.C p.n p.σp G σ H env tmp ∧
  Got (f env) (fun d env' => ∀ v G' H', ExtN G G' → Link p.W B p.C p.n p.σp G' σ H' env' tmp → Rep p.W G' d v → Q v H') fun c env' => ∀ G' H', ExtN G G' → Link p.W B p.C p.n p.σp G' σ H' env' tmp → p.Wx (.ref (p.W.exc c)) none σ H'
def tDs (f : Env → R (List D)) : TA := fun σ H Q => ∃ B G env tmp, Link p.W B p.C p.n p.σp G σ H env tmp ∧
  Got (f env) (fun d env' => ∀ v G' H', ExtN G G' → Link p.W B p.C p.n p.σp G' σ H' env' tmp → Reps p.W G' d v → Q v H') fun c env' => ∀ G' H', ExtN G G' → Link p.W B p.C p.n p.σp G' σ H' env' tmp → p.Wx (.ref (p.W.exc c)) none σ H'
def tBl (f : Env → R Bool) : TT := fun σ H Q => ∃ B G env tmp, Link p.W B p.C p.n p.σp G σ H env tmp ∧
  Got (f env) (fun b env' => ∀ G' H', ExtN G G' → Link p.W B p.C p.n p.σp G' σ H' env' tmp → Q b H') fun c env' => ∀ G' H', ExtN G G' → Link p.W B p.C p.n p.σp G' σ H' env' tmp → p.Wx (.ref (p.W.exc c)) none σ H'
end
theorem pe_imp {X : Cx} {e : Expr} {t t' : TE} (h : PE X e t) (i : ∀ σ H Q, t' σ H Q → t σ H Q) : PE X e t' := ⟨fun pins s σ H Q I q => h.run pins s σ H Q I (i σ H Q q)⟩
theorem pt_imp {X : Cx} {e : Expr} {t t' : TT} (h : PT X e t) (i : ∀ σ H Q, t' σ H Q → t σ H Q) : PT X e t' := ⟨fun pins s σ H Q I q => h.run pins s σ H Q I (i σ H Q q)⟩
theorem pw_imp {X : Cx} {e : Expr} {t t' : TT} (h : PW X e t) (i : ∀ σ H Q, t' σ H Q → t σ H Q) : PW X e t' := ⟨fun wh pins s σ H Q I q => h.run wh pins s σ H Q I (i σ H Q q)⟩
theorem pa_imp {X : Cx} {e : List Expr} {t t' : TA} (h : PA X e t) (i : ∀ σ H Q, t' σ H Q → t σ H Q) : PA X e t' := ⟨fun pos pins s σ H Q I q => h.run pos pins s σ H Q I (i σ H Q q)⟩
theorem ps_imp {X : Cx} {e : Stmt} {t t' : TS} (h : PS X e t) (i : ∀ D σ H, t' D σ H → t D σ H) : PS X e t' := ⟨fun pins s σ H D I q => h.run pins s σ H D I (i D σ H q)⟩
theorem pss_imp {X : Cx} {e : List Stmt} {t t' : TS} (h : PSs X e t) (i : ∀ D σ H, t' D σ H → t D σ H) : PSs X e t' := ⟨fun pins s σ H D I q => h.run pins s σ H D I (i D σ H q)⟩
section
variable {p : Pt} {X : Cx} {e : Expr} {f : Env → R S}
/-- a value, frozen -/
theorem pe_D {r : EvR} {x : IE} (h : PE X e (tE p (r.e x))) : PE X e (tD p (evD r x)) := by
  refine pe_imp h fun σ H Q q => ?_
  obtain ⟨B, G, env, tmp, L, q⟩ := q
  refine ⟨B, G, env, tmp, L, ?_⟩
  have q := Got.bind (show Got ((r.e x env).bind _) _ _ from q)
  refine q.imp (fun s env' q v G' H' e1 L1 => ?_) fun c env' q => q
  cases t : s.toD with
  | none => rw [t] at q; exact q.elim
  | some d =>
    rw [t] at q
    obtain ⟨G2, e2, L2, r2⟩ := L1.frz t
    exact q v G2 H' (e1.trans e2) L2 r2
/-- data as a value -/
theorem pe_ofD {g : Env → R D} (h : PE X e (tD p g)) (hf : ∀ env, f env = (g env).bind fun d env' => some (.ok (.d d) env')) : PE X e (tE p f) := by
  refine pe_imp h fun σ H Q q => ?_
  obtain ⟨B, G, env, tmp, L, q⟩ := q
  refine ⟨B, G, env, tmp, L, ?_⟩
  rw [hf] at q
  refine q.bind.imp (fun d env' q v G' H' e1 L1 r1 => ?_) fun c env' q => q
  exact q v G' H' e1 (L1.push r1)
/-- a bool wanted of a value -/
theorem tBl_tE {r : EvR} {x : IE} {σ : L2.St} {H : Hp} {Q : Bool → Hp → Prop} (q : tBl p (evB r x) σ H Q) : tE p (r.e x) σ H fun v H' => ∃ k, v = .bl k ∧ Q k H' := by
  obtain ⟨B, G, env, tmp, L, q⟩ := q
  refine ⟨B, G, env, tmp, L, ?_⟩
  have q := Got.bind (show Got ((r.e x env).bind _) _ _ from q)
  refine q.imp (fun s env' q v G' H' e1 L1 => ?_) fun c env' q => q
  cases t : boolOf s with
  | none => rw [t] at q; exact q.elim
  | some b =>
    rw [t] at q
    have es : s = .d (.bl b) := by
      unfold boolOf at t
      split at t
      · simp at t; subst t; rfl
      · cases t
    subst es
    have q' := q G' H' e1 L1.drop
    obtain ⟨A, T, h1, h2, _⟩ := L1.reps
    cases h2 with
    | cons hs ht =>
      cases hs with
      | d hr => cases hr; exact ⟨b, rfl, q'⟩
theorem pt_D {r : EvR} {x : IE} (h : PE X e (tE p (r.e x))) (he : ∀ whole, isTrue e X.env whole = (do let v ← whole; standAt e.pos; holding [v] (truthy v))) : PT X e (tBl p (evB r x)) := pt_imp (pt_val h he) fun σ H Q q => tBl_tE q
end
theorem Reps.ext' {W : Wd} {G G' : Hp} {ds : List D} {vs : List V} (r : Reps W G ds vs) (e : ExtN G G') : Reps W G' ds vs := Reps.ext e r
section
variable {p : Pt} {X : Cx} {e : Expr} {es : List Expr} {r : EvR}
theorem pa_Dnil : PA X [] (tDs p (evDs r [])) := by
  refine pa_imp pa_nil fun σ H Q q => ?_
  obtain ⟨B, G, env, tmp, L, q⟩ := q
  exact q [] G H (ExtN.refl G) L .nil
theorem pa_Dcons {x : IE} {xs : List IE} (h : PE X e (tE p (r.e x))) (hs : PA X es (tDs p (evDs r xs))) (hst : starEach (e :: es) X.env = (false, eval e X.env) :: starEach es X.env) : PA X (e :: es) (tDs p (evDs r (x :: xs))) := by
  refine pa_imp (pa_cons (pe_D h) hs hst) fun σ H Q q => ?_
  obtain ⟨B, G, env, tmp, L, q⟩ := q
  refine ⟨B, G, env, tmp, L, ?_⟩
  have q := Got.bind (show Got ((evD r x env).bind _) _ _ from q)
  refine q.imp (fun d env' q v G' H' e1 L1 r1 => ?_) fun c env' q => q
  refine ⟨B, G', env', tmp, L1, ?_⟩
  refine q.bind.imp (fun ds env2 q vs G2 H2 e2 L2 r2 => ?_) fun c env2 q G2 H2 e2 L2 => q G2 H2 (e1.trans e2) L2
  exact q (v :: vs) G2 H2 (e1.trans e2) L2 (.cons (r1.ext e2) r2)
end
end EV

set_option maxRecDepth 100000
set_option maxHeartbeats 1000000
/-! Operands. -/
namespace EV
open PySem PySem.Spec PyProof.Rows L2 LamX
theorem RepS.unR {W : Wd} {C : List V} {G H : Hp} {s : S} {v : V} {A : List Addr} (h : RepS W C G H s v A) : RepS W C G H s.un v A := by
  cases h with
  | d h3 => exact .d h3
  | l h3 h4 => exact .l h3 h4
  | mK h3 h4 h5 => exact .mK h3 h4 h5
  | mT h3 h4 h5 h6 h7 => exact .mT h3 h4 h5 h6 h7
  | o h3 h4 h5 => exact .o h3 h4 h5
  | clo h3 => exact .clo h3
/-- a slot that holds something -/
theorem RepE.get {W : Wd} {C : Cz} {G H : Hp} (hl : ∀ i s v A, C.lk i = some (s, v, A) → RepS W C.cl G H s v A) : ∀ {j : Nat} {σ : L2.St} {env : Env} {A : List Addr} {i : Nat} {s : S}, RepE W C G H j σ env A → env[i]? = some (some s) → ∃ v A0, σ[i]? = some (some v) ∧ RepS W C.cl G H s.un v A0
  | _, _, _, _, _, _, .nil, h => by simp at h
  | _, _, _, _, 0, _, .no r, h => by simp at h
  | _, _, _, _, 0, _, .yes hs r, h => by
    simp at h; subst h
    exact ⟨_, _, rfl, hs.unR⟩
  | _, _, _, _, 0, _, .lk h1 r, h => by
    simp at h; subst h
    exact ⟨_, _, rfl, hl _ _ _ _ h1⟩
  | _, _, _, _, i + 1, _, .no r, h => by
    obtain ⟨v, A0, h1, h2⟩ := RepE.get hl (i := i) r (by simpa using h)
    exact ⟨v, A0, by simpa using h1, h2⟩
  | _, _, _, _, i + 1, _, .yes hs r, h => by
    obtain ⟨v, A0, h1, h2⟩ := RepE.get hl (i := i) r (by simpa using h)
    exact ⟨v, A0, by simpa using h1, h2⟩
  | _, _, _, _, i + 1, _, .lk h0 r, h => by
    obtain ⟨v, A0, h1, h2⟩ := RepE.get hl (i := i) r (by simpa using h)
    exact ⟨v, A0, by simpa using h1, h2⟩
/-- what may be read: frozen, or one's own with frozen contents -/
def RR (W : Wd) (C : List V) (G H : Hp) (d : D) (v : V) : Prop := Rep W G d v ∨ ∃ s A, RepS W C G H s v A ∧ s.toD = some d
inductive RRs (W : Wd) (C : List V) (G H : Hp) : List D → List V → Prop
  | nil : RRs W C G H [] []
  | cons {d : D} {v : V} {ds : List D} {vs : List V} : RR W C G H d v → RRs W C G H ds vs → RRs W C G H (d :: ds) (v :: vs)
section
variable {W : Wd} {C : List V} {G H : Hp} {v : V}
theorem toD_d {s : S} {d : D} (t : s.toD = some d) (h : ∀ b xs, s ≠ .l b xs) (h2 : ∀ b k x, s ≠ .m b k x) (h3 : ∀ b c x, s ≠ .o b c x) : s = .d d := by
  cases s with
  | d x => simp only [S.toD, Option.some.injEq] at t; rw [t]
  | l b xs => exact absurd rfl (h b xs)
  | m b k x => exact absurd rfl (h2 b k x)
  | o b c x => exact absurd rfl (h3 b c x)
  | clo j => simp [S.toD] at t
  | lk s => simp [S.toD] at t
theorem RR.lst {xs : List D} (h : RR W C G H (.lst xs) v) (e : ExtN G H) : ∃ a vs, v = .ref a ∧ H a = some (.lst vs) ∧ Reps W G xs vs := by
  rcases h with h | ⟨s, A, h, t⟩
  · cases h with
    | lst h r => exact ⟨_, _, rfl, e _ _ h fun _ z => (by cases z), r⟩
  · cases h with
    | d h => simp only [S.toD, Option.some.injEq] at t; subst t; cases h with
      | lst h r => exact ⟨_, _, rfl, e _ _ h fun _ z => (by cases z), r⟩
    | l h r => simp only [S.toD, Option.some.injEq] at t; cases t; exact ⟨_, _, rfl, h, r⟩
    | mK => simp [S.toD] at t
    | mT => simp [S.toD] at t
    | o => simp only [S.toD] at t; split at t <;> cases t
    | clo => simp [S.toD] at t
/-- what is no list, dict, object of one's own is frozen -/
theorem RR.rep {d : D} (h : RR W C G H d v) (h1 : ∀ xs, d ≠ .lst xs) (h2 : ∀ k x, d ≠ .dct k x) (h3 : ∀ c x, d ≠ .obj c x) : Rep W G d v := by
  rcases h with h | ⟨s, A, h, t⟩
  · exact h
  · cases h with
    | d h => simp only [S.toD, Option.some.injEq] at t; subst t; exact h
    | l h r => simp only [S.toD, Option.some.injEq] at t; exact absurd t.symm (h1 _)
    | mK => simp only [S.toD, Option.some.injEq] at t; exact absurd t.symm (h2 _ _)
    | mT => simp only [S.toD, Option.some.injEq] at t; exact absurd t.symm (h2 _ _)
    | o => simp only [S.toD] at t; split at t
           · simp only [Option.some.injEq] at t; exact absurd t.symm (h3 _ _)
           · cases t
    | clo => simp [S.toD] at t
theorem RR.int {i : Int} (h : RR W C G H (.int i) v) : v = .int i := by
  cases h.rep (fun _ => by simp) (fun _ _ => by simp) (fun _ _ => by simp); rfl
theorem RR.bl {i : Bool} (h : RR W C G H (.bl i) v) : v = .bl i := by
  cases h.rep (fun _ => by simp) (fun _ _ => by simp) (fun _ _ => by simp); rfl
theorem RR.str {i : List Nat} (h : RR W C G H (.str i) v) : v = .str ⟨i.toArray⟩ := by
  cases h.rep (fun _ => by simp) (fun _ _ => by simp) (fun _ _ => by simp); rfl
theorem RR.non (h : RR W C G H .non v) : v = .non := by
  cases h.rep (fun _ => by simp) (fun _ _ => by simp) (fun _ _ => by simp); rfl
theorem RR.tup {xs : List D} (h : RR W C G H (.tup xs) v) (e : ExtN G H) : ∃ a vs, v = .ref a ∧ H a = some (.tup vs) ∧ Reps W G xs vs := by
  cases h.rep (fun _ => by simp) (fun _ _ => by simp) (fun _ _ => by simp) with
  | tup h1 r => exact ⟨_, _, rfl, e _ _ h1 fun _ z => (by cases z), r⟩
theorem RR.scr {xs : List Int} (h : RR W C G H (.scr xs) v) (e : ExtN G H) : ∃ a, v = .ref a ∧ SqL W.K H a (xs.map V.int) := by
  cases h.rep (fun _ => by simp) (fun _ _ => by simp) (fun _ _ => by simp) with
  | scr h1 => exact ⟨_, rfl, sqL_ext e h1⟩
theorem RR.set {xs : List Int} (h : RR W C G H (.set xs) v) (e : ExtN G H) : ∃ a, v = .ref a ∧ H a = some (.set (fun i => xs.contains i) xs.length) := by
  cases h.rep (fun _ => by simp) (fun _ _ => by simp) (fun _ _ => by simp) with
  | set h1 => exact ⟨_, rfl, e _ _ h1 fun _ z => (by cases z)⟩
theorem RR.dct {ks ds : List D} (h : RR W C G H (.dct ks ds) v) (e : ExtN G H) : ∃ a, v = .ref a ∧
    ((∃ kvs, H a = some (.dK kvs) ∧ ks.map keyD = kvs.map (fun p => some p.1) ∧ Reps W G ds (kvs.map (·.2))) ∨
      ∃ es : List Ent, H a = some (dtO W a es) ∧ ks ≠ [] ∧ ks.map nkOf = es.map (fun e => some e.1) ∧ Reps W G ks (es.map fun e => .ref e.2.1) ∧ Reps W G ds (es.map (·.2.2))) := by
  have fro : Rep W G (.dct ks ds) v → ∃ a, v = .ref a ∧
    ((∃ kvs, H a = some (.dK kvs) ∧ ks.map keyD = kvs.map (fun p => some p.1) ∧ Reps W G ds (kvs.map (·.2))) ∨
      ∃ es : List Ent, H a = some (dtO W a es) ∧ ks ≠ [] ∧ ks.map nkOf = es.map (fun e => some e.1) ∧ Reps W G ks (es.map fun e => .ref e.2.1) ∧ Reps W G ds (es.map (·.2.2))) := fun h => by
    cases h with
    | dctK h1 k r => exact ⟨_, rfl, .inl ⟨_, e _ _ h1 fun _ z => (by cases z), k, r⟩⟩
    | dctT h1 n k r1 r => exact ⟨_, rfl, .inr ⟨_, e _ _ h1 fun _ z => (by cases z), n, k, r1, r⟩⟩
  rcases h with h | ⟨s, A, h, t⟩
  · exact fro h
  · cases h with
    | d h => simp only [S.toD, Option.some.injEq] at t; subst t; exact fro h
    | l h r => simp [S.toD] at t
    | mK h k r => simp only [S.toD, Option.some.injEq, D.dct.injEq] at t; obtain ⟨rfl, rfl⟩ := t; exact ⟨_, rfl, .inl ⟨_, h, k, r⟩⟩
    | mT h n k r1 r => simp only [S.toD, Option.some.injEq, D.dct.injEq] at t; obtain ⟨rfl, rfl⟩ := t; exact ⟨_, rfl, .inr ⟨_, h, n, k, r1, r⟩⟩
    | o => simp only [S.toD] at t; split at t <;> cases t
    | clo => simp [S.toD] at t
end
/-- operands, first reckoned -/
def Rel1 (W : Wd) (σ : L2.St) (G : Hp) : Sum D Plc → V → Prop
  | .inl d, v => Rep W G d v
  | .inr (.s i), v => σ[i]? = some (some v)
  | .inr (.f _ _ _), _ => False
inductive Rels1 (W : Wd) (σ : L2.St) (G : Hp) : List (Sum D Plc) → List V → Prop
  | nil : Rels1 W σ G [] []
  | cons {d : Sum D Plc} {v : V} {ds : List (Sum D Plc)} {vs : List V} : Rel1 W σ G d v → Rels1 W σ G ds vs → Rels1 W σ G (d :: ds) (v :: vs)
theorem Rel1.ext {W : Wd} {σ : L2.St} {G G' : Hp} {d : Sum D Plc} {v : V} (e : ExtN G G') (h : Rel1 W σ G d v) : Rel1 W σ G' d v := by
  cases d with
  | inl d => exact Rep.ext e h
  | inr q => cases q <;> exact h
section
variable {p : Pt} {X : Cx} {B : Bs} {G : Hp} {σ : L2.St} {H : Hp} {env : Env} {tmp : List (V × S)}
theorem Link.getU {W : Wd} {B : Bs} {C : List V} {n : Nat} {σp : L2.St} {G : Hp} {σ : L2.St} {H : Hp} {env : Env} {tmp : List (V × S)} (L : Link W B C n σp G σ H env tmp) {i : Nat} {s : S} (h : env[i]? = some (some s)) (hi : i < n) : ∃ v A0, σ[i]? = some (some v) ∧ RepS W C G H s.un v A0 := by
  obtain ⟨A, T, h1, _⟩ := L.reps
  obtain ⟨v, A0, h2, h3⟩ := h1.get (fun i s v A h => L.lkd h) h
  rw [List.getElem?_append_left (by rw [L.len]; exact hi)] at h2
  exact ⟨v, A0, h2, h3⟩
theorem fill_ok (L : Link p.W B p.C p.n p.σp G σ H env tmp) : ∀ {l : List (Sum D Plc)} {vs : List V} {ds : List D}, Rels1 p.W σ G l vs → fillO env l = some ds → RRs p.W p.C G H ds vs
  | _, _, _, .nil, h => by simp only [fillO, Option.some.injEq] at h; subst h; exact .nil
  | .inl d :: l, _, _, .cons h1 h2, h => by
    simp only [fillO] at h
    cases q : fillO env l with
    | none => rw [q] at h; cases h
    | some ds' =>
      rw [q] at h
      simp only [Option.some.injEq] at h
      subst h
      exact .cons (.inl h1) (fill_ok L h2 q)
  | .inr (.s i) :: l, v :: _, _, .cons h1 h2, h => by
    simp only [fillO, peekS] at h
    have h1 : σ[i]? = some (some v) := h1
    cases q1 : env[i]? with
    | none => rw [q1] at h; cases h
    | some o =>
      cases o with
      | none => rw [q1] at h; cases h
      | some s =>
        rw [q1] at h
        simp only at h
        cases q2 : s.un.toD with
        | none => rw [q2] at h; cases h
        | some d =>
          cases q3 : fillO env l with
          | none => rw [q2, q3] at h; cases h
          | some ds' =>
            rw [q2, q3] at h
            simp only [Option.some.injEq] at h
            subst h
            have hi : i < p.n := by rw [← L.len]; exact (List.getElem?_eq_some_iff.mp h1).1
            obtain ⟨v', A0, h3, h4⟩ := L.getU q1 hi
            rw [h1] at h3
            cases h3
            exact .cons (.inr ⟨s.un, A0, h4, q2⟩) (fill_ok L h2 q3)
  | .inr (.f _ _ _) :: l, _, _, .cons h1 h2, h => h1.elim
end
section
variable (p : Pt)
def tP (f : Env → R (Sum D Plc)) : TE := fun σ H Q => ∃ B G env tmp, Link p.W B p.C p.n p.σp G σ H env tmp ∧
  Got (f env) (fun d env' => ∀ v G' H', ExtN G G' → Link p.W B p.C p.n p.σp G' σ H' env' tmp → Rel1 p.W σ G' d v → Q v H') fun c env' => ∀ G' H', ExtN G G' → Link p.W B p.C p.n p.σp G' σ H' env' tmp → p.Wx (.ref (p.W.exc c)) none σ H'
def tPs (f : Env → R (List (Sum D Plc))) : TA := fun σ H Q => ∃ B G env tmp, Link p.W B p.C p.n p.σp G σ H env tmp ∧
  Got (f env) (fun d env' => ∀ v G' H', ExtN G G' → Link p.W B p.C p.n p.σp G' σ H' env' tmp → Rels1 p.W σ G' d v → Q v H') fun c env' => ∀ G' H', ExtN G G' → Link p.W B p.C p.n p.σp G' σ H' env' tmp → p.Wx (.ref (p.W.exc c)) none σ H'
/-- the operands as data -/
def tO (f : Env → R (List D)) : TA := fun σ H Q => ∃ B G env tmp, Link p.W B p.C p.n p.σp G σ H env tmp ∧
  Got (f env) (fun d env' => ∀ v G' H', ExtN G G' → Link p.W B p.C p.n p.σp G' σ H' env' tmp → RRs p.W p.C G' H' d v → Q v H') fun c env' => ∀ G' H', ExtN G G' → Link p.W B p.C p.n p.σp G' σ H' env' tmp → p.Wx (.ref (p.W.exc c)) none σ H'
end
section
variable {p : Pt} {X : Cx} {e e2 : Expr} {es : List Expr} {r : EvR}
theorem pe_P {x : IE} (h : PE X e (tE p (r.e x))) : PE X e (tP p (evP r (.e x))) := by
  refine pe_imp (pe_D h) fun σ H Q q => ?_
  obtain ⟨B, G, env, tmp, L, q⟩ := q
  refine ⟨B, G, env, tmp, L, ?_⟩
  have q := Got.bind (show Got ((evD r x env).bind _) _ _ from q)
  exact q.imp (fun d env' q v G' H' e1 L1 r1 => q v G' H' e1 L1 r1) fun c env' q => q
theorem pe_Pv {i : Nat} {x : Str} {pos : Pos} (hN : X.N[i]? = some x) (hv : Vis X.env.scope x) (hi : i < p.n) (hd : (x == ("__debug__" : Str)) = false) (hcd : (x == ("__classdict__" : Str)) = false) : PE X (.Name x pos) (tP p (evP r (.p (.s i)))) := by
  refine pe_imp (pe_var hN hv hd hcd) fun σ H Q q => ?_
  obtain ⟨B, G, env, tmp, L, q⟩ := q
  simp only [evP, peekS] at q
  cases q1 : env[i]? with
  | none => rw [q1] at q; exact q.elim
  | some o =>
    cases o with
    | none => rw [q1] at q; exact q.elim
    | some s =>
      rw [q1] at q
      obtain ⟨v, A0, h2, h3⟩ := L.getU q1 hi
      exact ⟨v, h2, q v G H (ExtN.refl G) L h2⟩
theorem rel1_f {W : Wd} {σ : L2.St} {G : Hp} {d : Sum D Plc} {v : V} (h : Rel1 W σ G d v) : fPlc d = [] := by
  cases d with
  | inl d => rfl
  | inr q => cases q with
    | s i => rfl
    | f i c j => exact h.elim
theorem unlockR_nil {α : Type} {e0 : Env} {x : R α} : unlockR [] e0 x = x := by
  cases x with
  | none => rfl
  | some o => cases o <;> rfl
theorem got_rest {β : Type} {r : EvR} {d : Sum D Plc} {e0 : Env} {os : List Opd} {f : List (Sum D Plc) → Env → R β} {k : β → Env → Prop} {ke : Nat → Env → Prop} (h : fPlc d = []) (q : Got ((unlockR (fPlc d) e0 (evO1 r os (lockE (fPlc d) e0))).bind f) k ke) : Got (evO1 r os e0) (fun a e => Got (f a e) k ke) ke := by
  have q := Got.bind q
  rw [h, unlockR_nil] at q
  exact q
theorem pa_Pnil : PA X [] (tPs p (evO1 r [])) := by
  refine pa_imp pa_nil fun σ H Q q => ?_
  obtain ⟨B, G, env, tmp, L, q⟩ := q
  exact q [] G H (ExtN.refl G) L .nil
theorem pa_Pcons {o : Opd} {os : List Opd} (h : PE X e (tP p (evP r o))) (hs : PA X es (tPs p (evO1 r os))) (hst : starEach (e :: es) X.env = (false, eval e X.env) :: starEach es X.env) : PA X (e :: es) (tPs p (evO1 r (o :: os))) := by
  refine pa_imp (pa_cons h hs hst) fun σ H Q q => ?_
  obtain ⟨B, G, env, tmp, L, q⟩ := q
  refine ⟨B, G, env, tmp, L, ?_⟩
  have q := Got.bind (show Got ((evP r o env).bind _) _ _ from q)
  refine q.imp (fun d env' q v G' H' e1 L1 r1 => ?_) fun c env' q => q
  refine ⟨B, G', env', tmp, L1, ?_⟩
  have q := Got.bind (show Got ((unlockR (fPlc d) env' (evO1 r os (lockE (fPlc d) env'))).bind _) _ _ from q)
  rw [rel1_f r1, unlockR_nil] at q
  have q : Got (evO1 r os env') _ _ := q
  refine q.imp (fun ds env2 q vs G2 H2 e2 L2 r2 => ?_) fun c env2 q G2 H2 e2 L2 => q G2 H2 (e1.trans e2) L2
  exact q (v :: vs) G2 H2 (e1.trans e2) L2 (.cons (r1.ext e2) r2)
theorem pa_O {os : List Opd} (h : PA X es (tPs p (evO1 r os))) : PA X es (tO p (evOs r os)) := by
  refine pa_imp h fun σ H Q q => ?_
  obtain ⟨B, G, env, tmp, L, q⟩ := q
  refine ⟨B, G, env, tmp, L, ?_⟩
  have q := Got.bind (show Got ((evO1 r os env).bind _) _ _ from q)
  refine q.imp (fun l env' q vs G' H' e1 L1 r1 => ?_) fun c env' q => q
  cases t : fillO env' l with
  | none => rw [t] at q; exact q.elim
  | some ds => rw [t] at q; exact q vs G' H' e1 L1 (fill_ok L1 r1 t)
/-- two operands: a tree that asks them from the left -/
theorem two_O {a b : Opd} {R2' : V → V → Hp → Prop} {σ : L2.St} {H : Hp}
    (q : ∃ B G env tmp, Link p.W B p.C p.n p.σp G σ H env tmp ∧ Got (evOs r [a, b] env) (fun ds env' => ∀ x y G' H', ExtN G G' → Link p.W B p.C p.n p.σp G' σ H' env' tmp → RRs p.W p.C G' H' ds [x, y] → R2' x y H') fun c env' => ∀ G' H', ExtN G G' → Link p.W B p.C p.n p.σp G' σ H' env' tmp → p.Wx (.ref (p.W.exc c)) none σ H') :
    tP p (evP r a) σ H fun x H1 => tP p (evP r b) σ H1 fun y H2 => R2' x y H2 := by
  obtain ⟨B, G, env, tmp, L, q⟩ := q
  refine ⟨B, G, env, tmp, L, ?_⟩
  have q := Got.bind (show Got ((evO1 r [a, b] env).bind _) _ _ from q)
  have q := Got.bind (show Got ((evP r a env).bind _) _ _ from q)
  refine q.imp (fun da env1 q x G1 H1 e1 L1 r1 => ?_) fun c env' q => q
  refine ⟨B, G1, env1, tmp, L1, ?_⟩
  have q := Got.bind (show Got ((unlockR (fPlc da) env1 (evO1 r [b] (lockE (fPlc da) env1))).bind _) _ _ from q)
  rw [rel1_f r1, unlockR_nil] at q
  have q : Got (evO1 r [b] env1) _ _ := q
  have q := Got.bind (show Got ((evP r b env1).bind _) _ _ from q)
  refine q.imp (fun db env2 q y G2 H2 e2 L2 r2 => ?_) fun c env2 q G2 H2 e2 L2 => q G2 H2 (e1.trans e2) L2
  have q := Got.bind (show Got ((unlockR (fPlc db) env2 (evO1 r [] (lockE (fPlc db) env2))).bind _) _ _ from q)
  rw [rel1_f r2, unlockR_nil] at q
  have q : Got (match fillO env2 [da, db] with | some ds => some (.ok ds env2) | none => none) _ _ := q
  cases t : fillO env2 [da, db] with
  | none => rw [t] at q; exact q.elim
  | some ds => rw [t] at q; exact q x y G2 H2 (e1.trans e2) L2 (fill_ok L2 (.cons (r1.ext e2) (.cons r2 .nil)) t)
theorem one_O {a : Opd} {R1' : V → Hp → Prop} {σ : L2.St} {H : Hp}
    (q : ∃ B G env tmp, Link p.W B p.C p.n p.σp G σ H env tmp ∧ Got (evOs r [a] env) (fun ds env' => ∀ x G' H', ExtN G G' → Link p.W B p.C p.n p.σp G' σ H' env' tmp → RRs p.W p.C G' H' ds [x] → R1' x H') fun c env' => ∀ G' H', ExtN G G' → Link p.W B p.C p.n p.σp G' σ H' env' tmp → p.Wx (.ref (p.W.exc c)) none σ H') :
    tP p (evP r a) σ H fun x H1 => R1' x H1 := by
  obtain ⟨B, G, env, tmp, L, q⟩ := q
  refine ⟨B, G, env, tmp, L, ?_⟩
  have q := Got.bind (show Got ((evO1 r [a] env).bind _) _ _ from q)
  have q := Got.bind (show Got ((evP r a env).bind _) _ _ from q)
  refine q.imp (fun da env1 q x G1 H1 e1 L1 r1 => ?_) fun c env' q => q
  have q := Got.bind (show Got ((unlockR (fPlc da) env1 (evO1 r [] (lockE (fPlc da) env1))).bind _) _ _ from q)
  rw [rel1_f r1, unlockR_nil] at q
  have q : Got (match fillO env1 [da] with | some ds => some (.ok ds env1) | none => none) _ _ := q
  cases t : fillO env1 [da] with
  | none => rw [t] at q; exact q.elim
  | some ds => rw [t] at q; exact q x G1 H1 e1 L1 (fill_ok L1 (.cons r1 .nil) t)
end
end EV

set_option maxRecDepth 100000
set_option maxHeartbeats 1000000
/-! Primitives: reckoning, comparing. -/
namespace EV
open PySem PySem.Spec PyProof.Rows L2 LamX
/-- what stands behind a primitive's operands -/
def Nxt (p : Pt) (ds : List D) (vs : List V) (so : Option S) (H : Hp) (Q : VK) : Prop :=
  ∃ (B : Bs) (G : Hp) (σ : L2.St) (env : Env) (tmp : List (V × S)) (s : S), Link p.W B p.C p.n p.σp G σ H env tmp ∧ RRs p.W p.C G H ds vs ∧ so = some s ∧ ∀ v G' H', ExtN G G' → Link p.W B p.C p.n p.σp G' σ H' env ((v, s) :: tmp) → Q v H'
def rP (p : Pt) (o : Prim) : R2 := fun x y H Q => ∃ dx dy, Nxt p [dx, dy] [x, y] (prim o [dx, dy]) H Q
def rP1 (p : Pt) (o : Prim) : V → Hp → VK → Prop := fun x H Q => ∃ dx, Nxt p [dx] [x] (prim o [dx]) H Q
def rPs (p : Pt) (o : Prim) : List V → Hp → VK → Prop := fun vs H Q => ∃ ds, Nxt p ds vs (prim o ds) H Q
theorem rr2 {W : Wd} {C : List V} {G H : Hp} {dx dy : D} {x y : V} (h : RRs W C G H [dx, dy] [x, y]) : RR W C G H dx x ∧ RR W C G H dy y := by
  cases h with
  | cons h1 h2 => cases h2 with
    | cons h2 h3 => exact ⟨h1, h2⟩
theorem rr1 {W : Wd} {C : List V} {G H : Hp} {dx : D} {x : V} (h : RRs W C G H [dx] [x]) : RR W C G H dx x := by
  cases h with
  | cons h1 h2 => exact h1
section
variable {p : Pt} {X : Cx} {r : EvR}
/-- two operands -/
theorem im_two {a b : Opd} {o : Prim} {cx : CX} {σ : L2.St} {H : Hp} {Q : VK} (q : tE p (stepE cx r (.prim o [a, b])) σ H Q) : tOp (rP p o) (tP p (evP r a)) (tP p (evP r b)) σ H Q := by
  obtain ⟨B, G, env, tmp, L, q⟩ := q
  refine two_O ⟨B, G, env, tmp, L, ?_⟩
  have q := Got.bind (show Got ((evOs r [a, b] env).bind _) _ _ from q)
  refine q.imp (fun ds env' q x y G' H' e1 L1 rr => ?_) fun c env' q => q
  cases ds with
  | nil => cases rr
  | cons d1 ds =>
    cases ds with
    | nil => cases rr with | cons h1 h2 => cases h2
    | cons d2 ds =>
      cases ds with
      | cons d3 ds => cases rr with | cons h1 h2 => cases h2 with | cons h2 h3 => cases h3
      | nil =>
        cases t : prim o [d1, d2] with
        | none => rw [t] at q; exact q.elim
        | some s =>
          rw [t] at q
          exact ⟨d1, d2, B, G', σ, env', tmp, s, L1, rr, t, fun v G2 H2 e2 L2 => q v G2 H2 (e1.trans e2) L2⟩
theorem pr_two {e : Expr} {a b : Opd} {o : Prim} {cx : CX} (h : PE X e (tOp (rP p o) (tP p (evP r a)) (tP p (evP r b)))) : PE X e (tE p (stepE cx r (.prim o [a, b]))) := pe_imp h fun σ H Q q => im_two q
theorem pr_one {e : Expr} {a : Opd} {o : Prim} {cx : CX} (h : PE X e (tUn (rP1 p o) (tP p (evP r a)))) : PE X e (tE p (stepE cx r (.prim o [a]))) := by
  refine pe_imp h fun σ H Q q => ?_
  obtain ⟨B, G, env, tmp, L, q⟩ := q
  refine one_O ⟨B, G, env, tmp, L, ?_⟩
  have q := Got.bind (show Got ((evOs r [a] env).bind _) _ _ from q)
  refine q.imp (fun ds env' q x G' H' e1 L1 rr => ?_) fun c env' q => q
  cases ds with
  | nil => cases rr
  | cons d1 ds =>
    cases ds with
    | cons d2 ds => cases rr with | cons h1 h2 => cases h2
    | nil =>
        cases t : prim o [d1] with
        | none => rw [t] at q; exact q.elim
        | some s =>
          rw [t] at q
          exact ⟨d1, B, G', σ, env', tmp, s, L1, rr, t, fun v G2 H2 e2 L2 => q v G2 H2 (e1.trans e2) L2⟩
end
section
variable {W : Wd} {B : Bs} {C : List V} {n : Nat} {σp : L2.St} {G H : Hp} {σ : L2.St} {env : Env} {tmp : List (V × S)} {Q : VK}
theorem fin_d {d : D} {v : V} (L : Link W B C n σp G σ H env tmp) (k : ∀ v G' H', ExtN G G' → Link W B C n σp G' σ H' env ((v, .d d) :: tmp) → Q v H') (r : Rep W G d v) : Q v H := k v G H (ExtN.refl G) (L.push r)
theorem fin_l {b : Bool} {ds : List D} {vs : List V} {a : Addr} (L : Link W B C n σp G σ H env tmp) (k : ∀ v G' H', ExtN G G' → Link W B C n σp G' σ H' env ((v, .l b ds) :: tmp) → Q v H') (r : Reps W G ds vs) (ha : H a = none) : Q (.ref a) (upd H a (.lst vs)) :=
  k _ G _ (ExtN.refl G) (L.newS ha (.l upd_same r))
theorem fin_t {ds : List D} {vs : List V} {a : Addr} (L : Link W B C n σp G σ H env tmp) (k : ∀ v G' H', ExtN G G' → Link W B C n σp G' σ H' env ((v, .d (.tup ds)) :: tmp) → Q v H') (r : Reps W G ds vs) (ha : H a = none) : Q (.ref a) (upd H a (.tup vs)) := by
  obtain ⟨L2, e2⟩ := L.newG (o := .tup vs) ha fun _ z => by cases z
  exact k _ _ _ e2 (L2.push (.tup upd_same (r.ext' e2)))
end
theorem opr_imp {X : Cx} {f : Value → Value → Sem Value} {r r' : R2} (h : OpR X f r) (i : ∀ x y H Q, r' x y H Q → r x y H Q) : OpR X f r' := fun pins s σ H x y v u Q I rx ry q => h pins s σ H x y v u Q I rx ry (i _ _ _ _ q)
theorem opr_or {X : Cx} {f : Value → Value → Sem Value} {r r' : R2} (h : OpR X f r) (h' : OpR X f r') : OpR X f (fun x y H Q => r x y H Q ∨ r' x y H Q) := fun pins s σ H x y v u Q I rx ry q => q.elim (fun q => h pins s σ H x y v u Q I rx ry q) fun q => h' pins s σ H x y v u Q I rx ry q
theorem unr_imp {X : Cx} {f : Value → Sem Value} {r r' : V → Hp → VK → Prop} (h : UnR X f r) (i : ∀ x H Q, r' x H Q → r x H Q) : UnR X f r' := fun pins s σ H x v Q I rx q => h pins s σ H x v Q I rx (i _ _ _ q)
theorem nabs_lt {b : Int} {k : Nat} (h : 0 < b) (h1 : b < 2 ^ k) : b.natAbs < 2 ^ k := by
  have e : (((2 : Nat) ^ k : Nat) : Int) = (2 : Int) ^ k := by push_cast; rfl
  rw [← e] at h1
  omega
theorem str_len (a : List Nat) : Str.length ⟨a.toArray⟩ = a.length := by simp [Str.length]
theorem str_app (a b : List Nat) : ((⟨a.toArray⟩ : Str) ++ (⟨b.toArray⟩ : Str)) = ⟨(a ++ b).toArray⟩ := by
  show Str.mk (a.toArray ++ b.toArray) = _
  simp
theorem Reps.nil_iff {W : Wd} {G : Hp} {ds : List D} {vs : List V} (r : Reps W G ds vs) : ds = [] ↔ vs = [] := by
  cases r <;> simp
section
variable {p : Pt} {X : Cx}
theorem opP_add : OpR X (binaryOp .Add) (rP p .add) := by
  refine opr_imp (opr_or op_add (opr_or op_add_str (opr_or op_cat op_catA))) fun x y H Q q => ?_
  obtain ⟨dx, dy, B, G, σ, env, tmp, s, L, rr, h0, k⟩ := q
  obtain ⟨r1, r2⟩ := rr2 rr
  have hs : pAdd [dx, dy] = some s := h0
  clear h0
  unfold pAdd at hs
  split at hs
  · rename_i e; cases e; cases hs
    exact .inl ⟨_, _, r1.int, r2.int, fin_d L k (.int _)⟩
  · rename_i e; cases e
    split at hs
    · cases hs
      rename_i h
      refine .inr (.inl ⟨_, _, r1.str, r2.str, by rw [str_len, str_len]; exact h, ?_⟩)
      rw [str_app]
      exact fin_d L k (.str _)
    · cases hs
  · rename_i e; cases e
    split at hs
    · cases hs
      rename_i h
      obtain ⟨a, vs, e1, h1, q1⟩ := r1.lst L.sub
      obtain ⟨b, ws, e2, h2, q2⟩ := r2.lst L.sub
      exact .inr (.inr (.inl ⟨a, b, vs, ws, e1, e2, h1, h2, by rw [← q1.length, ← q2.length]; exact h, fun a ha => fin_l L k (q1.append q2) ha⟩))
    · cases hs
  · rename_i e; cases e
    split at hs
    · cases hs
      rename_i h
      obtain ⟨a, vs, e1, h1, q1⟩ := r1.tup L.sub
      obtain ⟨b, ws, e2, h2, q2⟩ := r2.tup L.sub
      have hr1 := r1.rep (fun _ => by simp) (fun _ _ => by simp) (fun _ _ => by simp)
      have hr2 := r2.rep (fun _ => by simp) (fun _ _ => by simp) (fun _ _ => by simp)
      refine .inr (.inr (.inr ⟨a, b, vs, ws, e1, e2, .of h1, .of h2, by rw [← q1.length, ← q2.length]; exact h, fun z => ?_, fun z z' => ?_, fun z z' a ha => fin_t L k (q1.append q2) ha⟩))
      · have z1 := q1.nil_iff.mpr z
        subst z1
        rw [e2] at hr2
        exact fin_d L k hr2
      · have z1 := q2.nil_iff.mpr z'
        subst z1
        rw [e1] at hr1
        refine fin_d L k ?_
        rw [List.append_nil]; exact hr1
    · cases hs
  · cases hs
theorem opP_sub : OpR X (binaryOp .Sub) (rP p .sub) := by
  refine opr_imp op_sub fun x y H Q q => ?_
  obtain ⟨dx, dy, B, G, σ, env, tmp, s, L, rr, h0, k⟩ := q
  obtain ⟨r1, r2⟩ := rr2 rr
  have hs : pSub [dx, dy] = some s := h0
  clear h0
  unfold pSub at hs
  split at hs
  · rename_i e; cases e; cases hs
    exact ⟨_, _, r1.int, r2.int, fin_d L k (.int _)⟩
  · cases hs
theorem opP_fdiv : OpR X (binaryOp .FloorDiv) (rP p .fdiv) := by
  refine opr_imp op_fdivW fun x y H Q q => ?_
  obtain ⟨dx, dy, B, G, σ, env, tmp, s, L, rr, h0, k⟩ := q
  obtain ⟨r1, r2⟩ := rr2 rr
  have hs : pFdiv [dx, dy] = some s := h0
  clear h0
  unfold pFdiv at hs
  split at hs
  · rename_i e; cases e
    split at hs
    · cases hs
      rename_i h
      exact ⟨_, _, r1.int, r2.int, wide_div h.1 (nabs_lt h.1 h.2) (by decide) (by decide), fin_d L k (.int _)⟩
    · cases hs
  · cases hs
theorem opP_mod : OpR X (binaryOp .Mod) (rP p .mod) := by
  refine opr_imp op_mod fun x y H Q q => ?_
  obtain ⟨dx, dy, B, G, σ, env, tmp, s, L, rr, h0, k⟩ := q
  obtain ⟨r1, r2⟩ := rr2 rr
  have hs : pMod [dx, dy] = some s := h0
  clear h0
  unfold pMod at hs
  split at hs
  · rename_i e; cases e
    split at hs
    · cases hs
      rename_i h
      exact ⟨_, _, r1.int, r2.int, h, fin_d L k (.int _)⟩
    · cases hs
  · cases hs
theorem opP_pow : OpR X (binaryOp .Pow) (rP p .pow) := by
  refine opr_imp op_pow fun x y H Q q => ?_
  obtain ⟨dx, dy, B, G, σ, env, tmp, s, L, rr, h0, k⟩ := q
  obtain ⟨r1, r2⟩ := rr2 rr
  have hs : pPow [dx, dy] = some s := h0
  clear h0
  unfold pPow at hs
  split at hs
  · rename_i e; cases e
    split at hs
    · cases hs
      rename_i h
      exact ⟨_, _, r1.int, r2.int, ⟨h.1, by omega, of_decide_eq_true h.2.2⟩, fin_d L k (.int _)⟩
    · cases hs
  · cases hs
theorem unP_neg : UnR X (unaryOp .USub) (rP1 p .neg) := by
  refine unr_imp un_neg fun x H Q q => ?_
  obtain ⟨dx, B, G, σ, env, tmp, s, L, rr, h0, k⟩ := q
  have r1 := rr1 rr
  have hs : pNeg [dx] = some s := h0
  clear h0
  unfold pNeg at hs
  split at hs
  · rename_i e; cases e; cases hs
    exact ⟨_, r1.int, fin_d L k (.int _)⟩
  · cases hs
theorem ltL_iff : ∀ (a b : List Nat), ltL a b = decide (a < b)
  | [], [] => by simp [ltL]
  | [], _ :: _ => by simp [ltL]
  | _ :: _, [] => by simp [ltL]
  | a :: x, b :: y => by
    rw [ltL, ltL_iff x y]
    rw [Bool.eq_iff_iff]
    simp [List.cons_lt_cons_iff]
theorem opP_lt : OpR X (compareOp .Lt) (rP p .lt) := by
  refine opr_imp (opr_or op_lt op_lt_str) fun x y H Q q => ?_
  obtain ⟨dx, dy, B, G, σ, env, tmp, s, L, rr, h0, k⟩ := q
  obtain ⟨r1, r2⟩ := rr2 rr
  have hs : pLt [dx, dy] = some s := h0
  clear h0
  unfold pLt at hs
  split at hs
  · rename_i e; cases e; cases hs
    exact .inl ⟨_, _, r1.int, r2.int, fin_d L k (.bl _)⟩
  · rename_i e; cases e; cases hs
    refine .inr ⟨_, _, r1.str, r2.str, ?_⟩
    rw [ltL_iff] at k
    simpa using fin_d L k (.bl _)
  · cases hs
theorem opP_le : OpR X (compareOp .LtE) (rP p .le) := by
  refine opr_imp op_le fun x y H Q q => ?_
  obtain ⟨dx, dy, B, G, σ, env, tmp, s, L, rr, h0, k⟩ := q
  obtain ⟨r1, r2⟩ := rr2 rr
  have hs : pLe [dx, dy] = some s := h0
  clear h0
  unfold pLe at hs
  split at hs
  · rename_i e; cases e; cases hs
    exact ⟨_, _, r1.int, r2.int, fin_d L k (.bl _)⟩
  · cases hs
theorem opP_gt : OpR X (compareOp .Gt) (rP p .gt) := by
  refine opr_imp op_gt fun x y H Q q => ?_
  obtain ⟨dx, dy, B, G, σ, env, tmp, s, L, rr, h0, k⟩ := q
  obtain ⟨r1, r2⟩ := rr2 rr
  have hs : pGt [dx, dy] = some s := h0
  clear h0
  unfold pGt at hs
  split at hs
  · rename_i e; cases e; cases hs
    exact ⟨_, _, r1.int, r2.int, fin_d L k (.bl _)⟩
  · cases hs
theorem opP_ge : OpR X (compareOp .GtE) (rP p .ge) := by
  refine opr_imp op_ge fun x y H Q q => ?_
  obtain ⟨dx, dy, B, G, σ, env, tmp, s, L, rr, h0, k⟩ := q
  obtain ⟨r1, r2⟩ := rr2 rr
  have hs : pGe [dx, dy] = some s := h0
  clear h0
  unfold pGe at hs
  split at hs
  · rename_i e; cases e; cases hs
    exact ⟨_, _, r1.int, r2.int, fin_d L k (.bl _)⟩
  · cases hs
end
end EV

set_option maxRecDepth 100000
set_option maxHeartbeats 1000000
/-! Primitives: times, ==, in, is. -/
namespace EV
open PySem PySem.Spec PyProof.Rows L2 LamX
theorem tuple_mul1 (l : Addr) (items : Array Value) (n : Nat) (u : Tok) (dd : Option Addr) (sl : Array (Option Value)) :
    Meets (Builtin.«tuple.__mul__» ⟨[.ref l, .int 1 u], []⟩) (fun _ R s => s.heap.get? l = some { cls := .type "tuple", dict := dd, data := .seq items n, slots := sl } ∧ R (.ok (.ret (Value.ref l))) s) :=
  .of_wp fun prog w A R s h => by
    obtain ⟨hp, g, d, tk, os⟩ := s
    obtain ⟨hl, h⟩ := h
    have f1 := AutoSeq1.idx_int
    wp_walk using wpAny_loadPart' hl
    exact ⟨_, rfl, h⟩
section
variable {X : Cx}
def rTup1 (K : PySem.W.Frag) : R2 := fun x y H Q => ∃ l xs, x = .ref l ∧ y = .int 1 ∧ SqT K H l xs ∧ Q (.ref l) H
theorem op_tup1 : OpR X (binaryOp .Mult) (rTup1 X.K) := by
  intro pins s σ H x y v u Q I rx ry h
  obtain ⟨l, xs, rfl, rfl, hT, q⟩ := h
  cases rx
  obtain ⟨t, rfl⟩ := ry
  obtain ⟨its, r, ⟨⟨cls, dd, data, sl⟩, ho, hc, n, hd⟩, hs⟩ := I.tuple hT
  simp only at hc hd
  subst hc hd
  refine wpAny_binaryOp_repeat_ref (T := "tuple") (U := "int") (by decide) ⟨_, ho, rfl⟩ (fun s' => typeIs_int s' 1 t) noFill_tuple_mul F.fills_int_mul F.slot_int_rmul repeat_tuple F.slot_int_index.lookup
    (call_meets F.slot_int_rmul (typeIs_int s 1 t) F.entry_int_rmul (F.args_int_rmul_2 _ _) (int_rmul_tuple 1 t l its.toArray n dd sl)
      ⟨ho, rfl, ⟨_, ho, rfl⟩, call_meets F.slot_tuple_mul ⟨_, ho, rfl⟩ F.entry_tuple_mul (F.args_tuple_mul_2 _ _) (tuple_mul1 l its.toArray n t dd sl) ⟨ho, ?_⟩⟩)
  exact ⟨.ref l, H, I, rfl, q⟩
theorem flat_nat (a : List Nat) : ∀ n, (List.replicate n a.toArray).foldl (fun x1 x2 => x1 ++ x2) #[] = (List.replicate n a).flatten.toArray := by
  have g : ∀ (n : Nat) (acc : List Nat), (List.replicate n a.toArray).foldl (fun x1 x2 => x1 ++ x2) acc.toArray = (acc ++ (List.replicate n a).flatten).toArray := by
    intro n
    induction n with
    | zero => intro acc; simp
    | succ n ih =>
      intro acc
      rw [List.replicate_succ, List.replicate_succ, List.foldl_cons, List.flatten_cons, ← List.append_assoc, ← ih]
      simp
  intro n
  have := g n []
  simpa using this
def rStrMul : R2 := fun x y H Q => ∃ (a : List Nat) (n : Int), x = .str ⟨a.toArray⟩ ∧ y = .int n ∧ n < 2 ^ 62 ∧ -(2 ^ 62) < n ∧ a.length * n.toNat ≤ sizeLine ∧ Q (.str ⟨(List.replicate n.toNat a).flatten.toArray⟩) H
theorem op_strMul : OpR X (binaryOp .Mult) rStrMul := by
  intro pins s σ H x y v u Q I rx ry h
  obtain ⟨a, n, rfl, rfl, h1, h2, h3, q⟩ := h
  obtain ⟨t, rfl⟩ := rx
  obtain ⟨t', rfl⟩ := ry
  have hl : Str.length ⟨a.toArray⟩ = a.length := str_len a
  refine PySem.P.mul_str ?_ ?_ ?_ ?_
  · rw [decide_eq_false (by omega), decide_eq_false (by omega)]; rfl
  · intro c1 c2
    rw [hl] at c2 ⊢
    have h3' : ((a.length : Nat) : Int) * n ≤ 2 ^ 24 := by
      have : ((a.length * n.toNat : Nat) : Int) ≤ ((sizeLine : Nat) : Int) := by exact_mod_cast h3
      rw [Int.natCast_mul, Int.toNat_of_nonneg (by omega)] at this
      have z : ((sizeLine : Nat) : Int) = 2 ^ 24 := by decide
      omega
    intro c3
    have c4 : ((a.length : Nat) : Int) * n > (2 ^ 63 - 1) / n * n := Int.mul_lt_mul_of_pos_right c3 (by omega)
    have c5 : (2 ^ 63 - 1 : Int) / n * n + (2 ^ 63 - 1) % n = 2 ^ 63 - 1 := by rw [Int.mul_comm]; exact Int.mul_ediv_add_emod _ _
    have c6 := Int.emod_lt_of_pos (2 ^ 63 - 1) (show (0 : Int) < n by omega)
    omega
  · intro c1 c2
    rw [hl]
    unfold Builtin.Str.tooLong
    exact decide_eq_false (by omega)
  · have he : ∀ {z : Str}, z = ⟨(List.replicate n.toNat a).flatten.toArray⟩ → Q (.str z) H := fun e => by rw [e]; exact q
    split
    · rename_i c
      exact ⟨by decide, .str _, H, I.tok _, ⟨_, rfl⟩, he (by rw [Int.toNat_of_nonpos (by omega)]; rfl)⟩
    · split
      · rename_i c1 c2
        refine ⟨.str _, H, I, ⟨_, rfl⟩, he ?_⟩
        rw [Bool.or_eq_true] at c2
        rcases c2 with c2 | c2
        · have : n = 1 := by simpa using c2
          subst this; simp
        · rw [hl] at c2
          have : a = [] := by simpa using c2
          subst this
          congr 1
          have z : ∀ m : Nat, (List.replicate m ([] : List Nat)).flatten = [] := fun m => by simp
          rw [z]
      · refine ⟨?_, .str _, H, I.tok _, ⟨_, rfl⟩, he ?_⟩
        · have := flat_nat a n.toNat
          rw [show (fun x1 x2 : Array Nat => x1 ++ x2) = (· ++ ·) from rfl] at this
          rw [this]
          rw [str_len, List.length_flatten]
          simp only [List.map_replicate, List.sum_replicate_nat]
          rw [Nat.mul_comm]; exact h3
        · have := flat_nat a n.toNat
          rw [show (fun x1 x2 : Array Nat => x1 ++ x2) = (· ++ ·) from rfl] at this
          rw [this]
end
theorem Reps.rep {W : Wd} {G : Hp} {ds : List D} {vs : List V} (r : Reps W G ds vs) : ∀ n : Nat, Reps W G (List.replicate n ds).flatten (List.replicate n vs).flatten
  | 0 => .nil
  | n + 1 => by
    rw [List.replicate_succ, List.replicate_succ, List.flatten_cons, List.flatten_cons]
    exact r.append (Reps.rep r n)
theorem mulOk_ok {a b : Int} (h : mulOk a b = true) : CMulW a b ∨ CMul a b := by
  unfold mulOk intOk at h
  simp only [Bool.or_eq_true, Bool.and_eq_true, decide_eq_true_eq] at h
  rcases h with (h | h) | h
  · exact .inr (.inl (by omega))
  · exact .inr (.inr (by omega))
  · exact .inl (wide_mul h.1 h.2 (by decide) (by decide) (by decide))
section
variable {p : Pt} {X : Cx}
theorem lineSz_eq : lineSz = sizeLine := by decide
theorem opP_mul : OpR X (binaryOp .Mult) (rP p .mul) := by
  refine opr_imp (opr_or (opr_or op_mulW op_mul) (opr_or op_strMul (opr_or op_rep (opr_or op_repT op_tup1)))) fun x y H Q q => ?_
  obtain ⟨dx, dy, B, G, σ, env, tmp, s, L, rr, h0, k⟩ := q
  obtain ⟨r1, r2⟩ := rr2 rr
  have hs : pMul [dx, dy] = some s := h0
  clear h0
  unfold pMul at hs
  split at hs
  · rename_i e; cases e
    split at hs
    · cases hs
      rename_i h
      rcases mulOk_ok h with h | h
      · exact .inl (.inl ⟨_, _, r1.int, r2.int, h, fin_d L k (.int _)⟩)
      · exact .inl (.inr ⟨_, _, r1.int, r2.int, h, fin_d L k (.int _)⟩)
    · cases hs
  · rename_i e; cases e
    split at hs
    · cases hs
      rename_i h
      exact .inr (.inl ⟨_, _, r1.str, r2.int, h.1, h.2.1, by rw [← lineSz_eq]; exact h.2.2, fin_d L k (.str _)⟩)
    · cases hs
  · rename_i e; cases e
    obtain ⟨a, vs, e1, h1, q1⟩ := r1.tup L.sub
    have hr1 := r1.rep (fun _ => by simp) (fun _ _ => by simp) (fun _ _ => by simp)
    split at hs
    · cases hs
      rename_i h
      subst h
      rw [e1] at hr1
      exact .inr (.inr (.inr (.inr ⟨a, vs, e1, r2.int, .of h1, fin_d L k hr1⟩)))
    · split at hs
      · cases hs
        rename_i h
        refine .inr (.inr (.inr (.inl ⟨a, _, vs, e1, r2.int, .of h1, fun z => ?_, h.2.1, h.2.2.1, by rw [← q1.length]; exact h.2.2.2, fun a ha => fin_t L k (q1.rep _) ha⟩)))
        have z1 := q1.nil_iff.mpr z
        subst z1
        exact absurd h.1 (by decide)
      · cases hs
  · rename_i e; cases e
    split at hs
    · cases hs
      rename_i h
      obtain ⟨a, vs, e1, h1, q1⟩ := r1.lst L.sub
      exact .inr (.inr (.inl ⟨a, _, vs, e1, r2.int, h1, by omega, by omega, by rw [← q1.length, ← lineSz_eq]; exact h.2.2, fun a ha => fin_l L k (q1.rep _) ha⟩))
    · cases hs
  · cases hs
end
/-! ### data for == -/
mutual
def pyD : D → PyData
  | .non => .none
  | .bl b => .bool b
  | .int i => .int i
  | .str s => .str ⟨s.toArray⟩
  | .tup xs => .tuple (pyDs xs)
  | .lst xs => .list (pyDs xs)
  | _ => .none
def pyDs : List D → List PyData
  | [] => []
  | x :: xs => pyD x :: pyDs xs
end
theorem deps_cons {x : D} {xs : List D} {n : Nat} (h : D.deps (x :: xs) = some n) : ∃ a b, x.dep = some a ∧ D.deps xs = some b ∧ n = max a b := by
  simp only [D.deps] at h
  split at h
  · rename_i a b h1 h2
    cases h
    exact ⟨a, b, h1, h2, rfl⟩
  · cases h
theorem dep_tup {xs : List D} {n : Nat} (h : (D.tup xs).dep = some n) : ∃ m, D.deps xs = some m ∧ n = m + 1 := by
  simp only [D.dep] at h
  cases q : D.deps xs with
  | none => rw [q] at h; cases h
  | some m => rw [q] at h; cases h; exact ⟨m, rfl, rfl⟩
theorem dep_lst {xs : List D} {n : Nat} (h : (D.lst xs).dep = some n) : ∃ m, D.deps xs = some m ∧ n = m + 1 := by
  simp only [D.dep] at h
  cases q : D.deps xs with
  | none => rw [q] at h; cases h
  | some m => rw [q] at h; cases h; exact ⟨m, rfl, rfl⟩
mutual
theorem dp_of {W : Wd} {G H : Hp} (e : ExtN G H) : ∀ {d : D} {v : V} {n : Nat}, Rep W G d v → d.dep = some n → Dp W.K H v (pyD d)
  | _, _, _, .non, _ => .non
  | _, _, _, .bl b, _ => .bl b
  | _, _, _, .int i, _ => .int i
  | _, _, _, .str s, _ => .str _
  | _, _, _, .tup h r, t => by
    obtain ⟨m, q, _⟩ := dep_tup t
    exact .tup (.of (e _ _ h fun _ z => (by cases z))) (dps_of e r q)
  | _, _, _, .lst h r, t => by
    obtain ⟨m, q, _⟩ := dep_lst t
    exact .lst (.of (e _ _ h fun _ z => (by cases z))) (dps_of e r q)
  | _, _, _, .scr h, t => by simp [D.dep] at t
  | _, _, _, .dctK h k r, t => by simp [D.dep] at t
  | _, _, _, .dctT h n k r1 r, t => by simp [D.dep] at t
  | _, _, _, .set h, t => by simp [D.dep] at t
  | _, _, _, .obj h l r, t => by simp [D.dep] at t
  | _, _, _, .exc _ hc h, t => by simp [D.dep] at t
  | _, _, _, .fnr f _, t => by simp [D.dep] at t
theorem dps_of {W : Wd} {G H : Hp} (e : ExtN G H) : ∀ {ds : List D} {vs : List V} {n : Nat}, Reps W G ds vs → D.deps ds = some n → DpAll W.K H vs (pyDs ds)
  | _, _, _, .nil, _ => .nil
  | _, _, _, .cons h r, t => by
    obtain ⟨a, b, h1, h2, _⟩ := deps_cons t
    exact .cons (dp_of e h h1) (dps_of e r h2)
end
mutual
theorem lay_of : ∀ {d : D} {n : Nat}, d.dep = some n → (pyD d).canLay0 = true ∧ (pyD d).depth ≤ n
  | .non, _, _ => ⟨by simp [pyD, PyData.canLay0], by simp [pyD, PyData.depth]⟩
  | .bl _, _, _ => ⟨by simp [pyD, PyData.canLay0], by simp [pyD, PyData.depth]⟩
  | .int _, _, _ => ⟨by simp [pyD, PyData.canLay0], by simp [pyD, PyData.depth]⟩
  | .str s, _, h => by
    refine ⟨?_, by simp [pyD, PyData.depth]⟩
    simp only [D.dep] at h
    split at h
    · rename_i q
      rw [Bool.and_eq_true] at q
      simp only [pyD, PyData.canLay0, PyData.strOk]
      simpa using q.1
    · cases h
  | .tup xs, n, h => by
    obtain ⟨m, q, e⟩ := dep_tup h
    obtain ⟨h1, h2⟩ := lays_of q
    exact ⟨by simp only [pyD, PyData.canLay0]; exact h1, by simp only [pyD, PyData.depth]; omega⟩
  | .lst xs, n, h => by
    obtain ⟨m, q, e⟩ := dep_lst h
    obtain ⟨h1, h2⟩ := lays_of q
    exact ⟨by simp only [pyD, PyData.canLay0]; exact h1, by simp only [pyD, PyData.depth]; omega⟩
  | .dct _ _, _, h => by simp [D.dep] at h
  | .set _, _, h => by simp [D.dep] at h
  | .obj _ _, _, h => by simp [D.dep] at h
  | .exc _, _, h => by simp [D.dep] at h
  | .fnr _, _, h => by simp [D.dep] at h
  | .scr _, _, h => by simp [D.dep] at h
theorem lays_of : ∀ {ds : List D} {n : Nat}, D.deps ds = some n → PyData.canLayAll0 (pyDs ds) = true ∧ PyData.depthAll (pyDs ds) ≤ n
  | [], _, _ => ⟨by simp [pyDs, PyData.canLayAll0], by simp [pyDs, PyData.depthAll]⟩
  | x :: xs, n, h => by
    obtain ⟨a, b, h1, h2, e⟩ := deps_cons h
    obtain ⟨q1, q2⟩ := lay_of h1
    obtain ⟨q3, q4⟩ := lays_of h2
    exact ⟨by simp only [pyDs, PyData.canLayAll0]; rw [q1, q3]; rfl, by simp only [pyDs, PyData.depthAll]; omega⟩
end
theorem str_beq (x y : List Nat) : ((⟨x.toArray⟩ : Str) == (⟨y.toArray⟩ : Str)) = (x == y) := by
  rw [Bool.eq_iff_iff]
  simp
mutual
theorem eqv_of : ∀ {a b : D} {n m : Nat}, a.dep = some n → b.dep = some m → PyData.eqv (pyD a) (pyD b) = D.eqv a b
  | .non, b, _, _, _, h => by cases b <;> first | (simp [D.dep] at h; done) | simp [pyD, PyData.eqv, D.eqv]
  | .bl _, b, _, _, _, h => by cases b <;> first | (simp [D.dep] at h; done) | simp [pyD, PyData.eqv, D.eqv]
  | .int _, b, _, _, _, h => by cases b <;> first | (simp [D.dep] at h; done) | simp [pyD, PyData.eqv, D.eqv]
  | .str _, b, _, _, _, h => by cases b <;> first | (simp only [pyD, PyData.eqv, D.eqv, str_beq]; done) | (simp [D.dep] at h; done) | simp [pyD, PyData.eqv, D.eqv]
  | .tup xs, b, n, m, h1, h => by
    cases b with
    | tup ys =>
      obtain ⟨_, q1, _⟩ := dep_tup h1
      obtain ⟨_, q2, _⟩ := dep_tup h
      simp only [pyD, PyData.eqv, D.eqv]
      exact eqvs_of q1 q2
    | _ => first | (simp [D.dep] at h; done) | simp [pyD, PyData.eqv, D.eqv]
  | .lst xs, b, n, m, h1, h => by
    cases b with
    | lst ys =>
      obtain ⟨_, q1, _⟩ := dep_lst h1
      obtain ⟨_, q2, _⟩ := dep_lst h
      simp only [pyD, PyData.eqv, D.eqv]
      exact eqvs_of q1 q2
    | _ => first | (simp [D.dep] at h; done) | simp [pyD, PyData.eqv, D.eqv]
  | .dct _ _, _, _, _, h, _ => by simp [D.dep] at h
  | .set _, _, _, _, h, _ => by simp [D.dep] at h
  | .obj _ _, _, _, _, h, _ => by simp [D.dep] at h
  | .exc _, _, _, _, h, _ => by simp [D.dep] at h
  | .fnr _, _, _, _, h, _ => by simp [D.dep] at h
  | .scr _, _, _, _, h, _ => by simp [D.dep] at h
theorem eqvs_of : ∀ {a b : List D} {n m : Nat}, D.deps a = some n → D.deps b = some m → PyData.eqvAll (pyDs a) (pyDs b) = D.eqvs a b
  | [], [], _, _, _, _ => by simp [pyDs, PyData.eqvAll, D.eqvs]
  | [], _ :: _, _, _, _, _ => by simp [pyDs, PyData.eqvAll, D.eqvs]
  | _ :: _, [], _, _, _, _ => by simp [pyDs, PyData.eqvAll, D.eqvs]
  | x :: xs, y :: ys, _, _, h1, h2 => by
    obtain ⟨_, _, a1, a2, _⟩ := deps_cons h1
    obtain ⟨_, _, b1, b2, _⟩ := deps_cons h2
    simp only [pyDs, PyData.eqvAll, D.eqvs]
    rw [eqv_of a1 b1, eqvs_of a2 b2]
end
theorem shp_dep {d : D} (h : d.shp = true) : ∃ n, d.dep = some n ∧ n ≤ 60 := by
  unfold D.shp at h
  split at h
  · rename_i n q; exact ⟨n, q, of_decide_eq_true h⟩
  · cases h
theorem shaped_of {d : D} (h : d.shp = true) : SeqAt.shaped (pyD d) = true := by
  obtain ⟨n, q, hn⟩ := shp_dep h
  obtain ⟨h1, h2⟩ := lay_of q
  unfold SeqAt.shaped
  rw [h1, decide_eq_true (by omega)]; rfl
theorem rr_dp {W : Wd} {C : List V} {G H : Hp} {d : D} {v : V} (e : ExtN G H) (h : RR W C G H d v) (s : d.shp = true) : Dp W.K H v (pyD d) := by
  obtain ⟨n, q, _⟩ := shp_dep s
  cases d with
  | lst xs =>
    obtain ⟨a, vs, rfl, h1, h2⟩ := h.lst e
    obtain ⟨m, q, _⟩ := dep_lst q
    exact .lst (.of h1) (dps_of e h2 q)
  | dct _ _ => simp [D.dep] at q
  | obj _ _ => simp [D.dep] at q
  | _ => exact dp_of e (h.rep (fun _ => by simp) (fun _ _ => by simp) (fun _ _ => by simp)) q
section
variable {p : Pt} {X : Cx}
theorem opP_eq (hK : X.K = p.W.K) (hu : X.A.units + 64 < cLine) : OpR X (compareOp .Eq) (rP p .eq) := by
  refine opr_imp (op_eqD hu) fun x y H Q q => ?_
  obtain ⟨dx, dy, B, G, σ, env, tmp, s, L, rr, h0, k⟩ := q
  obtain ⟨r1, r2⟩ := rr2 rr
  have hs : bl? (eqD dx dy) = some s := h0
  clear h0
  unfold eqD at hs
  split at hs
  · rename_i h
    rw [Bool.and_eq_true] at h
    cases hs
    refine ⟨pyD dx, pyD dy, by rw [hK]; exact rr_dp L.sub r1 h.1, by rw [hK]; exact rr_dp L.sub r2 h.2, shaped_of h.1, shaped_of h.2, ?_⟩
    obtain ⟨_, q1, _⟩ := shp_dep h.1
    obtain ⟨_, q2, _⟩ := shp_dep h.2
    rw [eqv_of q1 q2]
    exact fin_d L k (.bl _)
  · cases hs
theorem opP_ne (hK : X.K = p.W.K) (hu : X.A.units + 64 < cLine) : OpR X (compareOp .NotEq) (rP p .ne) := by
  refine opr_imp (op_neD hu) fun x y H Q q => ?_
  obtain ⟨dx, dy, B, G, σ, env, tmp, s, L, rr, h0, k⟩ := q
  obtain ⟨r1, r2⟩ := rr2 rr
  have hs : bl? ((eqD dx dy).map (!·)) = some s := h0
  clear h0
  unfold eqD at hs
  split at hs
  · rename_i h
    rw [Bool.and_eq_true] at h
    cases hs
    refine ⟨pyD dx, pyD dy, by rw [hK]; exact rr_dp L.sub r1 h.1, by rw [hK]; exact rr_dp L.sub r2 h.2, shaped_of h.1, shaped_of h.2, ?_⟩
    obtain ⟨_, q1, _⟩ := shp_dep h.1
    obtain ⟨_, q2, _⟩ := shp_dep h.2
    rw [eqv_of q1 q2]
    exact fin_d L k (.bl _)
  · cases hs
end
section
variable {X : Cx}
def rInT (K : PySem.W.Frag) : R2 := fun x y H Q => ∃ d ds, Dp K H x d ∧ Dp K H y (.tuple ds) ∧ SeqAt.shaped d = true ∧ SeqAt.shaped (.tuple ds) = true ∧ Q (.bl (ds.any fun z => PyData.eqv z d)) H
def rNotInT (K : PySem.W.Frag) : R2 := fun x y H Q => ∃ d ds, Dp K H x d ∧ Dp K H y (.tuple ds) ∧ SeqAt.shaped d = true ∧ SeqAt.shaped (.tuple ds) = true ∧ Q (.bl (!ds.any fun z => PyData.eqv z d)) H
theorem op_inDT (hu : X.A.units + 65 < cLine) : OpR X (compareOp .In) (rInT X.K) := by
  intro pins s σ H x y v u Q I rx ry h
  obtain ⟨d, ds, hd, he, sd, se, q⟩ := h
  obtain ⟨as, r1⟩ := Dp.reads I d x v hd rx
  obtain ⟨bs, r2⟩ := Dp.reads I (.tuple ds) y u he ry
  exact SeqAt.in_tuple_reads r2 r1 (SeqAt.canLay_of_shaped se) (SeqAt.canLay_of_shaped sd) (room_in_shaped sd hu) ⟨.bl _, H, I, rfl, q⟩
theorem op_notInDT (hu : X.A.units + 65 < cLine) : OpR X (compareOp .NotIn) (rNotInT X.K) := by
  intro pins s σ H x y v u Q I rx ry h
  obtain ⟨d, ds, hd, he, sd, se, q⟩ := h
  obtain ⟨as, r1⟩ := Dp.reads I d x v hd rx
  obtain ⟨bs, r2⟩ := Dp.reads I (.tuple ds) y u he ry
  exact SeqAt.notIn_tuple_reads r2 r1 (SeqAt.canLay_of_shaped se) (SeqAt.canLay_of_shaped sd) (room_in_shaped sd hu) ⟨.bl _, H, I, rfl, q⟩
end
theorem any_of {x : D} {n : Nat} (hx : x.dep = some n) : ∀ {ys : List D} {m : Nat}, D.deps ys = some m → ((pyDs ys).any fun z => PyData.eqv z (pyD x)) = anyEq x ys
  | [], _, _ => by simp [pyDs, anyEq]
  | y :: ys, _, h => by
    obtain ⟨_, _, a1, a2, _⟩ := deps_cons h
    simp only [pyDs, List.any_cons, anyEq]
    rw [eqv_of a1 hx, any_of hx a2]; rfl
end EV

set_option maxRecDepth 100000
set_option maxHeartbeats 1000000
/-! Primitives: in, is, len, isinstance, all .. -/
namespace EV
open PySem PySem.Spec PyProof.Rows L2 LamX
theorem shp_lst {ys : List D} (h : (D.lst ys).shp = true) : ∃ m, D.deps ys = some m := by
  obtain ⟨n, q, _⟩ := shp_dep h
  obtain ⟨m, q, _⟩ := dep_lst q
  exact ⟨m, q⟩
theorem shp_tup {ys : List D} (h : (D.tup ys).shp = true) : ∃ m, D.deps ys = some m := by
  obtain ⟨n, q, _⟩ := shp_dep h
  obtain ⟨m, q, _⟩ := dep_tup q
  exact ⟨m, q⟩
theorem contains_dec (c : Nat) (y : List Nat) : y.contains c = decide (c ∈ y) := by
  rw [Bool.eq_iff_iff]; simp
theorem bl?_some {o : Option Bool} {s : S} (h : bl? o = some s) : ∃ b, o = some b ∧ s = .d (.bl b) := by
  cases o with
  | none => cases h
  | some b => cases h; exact ⟨b, rfl, rfl⟩
/-- x in y, but for dicts -/
def NoDct : D → Prop
  | .dct _ _ => False
  | _ => True
section
variable {p : Pt} {X : Cx}
def rIn4 (K : PySem.W.Frag) : R2 := fun x y H Q => rInS x y H Q ∨ rInD K x y H Q ∨ rInT K x y H Q
def rNotIn4 (K : PySem.W.Frag) : R2 := fun x y H Q => rNotInS x y H Q ∨ rNotInD K x y H Q ∨ rNotInT K x y H Q
theorem op_in4 (hu : X.A.units + 65 < cLine) : OpR X (compareOp .In) (rIn4 X.K) := opr_or op_in_sign (opr_or (op_inD hu) (op_inDT hu))
theorem op_notIn4 (hu : X.A.units + 65 < cLine) : OpR X (compareOp .NotIn) (rNotIn4 X.K) := opr_or op_notIn_sign (opr_or (op_notInD hu) (op_notInDT hu))
theorem opP_inn (hK : X.K = p.W.K) (hu : X.A.units + 65 < cLine) : OpR X (compareOp .In) (rP p .inn) := by
  refine opr_imp (op_in4 hu) fun x y H Q q => ?_
  obtain ⟨dx, dy, B, G, σ, env, tmp, s, L, rr, h0, k⟩ := q
  obtain ⟨r1, r2⟩ := rr2 rr
  have hs : bl? (inD dx dy) = some s := h0
  clear h0
  obtain ⟨b, hs, rfl⟩ := bl?_some hs
  unfold inD at hs
  split at hs
  · cases hs
    refine .inl ⟨_, _, r1.str, r2.str, ?_⟩
    rw [contains_dec] at k
    simpa using fin_d L k (.bl _)
  · split at hs
    · rename_i h
      cases hs
      rw [Bool.and_eq_true] at h
      obtain ⟨n, q1, _⟩ := shp_dep h.1
      obtain ⟨m, q2⟩ := shp_lst h.2
      refine .inr (.inl ⟨pyD dx, pyDs _, by rw [hK]; exact rr_dp L.sub r1 h.1, by rw [hK]; exact rr_dp L.sub r2 h.2, shaped_of h.1, shaped_of h.2, ?_⟩)
      rw [any_of q1 q2]
      exact fin_d L k (.bl _)
    · cases hs
  · split at hs
    · rename_i h
      cases hs
      rw [Bool.and_eq_true] at h
      obtain ⟨n, q1, _⟩ := shp_dep h.1
      obtain ⟨m, q2⟩ := shp_tup h.2
      refine .inr (.inr ⟨pyD dx, pyDs _, by rw [hK]; exact rr_dp L.sub r1 h.1, by rw [hK]; exact rr_dp L.sub r2 h.2, shaped_of h.1, shaped_of h.2, ?_⟩)
      rw [any_of q1 q2]
      exact fin_d L k (.bl _)
    · cases hs
  · cases hs
theorem opP_nin (hK : X.K = p.W.K) (hu : X.A.units + 65 < cLine) : OpR X (compareOp .NotIn) (rP p .nin) := by
  refine opr_imp (op_notIn4 hu) fun x y H Q q => ?_
  obtain ⟨dx, dy, B, G, σ, env, tmp, s, L, rr, h0, k⟩ := q
  obtain ⟨r1, r2⟩ := rr2 rr
  have hs : bl? ((inD dx dy).map (!·)) = some s := h0
  clear h0
  obtain ⟨b, hs, rfl⟩ := bl?_some hs
  unfold inD at hs
  split at hs
  · cases hs
    refine .inl ⟨_, _, r1.str, r2.str, ?_⟩
    rw [contains_dec] at k
    simpa using fin_d L k (.bl _)
  · split at hs
    · rename_i h
      cases hs
      rw [Bool.and_eq_true] at h
      obtain ⟨n, q1, _⟩ := shp_dep h.1
      obtain ⟨m, q2⟩ := shp_lst h.2
      refine .inr (.inl ⟨pyD dx, pyDs _, by rw [hK]; exact rr_dp L.sub r1 h.1, by rw [hK]; exact rr_dp L.sub r2 h.2, shaped_of h.1, shaped_of h.2, ?_⟩)
      rw [any_of q1 q2]
      exact fin_d L k (.bl _)
    · cases hs
  · split at hs
    · rename_i h
      cases hs
      rw [Bool.and_eq_true] at h
      obtain ⟨n, q1, _⟩ := shp_dep h.1
      obtain ⟨m, q2⟩ := shp_tup h.2
      refine .inr (.inr ⟨pyD dx, pyDs _, by rw [hK]; exact rr_dp L.sub r1 h.1, by rw [hK]; exact rr_dp L.sub r2 h.2, shaped_of h.1, shaped_of h.2, ?_⟩)
      rw [any_of q1 q2]
      exact fin_d L k (.bl _)
    · cases hs
  · cases hs
end
section
variable {X : Cx}
theorem relV_plain {x : V} {v : Value} (r : RelV x v) (b : Bool) : plainIs v (.bool b) = true := by
  cases x <;> first | (cases (show v = _ from r); rfl) | (obtain ⟨t, rfl⟩ := (show ∃ t, v = _ from r); rfl)
/-- is, with a bool on the right -/
theorem op_isB : OpR X (compareOp .Is) (fun x y H Q => ∃ b, y = .bl b ∧ Q (.bl (decide (x = .bl b))) H) := by
  intro pins s σ H x y v u Q I rx ry h
  obtain ⟨b, rfl, q⟩ := h
  cases (show u = Value.bool b from ry)
  by_cases e : x = .bl b
  · subst e
    cases (show v = Value.bool b from rx)
    exact wpAny_is_self rfl ⟨.bl true, H, I, rfl, by simpa using q⟩
  · refine wpAny_is_other (relV_plain rx b) (fun z => ?_) ⟨.bl false, H, I, rfl, by simpa [e] using q⟩
    subst z
    exact e (RelV.inj rx (show RelV (.bl b) (Value.bool b) from rfl))
theorem op_notB : OpR X (compareOp .IsNot) (fun x y H Q => ∃ b, y = .bl b ∧ Q (.bl (!decide (x = .bl b))) H) := by
  intro pins s σ H x y v u Q I rx ry h
  obtain ⟨b, rfl, q⟩ := h
  cases (show u = Value.bool b from ry)
  by_cases e : x = .bl b
  · subst e
    cases (show v = Value.bool b from rx)
    exact wpAny_isNot_self rfl ⟨.bl false, H, I, rfl, by simpa using q⟩
  · refine wpAny_isNot_other (relV_plain rx b) (fun z => ?_) ⟨.bl true, H, I, rfl, by simpa [e] using q⟩
    subst z
    exact e (RelV.inj rx (show RelV (.bl b) (Value.bool b) from rfl))
end
theorem RR.non_iff {W : Wd} {C : List V} {G H : Hp} {d : D} {v : V} (e : ExtN G H) (h : RR W C G H d v) : v = .non ↔ d = .non := by
  constructor
  · intro z
    subst z
    rcases h with h | ⟨s, A, h, t⟩
    · cases h; rfl
    · cases h with
      | d h => cases h; simp only [S.toD, Option.some.injEq] at t; exact t.symm
      | clo h => simp [S.toD] at t
  · intro z; subst z; exact h.non
theorem RR.bl_iff {W : Wd} {C : List V} {G H : Hp} {d : D} {v : V} {b : Bool} (e : ExtN G H) (h : RR W C G H d v) : v = .bl b ↔ d = .bl b := by
  constructor
  · intro z
    subst z
    rcases h with h | ⟨s, A, h, t⟩
    · cases h; rfl
    · cases h with
      | d h => cases h; simp only [S.toD, Option.some.injEq] at t; exact t.symm
      | clo h => simp [S.toD] at t
  · intro z; subst z; exact h.bl
theorem isC_ok {W : Wd} {C : List V} {G H : Hp} {dx dy : D} {x y : V} {b : Bool} (e : ExtN G H) (r1 : RR W C G H dx x) (r2 : RR W C G H dy y) (h : isCst dx dy = some b) :
    (y = .non ∧ decide (x = .non) = b) ∨ ∃ c : Bool, y = .bl c ∧ decide (x = .bl c) = b := by
  unfold isCst at h
  split at h
  · refine .inl ⟨r2.non, ?_⟩
    split at h
    · cases h; exact decide_eq_true r1.non
    · cases h; rename_i hn; exact decide_eq_false fun z => hn ((r1.non_iff e).mp z)
  · refine .inr ⟨_, r2.bl, ?_⟩
    split at h
    · cases h
      rename_i a
      rw [r1.bl]
      rw [Bool.eq_iff_iff]; simp
    · cases h; rename_i hn; exact decide_eq_false fun z => hn _ ((r1.bl_iff e).mp z)
  · cases h
section
variable {p : Pt} {X : Cx}
theorem opP_isC : OpR X (compareOp .Is) (rP p .isC) := by
  refine opr_imp (opr_or op_isN op_isB) fun x y H Q q => ?_
  obtain ⟨dx, dy, B, G, σ, env, tmp, s, L, rr, h0, k⟩ := q
  obtain ⟨r1, r2⟩ := rr2 rr
  obtain ⟨b, hs, rfl⟩ := bl?_some (show bl? (isCst dx dy) = some s from h0)
  rcases isC_ok L.sub r1 r2 hs with ⟨h1, h2⟩ | ⟨c, h1, h2⟩
  · exact .inl ⟨h1, by rw [h2]; exact fin_d L k (.bl _)⟩
  · exact .inr ⟨c, h1, by rw [h2]; exact fin_d L k (.bl _)⟩
theorem opP_isNC : OpR X (compareOp .IsNot) (rP p .isNC) := by
  refine opr_imp (opr_or op_notN op_notB) fun x y H Q q => ?_
  obtain ⟨dx, dy, B, G, σ, env, tmp, s, L, rr, h0, k⟩ := q
  obtain ⟨r1, r2⟩ := rr2 rr
  obtain ⟨b, h1, rfl⟩ := bl?_some (show bl? ((isCst dx dy).map (!·)) = some s from h0)
  clear h0
  obtain ⟨b', hs, rfl⟩ := Option.map_eq_some_iff.mp h1
  clear h1
  rcases isC_ok L.sub r1 r2 hs with ⟨h1, h2⟩ | ⟨c, h1, h2⟩
  · exact .inl ⟨h1, by rw [h2]; exact fin_d L k (.bl _)⟩
  · exact .inr ⟨c, h1, by rw [h2]; exact fin_d L k (.bl _)⟩
end
/-! ### calls of builtins -/
theorem callr_imp {X : Cx} {f : Value} {r r' : List V → Hp → VK → Prop} (h : CallR X f r) (i : ∀ x H Q, r' x H Q → r x H Q) : CallR X f r' := fun pins s σ H xs us Q I r q => h pins s σ H xs us Q I r (i _ _ _ q)
theorem callr_or {X : Cx} {f : Value} {r r' : List V → Hp → VK → Prop} (h : CallR X f r) (h' : CallR X f r') : CallR X f (fun x H Q => r x H Q ∨ r' x H Q) := fun pins s σ H xs us Q I rr q => q.elim (fun q => h pins s σ H xs us Q I rr q) fun q => h' pins s σ H xs us Q I rr q
theorem pr_call {p : Pt} {X : Cx} {r : EvR} {e : Expr} {os : List Opd} {o : Prim} {cx : CX} (h : PE X e (tCB (rPs p o) (tO p (evOs r os)))) : PE X e (tE p (stepE cx r (.prim o os))) := by
  refine pe_imp h fun σ H Q q => ?_
  obtain ⟨B, G, env, tmp, L, q⟩ := q
  refine ⟨B, G, env, tmp, L, ?_⟩
  have q := Got.bind (show Got ((evOs r os env).bind _) _ _ from q)
  refine q.imp (fun ds env' q vs G' H' e1 L1 rr => ?_) fun c env' q => q
  cases t : prim o ds with
  | none => rw [t] at q; exact q.elim
  | some s =>
    rw [t] at q
    exact ⟨ds, B, G', σ, env', tmp, s, L1, rr, t, fun v G2 H2 e2 L2 => q v G2 H2 (e1.trans e2) L2⟩
theorem rrs1 {W : Wd} {C : List V} {G H : Hp} {d : D} {vs : List V} (h : RRs W C G H [d] vs) : ∃ v, vs = [v] ∧ RR W C G H d v := by
  cases h with
  | cons h1 h2 => cases h2; exact ⟨_, rfl, h1⟩
theorem rrs2 {W : Wd} {C : List V} {G H : Hp} {d d' : D} {vs : List V} (h : RRs W C G H [d, d'] vs) : ∃ v v', vs = [v, v'] ∧ RR W C G H d v ∧ RR W C G H d' v' := by
  cases h with
  | cons h1 h2 => cases h2 with
    | cons h2 h3 => cases h3; exact ⟨_, _, rfl, h1, h2⟩
theorem ints_rep {W : Wd} {G : Hp} : ∀ {xs : List D} {l : List Int} {vs : List V}, ints? xs = some l → Reps W G xs vs → vs = l.map V.int
  | [], l, _, h, r => by cases r; simp only [ints?, Option.some.injEq] at h; subst h; rfl
  | x :: xs, l, _, h, r => by
    cases r with
    | cons r1 r2 =>
      unfold ints? at h
      split at h
      · rename_i e; cases e
      · rename_i i r e; cases e
        split at h
        · rename_i q; cases h
          cases r1
          rw [List.map_cons, ints_rep q r2]
        · cases h
      · cases h
theorem bools_rep {W : Wd} {G : Hp} : ∀ {xs : List D} {l : List Bool} {vs : List V}, bools? xs = some l → Reps W G xs vs → vs = l.map V.bl
  | [], l, _, h, r => by cases r; simp only [bools?, Option.some.injEq] at h; subst h; rfl
  | x :: xs, l, _, h, r => by
    cases r with
    | cons r1 r2 =>
      unfold bools? at h
      split at h
      · rename_i e; cases e
      · rename_i i r e; cases e
        split at h
        · rename_i q; cases h
          cases r1
          rw [List.map_cons, bools_rep q r2]
        · cases h
      · cases h
theorem strs_rep {W : Wd} {G : Hp} : ∀ {xs : List D} {l : List (List Nat)} {vs : List V}, strs? xs = some l → Reps W G xs vs → vs = (l.map fun s => (⟨s.toArray⟩ : Str)).map V.str
  | [], l, _, h, r => by cases r; simp only [strs?, Option.some.injEq] at h; subst h; rfl
  | x :: xs, l, _, h, r => by
    cases r with
    | cons r1 r2 =>
      unfold strs? at h
      split at h
      · rename_i e; cases e
      · rename_i i r e; cases e
        split at h
        · rename_i q; cases h
          cases r1
          rw [List.map_cons, List.map_cons, strs_rep q r2]
        · cases h
      · cases h
theorem sumI_eq (l : List Int) : sumI l = l.sum := by
  unfold sumI
  have g : ∀ (l : List Int) (a : Int), l.foldl (· + ·) a = a + l.sum := by
    intro l
    induction l with
    | nil => intro a; simp
    | cons x r ih => intro a; rw [List.foldl_cons, ih, List.sum_cons]; omega
  rw [g]; omega
section
variable {p : Pt} {X : Cx}
theorem callP_len (hK : X.K = p.W.K) : CallR X (.builtin "len") (rPs p .len) := by
  refine callr_imp call_len fun vs H Q q => ?_
  obtain ⟨ds, B, G, σ, env, tmp, s, L, rr, h0, k⟩ := q
  have hs : pLen ds = some s := h0
  clear h0
  unfold pLen at hs
  split at hs
  · cases hs
    obtain ⟨v, rfl, r1⟩ := rrs1 rr
    obtain ⟨a, rfl, h1⟩ := r1.scr L.sub
    exact ⟨_, _, rfl, .inl ⟨_, by rw [hK]; exact h1, by simp⟩, fin_d L k (.int _)⟩
  · cases hs
    obtain ⟨v, rfl, r1⟩ := rrs1 rr
    obtain ⟨a, ws, rfl, h1, h2⟩ := r1.lst L.sub
    exact ⟨_, _, rfl, .inl ⟨_, .of h1, h2.length⟩, fin_d L k (.int _)⟩
  · cases hs
    obtain ⟨v, rfl, r1⟩ := rrs1 rr
    obtain ⟨a, ws, rfl, h1, h2⟩ := r1.tup L.sub
    exact ⟨_, _, rfl, .inr ⟨_, .of h1, h2.length⟩, fin_d L k (.int _)⟩
  · split at hs
    · cases hs
      obtain ⟨v, rfl, r1⟩ := rrs1 rr
      obtain rfl := r1.str
      rename_i h
      refine ⟨_, _, rfl, ⟨by rw [str_len]; exact h, ?_⟩, fin_d L k (.int _)⟩
      rw [str_len]
    · cases hs
  · cases hs
theorem callP_all (hc : X.calm = true) : CallR X (.builtin "all") (rPs p .all) := by
  refine callr_imp (cr_all hc) fun vs H Q q => ?_
  obtain ⟨ds, B, G, σ, env, tmp, s, L, rr, h0, k⟩ := q
  have hs : pAll ds = some s := h0
  clear h0
  unfold pAll at hs
  split at hs
  · obtain ⟨b, h5, rfl⟩ := bl?_some hs
    clear hs
    obtain ⟨l, hs, rfl⟩ := Option.map_eq_some_iff.mp h5
    clear h5
    obtain ⟨v, rfl, r1⟩ := rrs1 rr
    obtain ⟨a, ws, rfl, h1, h2⟩ := r1.lst L.sub
    rw [bools_rep hs h2] at h1
    exact ⟨a, l, rfl, .of h1, fin_d L k (.bl _)⟩
  · cases hs
theorem callP_any (hc : X.calm = true) : CallR X (.builtin "any") (rPs p .any) := by
  refine callr_imp (cr_any hc) fun vs H Q q => ?_
  obtain ⟨ds, B, G, σ, env, tmp, s, L, rr, h0, k⟩ := q
  have hs : pAny ds = some s := h0
  clear h0
  unfold pAny at hs
  split at hs
  · obtain ⟨b, h5, rfl⟩ := bl?_some hs
    clear hs
    obtain ⟨l, hs, rfl⟩ := Option.map_eq_some_iff.mp h5
    clear h5
    obtain ⟨v, rfl, r1⟩ := rrs1 rr
    obtain ⟨a, ws, rfl, h1, h2⟩ := r1.lst L.sub
    rw [bools_rep hs h2] at h1
    exact ⟨a, l, rfl, .of h1, fin_d L k (.bl _)⟩
  · cases hs
theorem callP_sum (hc : X.calm = true) : CallR X (.builtin "sum") (rPs p .sum) := by
  refine callr_imp (cr_sum hc) fun vs H Q q => ?_
  obtain ⟨ds, B, G, σ, env, tmp, s, L, rr, h0, k⟩ := q
  have hs : pSum ds = some s := h0
  clear h0
  unfold pSum at hs
  split at hs
  · obtain ⟨l, h6, rfl⟩ := Option.map_eq_some_iff.mp hs
    clear hs
    have hs := h6
    clear h6
    obtain ⟨v, rfl, r1⟩ := rrs1 rr
    obtain ⟨a, ws, rfl, h1, h2⟩ := r1.lst L.sub
    rw [ints_rep hs h2] at h1
    rw [sumI_eq] at k
    exact ⟨a, l, rfl, .of h1, fin_d L k (.int _)⟩
  · cases hs
end
end EV

set_option maxRecDepth 100000
set_option maxHeartbeats 1000000
/-! Primitives: subscripts, slices, == [], isinstance, list, tuple. -/
namespace EV
open PySem PySem.Spec PyProof.Rows L2 LamX
theorem atI_eq {α : Type} (xs : List α) (i : Int) : atI xs i = L2.atI xs i := by
  unfold atI L2.atI L2.ixN
  by_cases h : 0 ≤ i
  · rw [if_pos h, if_pos h]
    by_cases h1 : i < (xs.length : Int)
    · rw [if_pos h1]; rfl
    · rw [if_neg h1]
      exact List.getElem?_eq_none (by omega)
  · rw [if_neg h, if_neg h]
    by_cases h1 : 0 ≤ i + (xs.length : Int)
    · rw [if_pos h1, if_pos (by omega)]; rfl
    · rw [if_neg h1, if_neg (by omega)]; rfl
theorem atI_rep {W : Wd} {G : Hp} {ds : List D} {vs : List V} {i : Int} {d : D} (r : Reps W G ds vs) (h : atI ds i = some d) : ∃ v, L2.atI vs i = some v ∧ Rep W G d v := by
  rw [atI_eq] at h
  unfold L2.atI at h ⊢
  rw [← r.length]
  cases q : L2.ixN ds.length i with
  | none => rw [q] at h; cases h
  | some j => rw [q] at h; exact r.get h
theorem atI_map {α β : Type} (f : α → β) {xs : List α} {i : Int} {x : α} (h : atI xs i = some x) : L2.atI (xs.map f) i = some (f x) := by
  rw [atI_eq] at h
  unfold L2.atI at h ⊢
  rw [List.length_map]
  cases q : L2.ixN xs.length i with
  | none => rw [q] at h; cases h
  | some j =>
    rw [q] at h
    have h' : xs[j]? = some x := h
    show (xs.map f)[j]? = some (f x)
    rw [List.getElem?_map, h']; rfl
theorem ixr_imp {X : Cx} {r r' : R2} (h : IxR X r) (i : ∀ x y H Q, r' x y H Q → r x y H Q) : IxR X r' := fun v sl pins s σ H x y u u' Q I rx ry q hs => h v sl pins s σ H x y u u' Q I rx ry (i _ _ _ _ q) hs
section
variable {p : Pt} {X : Cx}
theorem ixP (hK : X.K = p.W.K) : IxR X (rP p .idx) := by
  refine ixr_imp ix_seq fun x y H Q q => ?_
  obtain ⟨dx, dy, B, G, σ, env, tmp, s, L, rr, h0, k⟩ := q
  obtain ⟨r1, r2⟩ := rr2 rr
  have hs : pIdx [dx, dy] = some s := h0
  clear h0
  unfold pIdx at hs
  split at hs
  · rename_i e; cases e
    obtain ⟨n, h1, rfl⟩ := Option.map_eq_some_iff.mp hs
    obtain ⟨a, rfl, h2⟩ := r1.scr L.sub
    exact .inl ⟨a, _, _, _, rfl, r2.int, by rw [hK]; exact h2, atI_map V.int h1, fin_d L k (.int _)⟩
  · rename_i e; cases e
    obtain ⟨n, h1, rfl⟩ := Option.map_eq_some_iff.mp hs
    obtain ⟨a, vs, rfl, h2, h3⟩ := r1.lst L.sub
    obtain ⟨v, h4, h5⟩ := atI_rep h3 h1
    exact .inl ⟨a, _, _, _, rfl, r2.int, .of h2, h4, fin_d L k h5⟩
  · rename_i e; cases e
    obtain ⟨n, h1, rfl⟩ := Option.map_eq_some_iff.mp hs
    obtain ⟨a, vs, rfl, h2, h3⟩ := r1.tup L.sub
    obtain ⟨v, h4, h5⟩ := atI_rep h3 h1
    exact .inr (.inl ⟨a, _, _, _, rfl, r2.int, .of h2, h4, fin_d L k h5⟩)
  · rename_i e; cases e
    split at hs
    · rename_i hl
      obtain ⟨n, h1, rfl⟩ := Option.map_eq_some_iff.mp hs
      refine .inr (.inr ⟨_, _, _, r1.str, r2.int, by rw [str_len]; exact hl, ?_, fin_d L k (.str _)⟩)
      rw [← atI_eq]; exact h1
    · cases hs
  · cases hs
/-! slices -/
theorem clamp_six (n d : Nat) (i : Int) : clampI n i = HT.sIx n d (some i) := by
  unfold clampI HT.sIx
  by_cases h : 0 ≤ i
  · rw [if_pos h]; simp only [show ¬ i < 0 by omega, if_false]
  · rw [if_neg h]; simp only [show i < 0 by omega, if_true]
theorem cutL_eq {α : Type} (xs : List α) (lo hi : Option Int) : cutL xs lo hi = (xs.drop (HT.sIx xs.length 0 lo)).take (HT.sIx xs.length xs.length hi - HT.sIx xs.length 0 lo) := by
  unfold cutL
  rw [List.drop_take]
  cases lo <;> cases hi <;> simp only [HT.sIx_none, ← clamp_six]
theorem cutL_rep {W : Wd} {G : Hp} {ds : List D} {vs : List V} (r : Reps W G ds vs) (lo hi : Option Int) : Reps W G (cutL ds lo hi) (L2.cutV vs lo hi) := by
  rw [cutL_eq]
  unfold L2.cutV
  rw [r.length]
  exact (r.drop _).take _
theorem slr_imp {X : Cx} {r r' : V → Option Int → Option Int → Hp → VK → Prop} (h : SlR X r) (i : ∀ x lo hi H Q, r' x lo hi H Q → r x lo hi H Q) : SlR X r' := fun pins s σ H x v vl vu lo hi sl Q I rx hs pl pu q => h pins s σ H x v vl vu lo hi sl Q I rx hs pl pu (i _ _ _ _ _ q)
/-- behind a slice's parts -/
def rSlP (p : Pt) : V → Option Int → Option Int → Hp → VK → Prop := fun x lo hi H Q =>
  ∃ (B : Bs) (G : Hp) (σ : L2.St) (env : Env) (tmp : List (V × S)) (s : S) (dx : D), Link p.W B p.C p.n p.σp G σ H env tmp ∧ RR p.W p.C G H dx x ∧ slD dx lo hi = some s ∧ ∀ v G' H', ExtN G G' → Link p.W B p.C p.n p.σp G' σ H' env ((v, s) :: tmp) → Q v H'
theorem slP : SlR X (rSlP p) := by
  refine slr_imp (sl_list.or (sl_tupA.or sl_str)) fun x lo hi H Q q => ?_
  obtain ⟨B, G, σ, env, tmp, s, dx, L, r1, hs, k⟩ := q
  unfold slD at hs
  split at hs
  · cases hs
    obtain ⟨a, vs, rfl, h2, h3⟩ := r1.lst L.sub
    exact .inl ⟨a, vs, rfl, .of h2, fun b hb => fin_l L k (cutL_rep h3 lo hi) hb⟩
  · cases hs
    have hr1 := r1.rep (fun _ => by simp) (fun _ _ => by simp) (fun _ _ => by simp)
    obtain ⟨a, vs, rfl, h2, h3⟩ := r1.tup L.sub
    refine .inr (.inl ⟨a, vs, rfl, .of h2, fun z => ?_, fun z b hb => fin_t L k (cutL_rep h3 lo hi) hb⟩)
    rw [cutL_eq, h3.length, z.1, z.2] at k
    rw [List.drop_zero, Nat.sub_zero, ← h3.length, List.take_length] at k
    exact fin_d L k hr1
  · split at hs
    · rename_i hl
      cases hs
      refine .inr (.inr ⟨_, r1.str, by rw [str_len]; exact hl, ?_⟩)
      rw [cutL_eq] at k
      have := fin_d L k (.str _)
      unfold L2.cutS
      simpa [str_len] using this
    · cases hs
  · cases hs
variable {r : EvR} {cx : CX} {e e1 e2 : Expr} {a b c : Opd} {pos p2 : Pos}
theorem sl_inv {ds : List D} {env' : Env} {b1 b2 : Bool} {k : S → Env → Prop} {ke : Nat → Env → Prop} (q : Got (match prim (.sl b1 b2) ds with | some s => some (.ok s env') | none => (none : R S)) k ke) : ∃ s, pSl b1 b2 ds = some s ∧ k s env' := by
  have q : Got (match pSl b1 b2 ds with | some s => some (.ok s env') | none => (none : R S)) k ke := q
  cases h : pSl b1 b2 ds with
  | none => rw [h] at q; exact q.elim
  | some s => rw [h] at q; exact ⟨s, rfl, q⟩
theorem pSl_01 {ds : List D} {s : S} (h : pSl false true ds = some s) : ∃ x j, ds = [x, .int j] ∧ slD x none (some j) = some s := by
  unfold pSl at h
  split at h <;> first | exact ⟨_, _, rfl, h⟩ | simp_all
theorem pSl_10 {ds : List D} {s : S} (h : pSl true false ds = some s) : ∃ x j, ds = [x, .int j] ∧ slD x (some j) none = some s := by
  unfold pSl at h
  split at h <;> first | exact ⟨_, _, rfl, h⟩ | simp_all
theorem pSl_11 {ds : List D} {s : S} (h : pSl true true ds = some s) : ∃ x i j, ds = [x, .int i, .int j] ∧ slD x (some i) (some j) = some s := by
  unfold pSl at h
  split at h <;> first | exact ⟨_, _, _, rfl, h⟩ | simp_all
theorem pr_sl01 (ha : PE X e (tP p (evP r a))) (hb : PE X e1 (tP p (evP r b))) : PE X (.Subscript e (.Slice none (some e1) none p2) pos) (tE p (stepE cx r (.prim (.sl false true) [a, b]))) := by
  refine pe_imp (pe_slice (slP (p := p)) ha po_none (po_some hb)) fun σ H Q q => ?_
  obtain ⟨B, G, env, tmp, L, q⟩ := q
  refine two_O (R2' := fun x y H2 => ∃ i, y = .int i ∧ rSlP p x none (some i) H2 Q) ⟨B, G, env, tmp, L, ?_⟩
  have q := Got.bind (show Got ((evOs r [a, b] env).bind _) _ _ from q)
  refine q.imp (fun ds env' q x y G' H' e1 L1 rr => ?_) fun c env' q => q
  obtain ⟨s, h9, q9⟩ := sl_inv q
  obtain ⟨dx, j, rfl, h8⟩ := pSl_01 h9
  obtain ⟨r1, r2⟩ := rr2 rr
  exact ⟨_, r2.int, B, G', σ, env', tmp, s, _, L1, r1, h8, fun v G2 H2 e2 L2 => q9 v G2 H2 (e1.trans e2) L2⟩
theorem pr_sl10 (ha : PE X e (tP p (evP r a))) (hb : PE X e1 (tP p (evP r b))) : PE X (.Subscript e (.Slice (some e1) none none p2) pos) (tE p (stepE cx r (.prim (.sl true false) [a, b]))) := by
  refine pe_imp (pe_slice (slP (p := p)) ha (po_some hb) po_none) fun σ H Q q => ?_
  obtain ⟨B, G, env, tmp, L, q⟩ := q
  refine two_O (R2' := fun x y H2 => ∃ i, y = .int i ∧ rSlP p x (some i) none H2 Q) ⟨B, G, env, tmp, L, ?_⟩
  have q := Got.bind (show Got ((evOs r [a, b] env).bind _) _ _ from q)
  refine q.imp (fun ds env' q x y G' H' e1 L1 rr => ?_) fun c env' q => q
  obtain ⟨s, h9, q9⟩ := sl_inv q
  obtain ⟨dx, j, rfl, h8⟩ := pSl_10 h9
  obtain ⟨r1, r2⟩ := rr2 rr
  exact ⟨_, r2.int, B, G', σ, env', tmp, s, _, L1, r1, h8, fun v G2 H2 e2 L2 => q9 v G2 H2 (e1.trans e2) L2⟩
theorem three_O {R3' : V → V → V → Hp → Prop} {σ : L2.St} {H : Hp}
    (q : ∃ B G env tmp, Link p.W B p.C p.n p.σp G σ H env tmp ∧ Got (evOs r [a, b, c] env) (fun ds env' => ∀ x y z G' H', ExtN G G' → Link p.W B p.C p.n p.σp G' σ H' env' tmp → RRs p.W p.C G' H' ds [x, y, z] → R3' x y z H') fun c env' => ∀ G' H', ExtN G G' → Link p.W B p.C p.n p.σp G' σ H' env' tmp → p.Wx (.ref (p.W.exc c)) none σ H') :
    tP p (evP r a) σ H fun x H1 => tP p (evP r b) σ H1 fun y H2 => tP p (evP r c) σ H2 fun z H3 => R3' x y z H3 := by
  obtain ⟨B, G, env, tmp, L, q⟩ := q
  refine ⟨B, G, env, tmp, L, ?_⟩
  have q := Got.bind (show Got ((evO1 r [a, b, c] env).bind _) _ _ from q)
  have q := Got.bind (show Got ((evP r a env).bind _) _ _ from q)
  refine q.imp (fun da env1 q x G1 H1 e1 L1 r1 => ?_) fun c env' q => q
  refine ⟨B, G1, env1, tmp, L1, ?_⟩
  have q := got_rest (rel1_f r1) q
  have q := Got.bind (show Got ((evP r b env1).bind _) _ _ from q)
  refine q.imp (fun db env2 q y G2 H2 e2 L2 r2 => ?_) fun c env2 q G2 H2 e2 L2 => q G2 H2 (e1.trans e2) L2
  refine ⟨B, G2, env2, tmp, L2, ?_⟩
  have q := got_rest (rel1_f r2) q
  have q := Got.bind (show Got ((evP r c env2).bind _) _ _ from q)
  refine q.imp (fun dc env3 q z G3 H3 e3 L3 r3 => ?_) fun c env3 q G3 H3 e3 L3 => q G3 H3 ((e1.trans e2).trans e3) L3
  have q := got_rest (os := []) (rel1_f r3) q
  have q : Got (match fillO env3 [da, db, dc] with | some ds => some (.ok ds env3) | none => none) _ _ := q
  cases t : fillO env3 [da, db, dc] with
  | none => rw [t] at q; exact q.elim
  | some ds => rw [t] at q; exact q x y z G3 H3 ((e1.trans e2).trans e3) L3 (fill_ok L3 (.cons ((r1.ext e2).ext e3) (.cons (r2.ext e3) (.cons r3 .nil))) t)
theorem pe_slV {rv : V → Option Int → Option Int → Hp → VK → Prop} {te tl th : TE} (hr : SlR X rv) (he : PE X e te) (hl : PE X e1 tl) (hh : PE X e2 th) : PE X (.Subscript e (.Slice (some e1) (some e2) none p2) pos)
    (fun σ H Q => te σ H fun x H1 => tl σ H1 fun y H2 => th σ H2 fun z H3 => ∃ i, y = .int i ∧ ∃ j, z = .int j ∧ rv x (some i) (some j) H3 Q) := by
  refine ⟨fun pins s σ H Q I h => ?_⟩
  refine Subscript_ (thn (he.run pins s σ H _ I h) fun v s1 ⟨x, H1, I1, r1, q1⟩ => ?_)
  refine wpAny_Slice ?_
  rw [evalPart_some, evalPart_some]
  refine thn (hl.run pins s1 σ H1 _ I1 q1) fun vl s2 ⟨y, H2, I2, pl, q2⟩ => thn (hh.run pins s2 σ H2 _ I2 q2) fun vu s3 ⟨z, H3, I3, pu, i, ey, j, ez, q3⟩ => ?_
  subst ey
  subst ez
  obtain ⟨t1, rfl⟩ := pl
  obtain ⟨t2, rfl⟩ := pu
  rw [evalPart_none]
  refine wpAny_pure ?_
  have I4 : L2.Inv X pins σ H3 { s3 with heap := s3.heap.push { cls := .type "slice", data := .fields #[.int i t1, .int j t2, .none] } } := I3.kept (t' := s3.toks) fun b ob q => Heap.get?_push_of_some _ q
  obtain ⟨T, id, hT, ht, hg⟩ := hr pins _ σ H3 x v (.int i t1) (.int j t2) (some i) (some j) s3.heap.objs.size Q I4 r1 (Heap.IsSliceOf.new ..) (.int i t1) (.int j t2) q3
  exact tail_any (ops := [.ref s3.heap.objs.size, v]) ht hT hg (by with_unfolding_all rfl)
theorem pr_sl11 (ha : PE X e (tP p (evP r a))) (hb : PE X e1 (tP p (evP r b))) (hc : PE X e2 (tP p (evP r c))) : PE X (.Subscript e (.Slice (some e1) (some e2) none p2) pos) (tE p (stepE cx r (.prim (.sl true true) [a, b, c]))) := by
  refine pe_imp (pe_slV (slP (p := p)) ha hb hc) fun σ H Q q => ?_
  obtain ⟨B, G, env, tmp, L, q⟩ := q
  refine three_O (R3' := fun x y z H2 => ∃ i, y = .int i ∧ ∃ j, z = .int j ∧ rSlP p x (some i) (some j) H2 Q) ⟨B, G, env, tmp, L, ?_⟩
  have q := Got.bind (show Got ((evOs r [a, b, c] env).bind _) _ _ from q)
  refine q.imp (fun ds env' q x y z G' H' e1 L1 rr => ?_) fun c env' q => q
  obtain ⟨s, h9, q9⟩ := sl_inv q
  obtain ⟨dx, i, j, rfl, h8⟩ := pSl_11 h9
  cases rr with
  | cons r1 rr => cases rr with
    | cons r2 rr => cases rr with
      | cons r3 rr => exact ⟨_, r2.int, _, r3.int, B, G', σ, env', tmp, s, _, L1, r1, h8, fun v G2 H2 e2 L2 => q9 v G2 H2 (e1.trans e2) L2⟩
end
section
variable {X : Cx}
def rEmp (K : PySem.W.Frag) : R2 := fun x y H Q => ∃ a b xs, x = .ref a ∧ y = .ref b ∧ SqL K H a xs ∧ SqL K H b [] ∧ Q (.bl xs.isEmpty) H
def rNemp (K : PySem.W.Frag) : R2 := fun x y H Q => ∃ a b xs, x = .ref a ∧ y = .ref b ∧ SqL K H a xs ∧ SqL K H b [] ∧ Q (.bl (!xs.isEmpty)) H
theorem op_emp (hu : X.A.units < cLine) : OpR X (compareOp .Eq) (rEmp X.K) := by
  intro pins s σ H x y v u Q I rx ry h
  obtain ⟨a, b, xs, rfl, rfl, h1, h2, q⟩ := h
  cases rx
  cases ry
  obtain ⟨its, r, pl, hz⟩ := I.list h1
  obtain ⟨its2, r2, pl2, hz2⟩ := I.list h2
  cases r2
  cases xs with
  | nil =>
    cases r
    exact SeqAt.eq_listAt (e := fun _ => true) pl.isList pl2.isList rfl hu (fun j j1 => absurd j1 (by simp)) ⟨.bl true, H, I, rfl, q⟩
  | cons x xs =>
    cases r
    exact SeqAt.eq_list_lengthsAt pl.isList pl2.isList (by simp) hu ⟨.bl false, H, I, rfl, q⟩
theorem op_nemp (hu : X.A.units < cLine) : OpR X (compareOp .NotEq) (rNemp X.K) := by
  intro pins s σ H x y v u Q I rx ry h
  obtain ⟨a, b, xs, rfl, rfl, h1, h2, q⟩ := h
  cases rx
  cases ry
  obtain ⟨its, r, pl, hz⟩ := I.list h1
  obtain ⟨its2, r2, pl2, hz2⟩ := I.list h2
  cases r2
  cases xs with
  | nil =>
    cases r
    exact SeqAt.RcNeAt.lists (e := fun _ => true) pl.isList pl2.isList rfl hu (fun j j1 => absurd j1 (by simp)) _ _ _ _ ⟨.bl false, H, I, rfl, q⟩
  | cons x xs =>
    cases r
    exact SeqAt.RcNeAt.lists_lengths pl.isList pl2.isList (by simp) hu _ _ _ _ ⟨.bl true, H, I, rfl, q⟩
end
end EV

set_option maxRecDepth 100000
set_option maxHeartbeats 1000000
/-! Primitives: == [], reversed, isinstance, list, tuple; the W facts. -/
namespace EV
open PySem PySem.Spec PyProof.Rows L2 LamX
/-- what the classes of the package say -/
structure Wok (W : Wd) : Prop where
  exk : W.xs = true → ∀ c, c < 11 → ExcC W.K (W.exc c)
  exi : W.xs = true → ∀ c c', c < 11 → c' < 11 → PySem.W.kitOne W.K (.ref (W.exc c)) (.ref (W.exc c')) = some (c' == c || c' == 0)
  exv : W.xs = true → ∀ c, c < 11 → PySem.W.kitOne W.K (.ref (W.exc c)) (.type "ValueError") = some true
section
variable {p : Pt} {X : Cx} {r : EvR} {cx : CX} {e e1 e2 : Expr} {a b c : Opd} {pos p2 p3 p4 : Pos}
/-- a new thing that is forgotten -/
theorem Link.junk {W : Wd} {B : Bs} {C : List V} {n : Nat} {σp : L2.St} {G : Hp} {σ : L2.St} {H : Hp} {env : Env} {tmp : List (V × S)} (L : Link W B C n σp G σ H env tmp) {q : Addr} (hq : H q = none) : Link W B C n σp G σ (upd H q (.lst [])) env tmp :=
  (L.newS (s := .l false []) hq (.l upd_same .nil)).drop
theorem upd_sqL {K : PySem.W.Frag} {H : Hp} {a q : Addr} {o : HO} {xs : List V} (h : SqL K H a xs) (hq : H q = none) : SqL K (upd H q o) a xs := sqL_ext (extN_upd hq) h
theorem emp_inv {W : Wd} {C : List V} {G H : Hp} {K : PySem.W.Frag} (hK : K = W.K) {ds : List D} {x : V} {s : S} (e : ExtN G H) (rr : RRs W C G H ds [x]) (h : pEmp ds = some s) : ∃ a xs, x = .ref a ∧ SqL K H a xs ∧ s = .d (.bl xs.isEmpty) := by
  unfold pEmp at h
  split at h
  · cases h
    obtain ⟨a, rfl, h1⟩ := (rr1 rr).scr e
    exact ⟨a, _, rfl, by rw [hK]; exact h1, by rename_i l; cases l <;> rfl⟩
  · cases h
    obtain ⟨a, vs, rfl, h1, h2⟩ := (rr1 rr).lst e
    refine ⟨a, _, rfl, .of h1, ?_⟩
    cases h2 <;> rfl
  · cases h
theorem nemp_inv {W : Wd} {C : List V} {G H : Hp} {K : PySem.W.Frag} {ds : List D} {x : V} {s : S} (e : ExtN G H) (rr : RRs W C G H ds [x]) (h : pNemp ds = some s) : ∃ a xs, x = .ref a ∧ SqL K H a xs ∧ s = .d (.bl (!xs.isEmpty)) := by
  unfold pNemp at h
  split at h
  · cases h
    obtain ⟨a, vs, rfl, h1, h2⟩ := (rr1 rr).lst e
    refine ⟨a, _, rfl, .of h1, ?_⟩
    cases h2 <;> rfl
  · cases h
theorem im_emp (hK : X.K = p.W.K) {σ : L2.St} {H : Hp} {Q : VK} (q : tE p (stepE cx r (.prim .emp [a])) σ H Q) : tOp (rEmp X.K) (tP p (evP r a)) (tLst tNil) σ H Q := by
  obtain ⟨B, G, env, tmp, L, q⟩ := q
  refine one_O ⟨B, G, env, tmp, L, ?_⟩
  have q := Got.bind (show Got ((evOs r [a] env).bind _) _ _ from q)
  refine q.imp (fun ds env' q x G' H' e1 L1 rr => ?_) fun c env' q => q
  cases t : prim .emp ds with
  | none => rw [t] at q; exact q.elim
  | some s =>
    rw [t] at q
    obtain ⟨a, xs, rfl, h1, rfl⟩ := emp_inv hK L1.sub rr t
    refine ⟨Nat.zero_le _, fun l hl => ⟨a, l, xs, rfl, rfl, upd_sqL h1 hl, .of upd_same, ?_⟩⟩
    exact q _ _ _ e1 ((L1.junk hl).push (.bl _))
theorem pr_emp (hK : X.K = p.W.K) (hu : X.A.units < cLine) (ha : PE X e (tP p (evP r a))) : PE X (.Compare e [.Eq] [.List [] p2] pos) (tE p (stepE cx r (.prim .emp [a]))) :=
  pe_imp (pe_cmpR (op_emp hu) ha (pe_lst pa_nil) rfl) fun σ H Q q => im_emp hK q
theorem im_nemp {σ : L2.St} {H : Hp} {Q : VK} (q : tE p (stepE cx r (.prim .nemp [a])) σ H Q) : tOp (rNemp X.K) (tP p (evP r a)) (tLst tNil) σ H Q := by
  obtain ⟨B, G, env, tmp, L, q⟩ := q
  refine one_O ⟨B, G, env, tmp, L, ?_⟩
  have q := Got.bind (show Got ((evOs r [a] env).bind _) _ _ from q)
  refine q.imp (fun ds env' q x G' H' e1 L1 rr => ?_) fun c env' q => q
  cases t : prim .nemp ds with
  | none => rw [t] at q; exact q.elim
  | some s =>
    rw [t] at q
    obtain ⟨a, xs, rfl, h1, rfl⟩ := nemp_inv (K := X.K) L1.sub rr t
    refine ⟨Nat.zero_le _, fun l hl => ⟨a, l, xs, rfl, rfl, upd_sqL h1 hl, .of upd_same, ?_⟩⟩
    exact q _ _ _ e1 ((L1.junk hl).push (.bl _))
theorem pr_nemp (hu : X.A.units < cLine) (ha : PE X e (tP p (evP r a))) : PE X (.Compare e [.NotEq] [.List [] p2] pos) (tE p (stepE cx r (.prim .nemp [a]))) :=
  pe_imp (pe_cmpR (op_nemp hu) ha (pe_lst pa_nil) rfl) fun σ H Q q => im_nemp q
theorem pr_rev {k : Nat} (ha : PE X e (tP p (evP r a))) : PE X (.Subscript e (.Slice none none (some (.UnaryOp .USub (.Constant (.int 1) k p2) p3)) p4) pos) (tE p (stepE cx r (.prim .rev [a]))) := by
  refine pe_imp (pe_revL ha) fun σ H Q q => ?_
  obtain ⟨B, G, env, tmp, L, q⟩ := q
  refine one_O ⟨B, G, env, tmp, L, ?_⟩
  have q := Got.bind (show Got ((evOs r [a] env).bind _) _ _ from q)
  refine q.imp (fun ds env' q x G' H' e1 L1 rr => ?_) fun c env' q => q
  cases t : prim .rev ds with
  | none => rw [t] at q; exact q.elim
  | some s =>
    rw [t] at q
    have t : pRev ds = some s := t
    unfold pRev at t
    split at t
    · cases t
      obtain ⟨a, vs, rfl, h1, h2⟩ := (rr1 rr).lst L1.sub
      exact ⟨a, vs, rfl, .of h1, fun l hl => q _ _ _ e1 (L1.newS hl (.l upd_same h2.reverse))⟩
    · cases t
/-! isinstance -/
def tyVal (W : Wd) : Ty → V
  | .int => .ty "int"
  | .bool => .ty "bool"
  | .str => .ty "str"
  | .tuple => .ty "tuple"
  | .list => .ty "list"
  | .exc c => .ref (W.exc c)
  | .valueError => .ty "ValueError"
def tyOk : Ty → Bool
  | .exc c => decide (c < 11)
  | _ => true
/-- isinstance of an exception that is known -/
def rIsX (K : PySem.W.Frag) (D : Addr) : List V → Hp → VK → Prop := fun xs H Q => ∃ (a : Addr) (c : V) (cv : Value) (b : Bool), xs = [.ref a, c] ∧ (∀ u, RelV c u → u = cv) ∧ PySem.W.kitOne K (.ref D) cv = some b ∧
  H a = some (.ext fun h => ∃ (oe : Obj) (vs : Array Value), h.get? a = some oe ∧ Zc (.ref D) none oe ∧ oe.data = .fields vs) ∧ Q (.bl b) H
theorem call_isX {D : Addr} (C : ExcC X.K D) : CallR X (.builtin "isinstance") (rIsX X.K D) := by
  intro pins s σ H xs us Q I r h
  obtain ⟨a, c, cv, b, rfl, hcv, e, hx, q⟩ := h
  cases r with
  | cons rx rr =>
    cases rr with
    | cons rt rr =>
      cases rr
      cases rx
      have ec := hcv _ rt
      subst ec
      obtain ⟨oe, vs, hget, hz, hv⟩ := (I.hok a _ hx).1
      have J : PySem.W.InstAt s.heap a oe D none := by
        obtain ⟨oc, od, oda, osl⟩ := oe
        obtain ⟨h1, h2⟩ := hz
        dsimp only at h1 h2 hv
        subst h1 h2 hv
        exact ⟨hget, rfl, rfl, trivial⟩
      exact PySem.W.kia_one (PySem.W.handS_kitx_exc C.hg C.hk C.hs C.hd C.ha C.hn C.ht C.hm) I.kIn J e (fun z => nomatch z) fun tk => ⟨.bl b, H, I.kept (t' := tk) fun _ _ z => z, rfl, q⟩
def tyName : Ty → String
  | .int => "int"
  | .bool => "bool"
  | .str => "str"
  | .tuple => "tuple"
  | .list => "list"
  | _ => ""
def tyNm : D → String
  | .non => "NoneType"
  | .bl _ => "bool"
  | .int _ => "int"
  | .str _ => "str"
  | .tup _ => "tuple"
  | .lst _ => "list"
  | _ => ""
def plainTy : Ty → Bool
  | .exc _ => false
  | .valueError => false
  | _ => true
theorem isTy_plain {K : PySem.W.Frag} {t : Ty} {d : D} {b : Bool} (ht : plainTy t = true) (h : isTy t d = some b) : PySem.W.kitOne K (.type (tyNm d)) (.type (tyName t)) = some b ∧ tyNm d ≠ "" := by
  cases t <;> first | (simp [plainTy] at ht; done) | (cases d <;> first | (simp [isTy] at h; done) | (simp only [isTy, Option.some.injEq] at h; subst h; exact ⟨rfl, by simp [tyNm]⟩))
theorem rr_ty {W : Wd} {C : List V} {G H : Hp} {K : PySem.W.Frag} {d : D} {v : V} (e : ExtN G H) (h : RR W C G H d v) (hd : tyNm d ≠ "") : TyX K H v (.type (tyNm d)) := by
  cases d with
  | non => rw [h.non]; exact .base .non
  | bl b => rw [h.bl]; exact .base (.bl _)
  | int b => rw [h.int]; exact .base (.int _)
  | str b => rw [h.str]; exact .base (.str _)
  | tup b => obtain ⟨a, vs, rfl, h1, _⟩ := h.tup e; exact .base (.tup h1)
  | lst b => obtain ⟨a, vs, rfl, h1, _⟩ := h.lst e; exact .base (.lst h1)
  | _ => exact absurd rfl hd
def tIsi (p : Pt) (t : Ty) : List V → Hp → VK → Prop := fun vs H Q => ∃ x dx, vs = [x, tyVal p.W t] ∧ Nxt p [dx] [x] (prim (.isi t) [dx]) H Q
theorem RR.exc {W : Wd} {C : List V} {G H : Hp} {c : Nat} {v : V} (e : ExtN G H) (h : RR W C G H (.exc c) v) : ∃ a, v = .ref a ∧ W.xs = true ∧ c < 11 ∧ H a = some (.ext fun h => ∃ (oe : Obj) (vs : Array Value), h.get? a = some oe ∧ Zc (.ref (W.exc c)) none oe ∧ oe.data = .fields vs) := by
  cases h.rep (fun _ => by simp) (fun _ _ => by simp) (fun _ _ => by simp) with
  | exc hx hc h1 => exact ⟨_, rfl, hx, hc, e _ _ h1 fun _ z => (by cases z)⟩
theorem call_isiP {t : Ty} (hK : X.K = p.W.K) (ok : Wok p.W) (ht : tyOk t = true) : CallR X (.builtin "isinstance") (tIsi p t) := by
  intro pins s σ H xs us Q I rv h
  obtain ⟨x, dx, rfl, B, G, σ0, env, tmp, s0, L, rr, h0, k⟩ := h
  have r1 := rr1 rr
  obtain ⟨b, hs, rfl⟩ := bl?_some (show bl? (isTy t dx) = some s0 from h0)
  by_cases hp : plainTy t = true
  · obtain ⟨h1, h2⟩ := isTy_plain (K := X.K) hp hs
    refine call_isi pins s σ H _ us Q I rv ⟨x, tyVal p.W t, _, .type (tyName t), b, rfl, ?_, rr_ty L.sub r1 h2, h1, fin_d L k (.bl _)⟩
    cases t <;> first | exact .ty _ | (simp [plainTy] at hp; done)
  · have hx : ∃ c, dx = .exc c ∧ ((∃ c', t = .exc c' ∧ b = (c' == c || c' == 0)) ∨ (t = .valueError ∧ b = true)) := by
      cases t <;> first | exact absurd rfl hp | (cases dx <;> first | (simp [isTy] at hs; done) | (simp only [isTy, Option.some.injEq] at hs; subst hs; exact ⟨_, rfl, .inl ⟨_, rfl, rfl⟩⟩) | (simp only [isTy, Option.some.injEq] at hs; subst hs; exact ⟨_, rfl, .inr ⟨rfl, rfl⟩⟩))
    obtain ⟨c, rfl, hx⟩ := hx
    obtain ⟨a, rfl, hxs, hc, ha⟩ := r1.exc L.sub
    rcases hx with ⟨c', rfl, rfl⟩ | ⟨rfl, rfl⟩
    · refine call_isX (D := p.W.exc c) (by rw [hK]; exact ok.exk hxs c hc) pins s σ H _ us Q I rv ⟨a, .ref (p.W.exc c'), .ref (p.W.exc c'), _, rfl, fun u z => z, by rw [hK]; exact ok.exi hxs c c' hc (of_decide_eq_true ht), ha, fin_d L k (.bl _)⟩
    · exact call_isX (D := p.W.exc c) (by rw [hK]; exact ok.exk hxs c hc) pins s σ H _ us Q I rv ⟨a, .ty "ValueError", .type "ValueError", _, rfl, fun u z => z, by rw [hK]; exact ok.exv hxs c hc, ha, fin_d L k (.bl _)⟩
end
section
variable {p : Pt} {X : Cx} {r : EvR} {cx : CX} {e e2 : Expr} {a : Opd} {t : Ty}
theorem pr_isi {ec : Expr} (h : PE X e2 (tCB (tIsi p t) (tCons (tP p (evP r a)) (tCons (tC (tyVal p.W t)) tNil)))) : PE X e2 (tE p (stepE cx r (.prim (.isi t) [a]))) := by
  refine pe_imp h fun σ H Q q => ?_
  obtain ⟨B, G, env, tmp, L, q⟩ := q
  refine one_O (R1' := fun x H1 => tIsi p t [x, tyVal p.W t] H1 Q) ⟨B, G, env, tmp, L, ?_⟩
  have q := Got.bind (show Got ((evOs r [a] env).bind _) _ _ from q)
  refine q.imp (fun ds env' q x G' H' e1 L1 rr => ?_) fun c env' q => q
  cases ds with
  | nil => cases rr
  | cons d1 ds =>
    cases ds with
    | cons d2 ds => cases rr with | cons h1 h2 => cases h2
    | nil =>
        cases t1 : prim (.isi t) [d1] with
        | none => rw [t1] at q; exact q.elim
        | some s =>
          rw [t1] at q
          exact ⟨x, d1, rfl, B, G', σ, env', tmp, s, L1, rr, t1, fun v G2 H2 e2 L2 => q v G2 H2 (e1.trans e2) L2⟩
theorem callP_list : CallR X (.type "list") (rPs p .list) := by
  refine callr_imp call_list_of fun vs H Q q => ?_
  obtain ⟨ds, B, G, σ, env, tmp, s, L, rr, h0, k⟩ := q
  have hs : pList ds = some s := h0
  clear h0
  unfold pList at hs
  split at hs
  · cases hs
    obtain ⟨v, rfl, r1⟩ := rrs1 rr
    obtain ⟨a, ws, rfl, h1, h2⟩ := r1.lst L.sub
    exact ⟨a, ws, rfl, .inl (.of h1), fun b hb => fin_l L k h2 hb⟩
  · cases hs
    obtain ⟨v, rfl, r1⟩ := rrs1 rr
    obtain ⟨a, ws, rfl, h1, h2⟩ := r1.tup L.sub
    exact ⟨a, ws, rfl, .inr (.of h1), fun b hb => fin_l L k h2 hb⟩
  · cases hs
theorem callP_tuple : CallR X (.type "tuple") (rPs p .tuple) := by
  refine callr_imp call_tuple_of fun vs H Q q => ?_
  obtain ⟨ds, B, G, σ, env, tmp, s, L, rr, h0, k⟩ := q
  have hs : pTuple ds = some s := h0
  clear h0
  unfold pTuple at hs
  split at hs
  · cases hs
    obtain ⟨v, rfl, r1⟩ := rrs1 rr
    obtain ⟨a, ws, rfl, h1, h2⟩ := r1.lst L.sub
    exact ⟨a, ws, rfl, .inl ⟨.of h1, fun b hb => fin_t L k h2 hb⟩⟩
  · cases hs
    obtain ⟨v, rfl, r1⟩ := rrs1 rr
    have hr := r1.rep (fun _ => by simp) (fun _ _ => by simp) (fun _ _ => by simp)
    obtain ⟨a, ws, rfl, h1, h2⟩ := r1.tup L.sub
    exact ⟨a, ws, rfl, .inr ⟨.of h1, fin_d L k hr⟩⟩
  · cases hs
end
end EV

set_option maxRecDepth 100000
set_option maxHeartbeats 1000000
/-! The context; expressions. -/
namespace EV
open PySem PySem.Spec PyProof.Rows L2 LamX
/-- what a global name stands for -/
inductive GK where
  | fn (f : Nat) | cls (c : Nat) | exc (c : Nat) | cst (v : V) | bi
def MgOk (W : Wd) (mg : Str → Option Value) : Str × GK → Prop
  | (x, .fn f) => mg x = some (.ref (W.fnA f))
  | (x, .cls c) => mg x = some (.ref (W.cls c))
  | (x, .exc c) => mg x = some (.ref (W.exc c))
  | (x, .cst v) => ∃ u, mg x = some u ∧ RelV v u
  | (x, .bi) => mg x = none
/-- what is known of a block of code by its text -/
structure GX where
  N : List Str
  sc : Scope
  gt : List (Str × GK)
def GX.blk (g : GX) (scope : Scope) : GX := ⟨g.N, relS scope g.sc, g.gt⟩
/-- a context of that text -/
structure Ctx (g : GX) (X : Cx) (p : Pt) (k : Nat) : Prop where
  prog : X.prog = p.W.P
  w : X.w = p.W.w
  K : X.K = p.W.K
  N : X.N = g.N
  n : p.n = g.N.length
  nd : g.N.Nodup
  sc : X.env.scope = g.sc
  calm : X.calm = true
  mg : ∀ q ∈ g.gt, MgOk p.W X.mg q
  room : Room k X.A
  takes : Takes X p.Wx
  wok : Wok p.W
section
variable {g : GX} {X : Cx} {p : Pt} {k : Nat}
theorem Ctx.units (h : Ctx g X p k) : X.A.units + 65 < cLine := by have := h.room.un; omega
def visB (sc : Scope) (x : Str) : Bool := match sc.names.lookup x with
  | some .local => true
  | some .cell => true
  | some .free => true
  | _ => false
theorem vis_of {sc : Scope} {x : Str} (h : visB sc x = true) : Vis sc x := by
  unfold visB at h
  unfold Vis
  split at h
  · rename_i q; exact .inl q
  · rename_i q; exact .inr (.inl q)
  · rename_i q; exact .inr (.inr q)
  · cases h
def glB (sc : Scope) (x : Str) : Bool := match sc.names.lookup x with
  | some .globalImplicit => true
  | _ => false
theorem Ctx.gl (h : Ctx g X p k) {x : Str} (hx : glB g.sc x = true) : Gl X x := by
  unfold glB at hx
  show X.env.scope.names.lookup x = some .globalImplicit
  rw [h.sc]
  split at hx
  · assumption
  · cases hx
def plainNm (x : Str) : Bool := !(x == ("__debug__" : Str)) && !(x == ("__classdict__" : Str)) && !(x == ("__name__" : Str))
theorem pn_d {x : Str} (h : plainNm x = true) : (x == ("__debug__" : Str)) = false := by
  unfold plainNm at h
  rw [Bool.and_eq_true, Bool.and_eq_true] at h
  simpa using h.1.1
theorem pn_c {x : Str} (h : plainNm x = true) : (x == ("__classdict__" : Str)) = false := by
  unfold plainNm at h
  rw [Bool.and_eq_true, Bool.and_eq_true] at h
  simpa using h.1.2
theorem pn_n {x : Str} (h : plainNm x = true) : x ≠ "__name__" := by
  unfold plainNm at h
  rw [Bool.and_eq_true, Bool.and_eq_true] at h
  simpa using h.2
end
/-- expressions, operands -/
def AE (X : Cx) (p : Pt) (cx : CX) (e : Expr) (x : IE) : Prop := ∀ n, PE X e (tE p ((evN cx n).e x))
def AO (X : Cx) (p : Pt) (cx : CX) (e : Expr) (x : Opd) : Prop := ∀ n, PE X e (tP p (evP (evN cx n) x))
def AOs (X : Cx) (p : Pt) (cx : CX) (es : List Expr) (xs : List Opd) : Prop := ∀ n, PA X es (tO p (evOs (evN cx n) xs))
def AB (X : Cx) (p : Pt) (cx : CX) (e : Expr) (x : IE) : Prop := ∀ n, PT X e (tBl p (evB (evN cx n) x))
theorem pe_no {X : Cx} {p : Pt} {e : Expr} : PE X e (tE p fun _ => none) := ⟨fun _ _ _ _ _ _ ⟨_, _, _, _, _, h⟩ => h.elim⟩
theorem ae_step {X : Cx} {p : Pt} {cx : CX} {e : Expr} {x : IE} (h : ∀ n, PE X e (tE p (stepE cx (evN cx n) x))) : AE X p cx e x := fun n => match n with
  | 0 => pe_no
  | n + 1 => h n
section
variable {g : GX} {X : Cx} {p : Pt} {k : Nat} {cx : CX} {e e1 e2 e3 : Expr} {pos : Pos}
theorem ao_e {x : IE} (h : AE X p cx e x) : AO X p cx e (.e x) := fun n => pe_P (h n)
theorem ao_v (h : Ctx g X p k) {i : Nat} {x : Str} (hN : g.N[i]? = some x) (hv : visB g.sc x = true) (hp : plainNm x = true) : AO X p cx (.Name x pos) (.p (.s i)) := fun n =>
  pe_Pv (by rw [h.N]; exact hN) (by rw [h.sc]; exact vis_of hv) (by rw [h.n]; exact (List.getElem?_eq_some_iff.mp hN).1) (pn_d hp) (pn_c hp)
/-- a slot that holds data -/
theorem ae_var (h : Ctx g X p k) {i : Nat} {x : Str} (hN : g.N[i]? = some x) (hv : visB g.sc x = true) (hp : plainNm x = true) : AE X p cx (.Name x pos) (.var i) := by
  refine ae_step fun n => pe_imp (pe_var (by rw [h.N]; exact hN) (by rw [h.sc]; exact vis_of hv) (pn_d hp) (pn_c hp)) fun σ H Q q => ?_
  obtain ⟨B, G, env, tmp, L, q⟩ := q
  have hi : i < p.n := by rw [h.n]; exact (List.getElem?_eq_some_iff.mp hN).1
  simp only [stepE] at q
  split at q
  · rename_i d hd
    obtain ⟨v, A0, h2, h3⟩ := L.getU hd hi
    cases h3 with
    | d h3 => exact ⟨v, h2, q v G H (ExtN.refl G) (L.push h3)⟩
  · exact q.elim
/-- constants -/
theorem ae_tC {v : V} {d : D} (he : PE X e (tC v)) (hr : ∀ G, Rep p.W G d v) : PE X e (tE p fun env => some (.ok (.d d) env)) := by
  refine pe_imp he fun σ H Q q => ?_
  obtain ⟨B, G, env, tmp, L, q⟩ := q
  exact q v G H (ExtN.refl G) (L.push (hr G))
theorem ae_int {i : Int} {j : Nat} : AE X p cx (.Constant (.int i) j pos) (.cst (.int i)) := ae_step fun n => ae_tC pe_int fun G => .int i
theorem ae_bl {i : Bool} {j : Nat} : AE X p cx (.Constant (.bool i) j pos) (.cst (.bl i)) := ae_step fun n => ae_tC pe_bl fun G => .bl i
theorem ae_non {j : Nat} : AE X p cx (.Constant .none j pos) (.cst .non) := ae_step fun n => ae_tC pe_non fun G => .non
theorem ae_str {x : Str} {s : List Nat} {j : Nat} (hx : x.cps.toList = s) : AE X p cx (.Constant (.str x) j pos) (.cst (.str s)) := by
  have e : x = ⟨s.toArray⟩ := by subst hx; cases x; simp
  subst e
  exact ae_step fun n => ae_tC pe_str fun G => .str s
/-- a module's constant -/
theorem ae_glb (h : Ctx g X p k) {i j : Nat} {x : Str} {v : V} {d : D} (hg : g.gt[i]? = some (x, .cst v)) (hx : glB g.sc x = true) (hp : plainNm x = true) (hd : ∀ G, Rep p.W G d v) : AE X p cx (.Name x pos) (.glb j d) := by
  obtain ⟨u, h1, h2⟩ := h.mg _ (List.mem_of_getElem? hg)
  exact ae_step fun n => ae_tC (pe_glob (h.gl hx) h1 h2 (pn_d hp)) hd
/-- a def as a value -/
theorem ae_fnv (h : Ctx g X p k) {i f : Nat} {x : Str} (hk : PySem.W.keepIn p.W.K (.ref (p.W.fnA f)) = true) (hg : g.gt[i]? = some (x, .fn f)) (hx : glB g.sc x = true) (hp : plainNm x = true) : AE X p cx (.Name x pos) (.fnv f) := by
  have h1 := h.mg _ (List.mem_of_getElem? hg)
  exact ae_step fun n => ae_tC (pe_glob (h.gl hx) h1 (show RelV (.ref (p.W.fnA f)) _ from rfl) (pn_d hp)) fun G => .fnr f hk
end
/-! ### lists of expressions -/
def ADs (X : Cx) (p : Pt) (cx : CX) (es : List Expr) (xs : List IE) : Prop := ∀ n, PA X es (tDs p (evDs (evN cx n) xs))
/-- no star -/
def noStar : Expr → Bool
  | .Starred _ _ => false
  | _ => true
theorem star_cons {e : Expr} {es : List Expr} {env : PySem.Env} (h : noStar e = true) : starEach (e :: es) env = (false, eval e env) :: starEach es env := by
  cases e <;> first | rfl | (simp [noStar] at h; done)
theorem backTo_any (pos : Pos) : ∀ l : List (Bool × Sem Value), (backTo pos l).any (·.1) = l.any (·.1)
  | [] => rfl
  | (b, t) :: l => by
    show (b || (backTo pos l).any (·.1)) = (b || l.any (·.1))
    rw [backTo_any pos l]
theorem star_none {env : PySem.Env} {pos : Pos} : ∀ {es : List Expr}, es.all noStar = true → (backTo pos (starEach es env)).any (·.1) = false
  | [], _ => rfl
  | e :: es, h => by
    rw [List.all_cons, Bool.and_eq_true] at h
    have ih := star_none (env := env) (pos := pos) h.2
    rw [backTo_any] at ih ⊢
    rw [star_cons h.1]
    exact ih
section
variable {g : GX} {X : Cx} {p : Pt} {k : Nat} {cx : CX} {e e1 e2 e3 : Expr} {es : List Expr} {pos pos2 : Pos}
theorem ads_nil : ADs X p cx [] [] := fun n => pa_Dnil
theorem ads_cons {x : IE} {xs : List IE} (h : AE X p cx e x) (hs : ADs X p cx es xs) (hst : noStar e = true := by rfl) : ADs X p cx (e :: es) (x :: xs) := fun n => pa_Dcons (h n) (hs n) (star_cons hst)
def AP1 (X : Cx) (p : Pt) (cx : CX) (es : List Expr) (xs : List Opd) : Prop := ∀ n, PA X es (tPs p (evO1 (evN cx n) xs))
theorem ap1_nil : AP1 X p cx [] [] := fun n => pa_Pnil
theorem ap1_cons {x : Opd} {xs : List Opd} (h : AO X p cx e x) (hs : AP1 X p cx es xs) (hst : noStar e = true := by rfl) : AP1 X p cx (e :: es) (x :: xs) := fun n => pa_Pcons (h n) (hs n) (star_cons hst)
theorem aos_of {xs : List Opd} (h : AP1 X p cx es xs) : AOs X p cx es xs := fun n => pa_O (h n)
theorem ds_len {r : EvR} : ∀ {xs : List IE} {env env' : Env} {ds : List D}, evDs r xs env = some (.ok ds env') → ds.length = xs.length
  | [], _, _, _, h => by simp only [evDs] at h; cases h; rfl
  | x :: xs, env, env', ds, h => by
    simp only [evDs] at h
    cases q : evD r x env with
    | none => rw [q] at h; cases h
    | some o => cases o with
      | exn c e => rw [q] at h; cases h
      | ok d e1 =>
        rw [q] at h
        have h : (evDs r xs e1).bind (fun ds env'' => some (.ok (d :: ds) env'')) = some (.ok ds env') := h
        cases q2 : evDs r xs e1 with
        | none => rw [q2] at h; cases h
        | some o => cases o with
          | exn c e => rw [q2] at h; cases h
          | ok ds2 e2 =>
            rw [q2] at h
            cases h
            simp [ds_len q2]
theorem sizeLine_num : sizeLine = 16777216 := by decide
theorem len_line {n : Nat} (h : n ≤ 1000) : n ≤ sizeLine := by rw [sizeLine_num]; omega
theorem ae_tup {j : Nat} {xs : List IE} (h : ADs X p cx es xs) (hl : xs.length ≤ 1000 := by decide) : AE X p cx (.Tuple es j pos) (.tup xs) := by
  refine ae_step fun n => pe_imp (pe_tup (h n)) fun σ H Q q => ?_
  obtain ⟨B, G, env, tmp, L, q⟩ := q
  refine ⟨B, G, env, tmp, L, ?_⟩
  have q := Got.bind (show Got ((evDs (evN cx n) xs env).bind _) _ _ from q)
  cases t : evDs (evN cx n) xs env with
  | none => rw [t] at q; exact q.elim
  | some o =>
    rw [t] at q
    cases o with
    | exn c e => exact q
    | ok ds env' =>
      intro vs G' H' e1 L1 r1
      refine ⟨by rw [← r1.length, ds_len t]; exact len_line hl, fun a ha => ?_⟩
      obtain ⟨L2, e2⟩ := L1.newG (o := .tup vs) ha fun _ z => by cases z
      exact q _ _ _ (e1.trans e2) (L2.push (.tup upd_same (r1.ext' e2)))
theorem ae_lst {xs : List IE} (h : ADs X p cx es xs) (hl : xs.length ≤ 1000 := by decide) : AE X p cx (.List es pos) (.lst xs) := by
  refine ae_step fun n => pe_imp (pe_lst (h n)) fun σ H Q q => ?_
  obtain ⟨B, G, env, tmp, L, q⟩ := q
  refine ⟨B, G, env, tmp, L, ?_⟩
  have q := Got.bind (show Got ((evDs (evN cx n) xs env).bind _) _ _ from q)
  cases t : evDs (evN cx n) xs env with
  | none => rw [t] at q; exact q.elim
  | some o =>
    rw [t] at q
    cases o with
    | exn c e => exact q
    | ok ds env' =>
      intro vs G' H' e1 L1 r1
      refine ⟨by rw [← r1.length, ds_len t]; exact len_line hl, fun a ha => ?_⟩
      exact q _ _ _ e1 (L1.newS ha (.l upd_same r1))
/-! tests -/
/-- the truth of any other expression is asked of its value -/
def plainT : Expr → Bool
  | .BoolOp _ _ _ => false
  | .UnaryOp .Not _ _ => false
  | .IfExp _ _ _ _ => false
  | .Compare _ _ _ _ => false
  | _ => true
theorem plainT_ok {env : PySem.Env} (h : plainT e = true) : ∀ whole, isTrue e env whole = (do let v ← whole; standAt e.pos; holding [v] (truthy v)) := fun whole => by
  cases e with
  | UnaryOp op a pos => cases op <;> first | rfl | (simp [plainT] at h; done)
  | _ => first | rfl | (simp [plainT] at h; done)
theorem ab_val {x : IE} (h : AE X p cx e x) (hp : plainT e = true := by rfl) : AB X p cx e x := fun n => pt_D (h n) (plainT_ok hp)
theorem pt_no {X : Cx} {p : Pt} {e : Expr} : PT X e (tBl p fun _ => none) := ⟨fun _ _ _ _ _ _ ⟨_, _, _, _, _, h⟩ => h.elim⟩
theorem ab_step {x : IE} (h : ∀ n, PT X e (tBl p (evB ⟨stepE cx (evN cx n), stepS cx (evN cx n)⟩ x))) : AB X p cx e x := fun n => match n with
  | 0 => pt_no
  | n + 1 => h n
def AW (X : Cx) (p : Pt) (cx : CX) (e : Expr) (x : IE) : Prop := ∀ n, PW X e (tBl p (evB (evN cx n) x))
theorem aw_ab {x : IE} (h : AW X p cx e x) : AB X p cx e x := fun n => (h n).pt
theorem pw_no {X : Cx} {p : Pt} {e : Expr} : PW X e (tBl p fun _ => none) := ⟨fun _ _ _ _ _ _ _ ⟨_, _, _, _, _, h⟩ => h.elim⟩
theorem aw_step {x : IE} (h : ∀ n, PW X e (tBl p (evB ⟨stepE cx (evN cx n), stepS cx (evN cx n)⟩ x))) : AW X p cx e x := fun n => match n with
  | 0 => pw_no
  | n + 1 => h n
/-! and, or, not, if else -/
theorem evB_and {r : EvR} {a b : IE} {env : Env} : evB ⟨stepE cx r, stepS cx r⟩ (.and a b) env = (evB r a env).bind fun c env' => if c then evB r b env' else some (.ok false env') := by
  show (R.bind (R.bind (evB r a env) _) _) = _
  cases evB r a env with
  | none => rfl
  | some o => cases o with
    | exn c e => rfl
    | ok c e => cases c <;> rfl
theorem evB_or {r : EvR} {a b : IE} {env : Env} : evB ⟨stepE cx r, stepS cx r⟩ (.or a b) env = (evB r a env).bind fun c env' => if c then some (.ok true env') else evB r b env' := by
  show (R.bind (R.bind (evB r a env) _) _) = _
  cases evB r a env with
  | none => rfl
  | some o => cases o with
    | exn c e => rfl
    | ok c e => cases c <;> rfl
theorem evB_not {r : EvR} {a : IE} {env : Env} : evB ⟨stepE cx r, stepS cx r⟩ (.not a) env = (evB r a env).bind fun c env' => some (.ok (!c) env') := by
  show (R.bind (R.bind (evB r a env) _) _) = _
  cases evB r a env with
  | none => rfl
  | some o => cases o with
    | exn c e => rfl
    | ok c e => rfl
theorem tBl_bind {f : Env → R Bool} {g : Bool → Env → R Bool} {h : Env → R Bool} {σ : L2.St} {H : Hp} {Q Q' : Bool → Hp → Prop} (q : tBl p h σ H Q) (hh : ∀ env, h env = (f env).bind g)
    (hk : ∀ c H1, tBl p (g c) σ H1 Q → Q' c H1) : tBl p f σ H Q' := by
  obtain ⟨B, G, env, tmp, L, q⟩ := q
  rw [hh] at q
  refine ⟨B, G, env, tmp, L, q.bind.imp (fun c env' q G' H' e1 L1 => hk c H' ⟨B, G', env', tmp, L1, ?_⟩) fun c env' q => q⟩
  exact q.imp (fun c env' q G2 H2 e2 L2 => q G2 H2 (e1.trans e2) L2) fun c env' q G2 H2 e2 L2 => q G2 H2 (e1.trans e2) L2
theorem tBl_ok {b : Bool} {σ : L2.St} {H : Hp} {Q : Bool → Hp → Prop} (q : tBl p (fun env => some (.ok b env)) σ H Q) : Q b H := by
  obtain ⟨B, G, env, tmp, L, q⟩ := q
  exact q G H (ExtN.refl G) L
theorem aw_and {a b : IE} {rest : List Expr} (ha : AB X p cx e1 a) (hb : AW X p cx (.BoolOp .And (e2 :: rest) pos) b) : AW X p cx (.BoolOp .And (e1 :: e2 :: rest) pos) (.and a b) :=
  aw_step fun n => pw_imp (pw_and (ha n) (hb n)) fun σ H Q q => tBl_bind q (fun env => evB_and) fun c H1 q => by
    cases c with
    | true => rw [if_pos rfl]; exact q
    | false => rw [if_neg (by decide)]; exact tBl_ok q
theorem aw_or {a b : IE} {rest : List Expr} (ha : AB X p cx e1 a) (hb : AW X p cx (.BoolOp .Or (e2 :: rest) pos) b) : AW X p cx (.BoolOp .Or (e1 :: e2 :: rest) pos) (.or a b) :=
  aw_step fun n => pw_imp (pw_or (ha n) (hb n)) fun σ H Q q => tBl_bind q (fun env => evB_or) fun c H1 q => by
    cases c with
    | true => rw [if_pos rfl]; exact tBl_ok q
    | false => rw [if_neg (by decide)]; exact q
theorem aw_and1 {a : IE} (ha : AB X p cx e1 a) : AW X p cx (.BoolOp .And [e1] pos) a := fun n => pw_and1 (ha n)
theorem aw_or1 {a : IE} (ha : AB X p cx e1 a) : AW X p cx (.BoolOp .Or [e1] pos) a := fun n => pw_or1 (ha n)
theorem ab_not {a : IE} (ha : AB X p cx e1 a) : AB X p cx (.UnaryOp .Not e1 pos) (.not a) :=
  ab_step fun n => pt_imp (pt_not (ha n)) fun σ H Q q => tBl_bind q (fun env => evB_not) fun c H1 q => tBl_ok q
/-! as values -/
theorem evE_and {r : EvR} {a b : IE} {env : Env} : stepE cx r (.and a b) env = (evB r a env).bind fun c env' => if c then r.e b env' else some (.ok (.d (.bl false)) env') := rfl
theorem tE_evB {r : EvR} {a : IE} {g : Bool → Env → R S} {h : Env → R S} {σ : L2.St} {H : Hp} {Q : VK} {Q' : Bool → Hp → Prop} (q : tE p h σ H Q) (hh : ∀ env, h env = (evB r a env).bind g) (hk : ∀ c H1, tE p (g c) σ H1 Q → Q' c H1) : tBl p (evB r a) σ H Q' := by
  obtain ⟨B, G, env, tmp, L, q⟩ := q
  rw [hh] at q
  refine ⟨B, G, env, tmp, L, q.bind.imp (fun c env' q G' H' e1 L1 => hk c H' ⟨B, G', env', tmp, L1, ?_⟩) fun c env' q => q⟩
  exact q.imp (fun c env' q v G2 H2 e2 L2 => q v G2 H2 (e1.trans e2) L2) fun c env' q G2 H2 e2 L2 => q G2 H2 (e1.trans e2) L2
theorem tE_ok {d : D} {v : V} {σ : L2.St} {H : Hp} {Q : VK} (hr : ∀ G, Rep p.W G d v) (q : tE p (fun env => some (.ok (.d d) env)) σ H Q) : Q v H := by
  obtain ⟨B, G, env, tmp, L, q⟩ := q
  exact q v G H (ExtN.refl G) (L.push (hr G))
theorem ae_and {a b : IE} {rest : List Expr} (ha : AE X p cx e1 a) (hb : AE X p cx (.BoolOp .And (e2 :: rest) pos) b) : AE X p cx (.BoolOp .And (e1 :: e2 :: rest) pos) (.and a b) :=
  ae_step fun n => pe_imp (pe_and (ha n) (hb n)) fun σ H Q q => by
    have q1 : tBl p (evB (evN cx n) a) σ H fun c H1 => if c = true then tE p ((evN cx n).e b) σ H1 Q else Q (.bl false) H1 := tE_evB q (fun env => rfl) fun c H1 q => by
      cases c with
      | true => rw [if_pos rfl]; exact q
      | false => rw [if_neg (by decide)]; exact tE_ok (fun G => .bl false) q
    exact tBl_tE q1
theorem ae_or {a b : IE} {rest : List Expr} (ha : AE X p cx e1 a) (hb : AE X p cx (.BoolOp .Or (e2 :: rest) pos) b) : AE X p cx (.BoolOp .Or (e1 :: e2 :: rest) pos) (.or a b) :=
  ae_step fun n => pe_imp (pe_or (ha n) (hb n)) fun σ H Q q => by
    have q1 : tBl p (evB (evN cx n) a) σ H fun c H1 => if c = true then Q (.bl true) H1 else tE p ((evN cx n).e b) σ H1 Q := tE_evB q (fun env => rfl) fun c H1 q => by
      cases c with
      | true => rw [if_pos rfl]; exact tE_ok (fun G => .bl true) q
      | false => rw [if_neg (by decide)]; exact q
    exact tBl_tE q1
theorem ae_bool1 {op : BoolOp} {a : IE} (ha : AE X p cx e1 a) : AE X p cx (.BoolOp op [e1] pos) a := fun n => pe_one (ha n)
theorem ae_not {a : IE} (ha : AE X p cx e1 a) : AE X p cx (.UnaryOp .Not e1 pos) (.not a) :=
  ae_step fun n => pe_imp (pe_not (ha n)) fun σ H Q q => by
    have q1 : tBl p (evB (evN cx n) a) σ H fun c H1 => Q (.bl (!c)) H1 := tE_evB q (fun env => rfl) fun c H1 q => tE_ok (fun G => .bl (!c)) q
    exact tBl_tE q1
theorem ae_ite {c a b : IE} (hc : AB X p cx e1 c) (ha : AE X p cx e2 a) (hb : AE X p cx e3 b) : AE X p cx (.IfExp e1 e2 e3 pos) (.ite c a b) :=
  ae_step fun n => pe_imp (pe_ifExp (hc n) (ha n) (hb n)) fun σ H Q q => tE_evB q (fun env => rfl) fun c H1 q => by
    cases c with
    | true => rw [if_pos rfl]; exact q
    | false => rw [if_neg (by decide)]; exact q
end
end EV

set_option maxRecDepth 100000
set_option maxHeartbeats 1000000
/-! Comparisons as tests, chains, attributes. -/
namespace EV
open PySem PySem.Spec PyProof.Rows L2 LamX
theorem Link.top_bl {W : Wd} {B : Bs} {C : List V} {n : Nat} {σp : L2.St} {G : Hp} {σ : L2.St} {H : Hp} {env : Env} {tmp : List (V × S)} {v : V} {k : Bool} (L : Link W B C n σp G σ H env ((v, .d (.bl k)) :: tmp)) : v = .bl k := by
  obtain ⟨A, T, h1, h2, _⟩ := L.reps
  cases h2 with
  | cons hs ht => cases hs with
    | d hr => cases hr; rfl
section
variable {g : GX} {X : Cx} {p : Pt} {k : Nat} {cx : CX} {e e1 e2 e3 : Expr} {pos pos2 : Pos} {r : EvR}
theorem ab_two {op : CmpOp} {o : Prim} {a b : Opd} (ho : OpR X (compareOp op) (rP p o)) (ha : AO X p cx e1 a) (hb : AO X p cx e2 b) (hm : behindInMarks op e2 = false) : AB X p cx (.Compare e1 [op] [e2] pos) (.prim o [a, b]) :=
  ab_step fun n => pt_imp (pt_cmpR ho (ha n) (hb n) hm) fun σ H Q q => im_two (cx := cx) (tBl_tE q)
theorem ae_cmp {op : CmpOp} {o : Prim} {a b : Opd} (ho : OpR X (compareOp op) (rP p o)) (ha : AO X p cx e1 a) (hb : AO X p cx e2 b) (hm : behindInMarks op e2 = false) : AE X p cx (.Compare e1 [op] [e2] pos) (.prim o [a, b]) :=
  ae_step fun n => pr_two (pe_cmpR ho (ha n) (hb n) hm)
theorem ae_bin {op : Operator} {o : Prim} {a b : Opd} (ho : OpR X (binaryOp op) (rP p o)) (ha : AO X p cx e1 a) (hb : AO X p cx e2 b) : AE X p cx (.BinOp e1 op e2 pos) (.prim o [a, b]) :=
  ae_step fun n => pr_two (pe_op ho (ha n) (hb n))
theorem ae_neg {a : Opd} (ha : AO X p cx e1 a) : AE X p cx (.UnaryOp .USub e1 pos) (.prim .neg [a]) :=
  ae_step fun n => pr_one (pe_un unP_neg (ha n))
theorem ae_emp (h : Ctx g X p k) {a : Opd} (ha : AO X p cx e1 a) : AE X p cx (.Compare e1 [.Eq] [.List [] pos2] pos) (.prim .emp [a]) :=
  ae_step fun n => pr_emp h.K (by have := h.units; omega) (ha n)
theorem ab_emp (h : Ctx g X p k) {a : Opd} (ha : AO X p cx e1 a) : AB X p cx (.Compare e1 [.Eq] [.List [] pos2] pos) (.prim .emp [a]) :=
  ab_step fun n => pt_imp (pt_cmpR (op_emp (by have := h.units; omega)) (ha n) (pe_lst pa_nil) rfl) fun σ H Q q => im_emp (cx := cx) h.K (tBl_tE q)
theorem ae_nemp (h : Ctx g X p k) {a : Opd} (ha : AO X p cx e1 a) : AE X p cx (.Compare e1 [.NotEq] [.List [] pos2] pos) (.prim .nemp [a]) :=
  ae_step fun n => pr_nemp (by have := h.units; omega) (ha n)
theorem ab_nemp (h : Ctx g X p k) {a : Opd} (ha : AO X p cx e1 a) : AB X p cx (.Compare e1 [.NotEq] [.List [] pos2] pos) (.prim .nemp [a]) :=
  ab_step fun n => pt_imp (pt_cmpR (op_nemp (by have := h.units; omega)) (ha n) (pe_lst pa_nil) rfl) fun σ H Q q => im_nemp (cx := cx) (tBl_tE q)
/-! chains -/
theorem im_chain {c1 c2 : Prim} {a b c : IE} {σ : L2.St} {H : Hp} {Q : VK} (q : tE p (stepE cx r (.chain c1 c2 a b c)) σ H Q) : tChain (rP p c1) (rP p c2) (tD p (evD r a)) (tD p (evD r b)) (tD p (evD r c)) σ H Q := by
  obtain ⟨B, G, env, tmp, L, q⟩ := q
  refine ⟨B, G, env, tmp, L, (Got.bind (show Got ((evD r a env).bind _) _ _ from q)).imp (fun x e1 q vx G1 H1 x1 L1 rx => ?_) fun c env' q => q⟩
  refine ⟨B, G1, e1, tmp, L1, (Got.bind (show Got ((evD r b e1).bind _) _ _ from q)).imp (fun y e2 q vy G2 H2 x2 L2 ry => ?_) fun c env' q G2 H2 x2 L2 => q G2 H2 (x1.trans x2) L2⟩
  have rr : RRs p.W p.C G2 H2 [x, y] [vx, vy] := .cons (.inl (rx.ext x2)) (.cons (.inl ry) .nil)
  cases t : prim c1 [x, y] with
  | none => rw [t] at q; exact q.elim
  | some s =>
    rw [t] at q
    have hs : ∃ k, s = .d (.bl k) := by
      cases s with
      | d d => cases d with
        | bl k => exact ⟨k, rfl⟩
        | _ => exact q.elim
      | _ => exact q.elim
    obtain ⟨k, rfl⟩ := hs
    refine ⟨x, y, B, G2, σ, e2, tmp, .d (.bl k), L2, rr, t, fun v G3 H3 x3 L3 => ⟨k, L3.top_bl, ?_⟩⟩
    cases k with
    | false =>
      rw [if_neg (by decide)]
      have q : Got (some (.ok (.d (.bl false)) e2) : R S) _ _ := q
      exact q _ G3 H3 ((x1.trans x2).trans x3) (by rw [L3.top_bl] at L3; exact L3)
    | true =>
      rw [if_pos rfl]
      have L3' := L3.drop
      refine ⟨B, G3, e2, tmp, L3', (Got.bind (show Got ((evD r c e2).bind _) _ _ from q)).imp (fun z e3 q vz G4 H4 x4 L4 rz => ?_) fun c env' q G4 H4 x4 L4 => q G4 H4 (((x1.trans x2).trans x3).trans x4) L4⟩
      cases t2 : prim c2 [y, z] with
      | none => rw [t2] at q; exact q.elim
      | some s =>
        rw [t2] at q
        exact ⟨y, z, B, G4, σ, e3, tmp, s, L4, .cons (.inl ((ry.ext x3).ext x4)) (.cons (.inl rz) .nil), t2, fun v G5 H5 x5 L5 => q v G5 H5 ((((x1.trans x2).trans x3).trans x4).trans x5) L5⟩
theorem ae_chain {op op' : CmpOp} {c1 c2 : Prim} {a b c : IE} (ho : OpR X (compareOp op) (rP p c1)) (ho' : OpR X (compareOp op') (rP p c2)) (ha : AE X p cx e1 a) (hb : AE X p cx e2 b) (hc : AE X p cx e3 c)
    (hm : lastMarks [op, op'] [e2, e3] = false := by with_unfolding_all rfl) : AE X p cx (.Compare e1 [op, op'] [e2, e3] pos) (.chain c1 c2 a b c) :=
  ae_step fun n => pe_imp (pe_chain ho ho' (pe_D (ha n)) (pe_D (hb n)) (pe_D (hc n)) hm) fun σ H Q q => im_chain q
theorem ab_chain {op op' : CmpOp} {c1 c2 : Prim} {a b c : IE} (ho : OpR X (compareOp op) (rP p c1)) (ho' : OpR X (compareOp op') (rP p c2)) (ha : AE X p cx e1 a) (hb : AE X p cx e2 b) (hc : AE X p cx e3 c)
    (hm : lastMarks [op, op'] [e2, e3] = false := by with_unfolding_all rfl) : AB X p cx (.Compare e1 [op, op'] [e2, e3] pos) (.chain c1 c2 a b c) :=
  ab_step fun n => pt_imp (pt_chain ho ho' (pe_D (ha n)) (pe_D (hb n)) (pe_D (hc n)) hm) fun σ H Q q => im_chain (cx := cx) (tBl_tE q)
/-! subscripts, slices -/
theorem ae_idx {a b : Opd} (hi : IxR X (rP p .idx)) (ha : AO X p cx e1 a) (hb : AO X p cx e2 b) (hs : PlainIx e2) : AE X p cx (.Subscript e1 e2 pos) (.prim .idx [a, b]) :=
  ae_step fun n => pr_two (pe_ix hi (ha n) (hb n) hs)
theorem ae_sl01 {a b : Opd} (ha : AO X p cx e1 a) (hb : AO X p cx e2 b) : AE X p cx (.Subscript e1 (.Slice none (some e2) none pos2) pos) (.prim (.sl false true) [a, b]) :=
  ae_step fun n => pr_sl01 (ha n) (hb n)
theorem ae_sl10 {a b : Opd} (ha : AO X p cx e1 a) (hb : AO X p cx e2 b) : AE X p cx (.Subscript e1 (.Slice (some e2) none none pos2) pos) (.prim (.sl true false) [a, b]) :=
  ae_step fun n => pr_sl10 (ha n) (hb n)
theorem ae_sl11 {a b c : Opd} (ha : AO X p cx e1 a) (hb : AO X p cx e2 b) (hc : AO X p cx e3 c) : AE X p cx (.Subscript e1 (.Slice (some e2) (some e3) none pos2) pos) (.prim (.sl true true) [a, b, c]) :=
  ae_step fun n => pr_sl11 (ha n) (hb n) (hc n)
theorem ae_rev {a : Opd} {j : Nat} {p2 p3 p4 : Pos} (ha : AO X p cx e1 a) : AE X p cx (.Subscript e1 (.Slice none none (some (.UnaryOp .USub (.Constant (.int 1) j p2) p3)) p4) pos) (.prim .rev [a]) :=
  ae_step fun n => pr_rev (ha n)
/-! builtins -/
theorem ae_bi (h : Ctx g X p k) {i : Nat} {x : Str} {id : String} {o : Prim} {os : List Opd} {es : List Expr} (hc : CallR X (.builtin id) (rPs p o)) (hg : g.gt[i]? = some (x, .bi)) (hx : glB g.sc x = true) (hp : plainNm x = true) (hv : bootBuiltins x = some (.builtin id))
    (ha : AP1 X p cx (e :: es) os) (hst : noStar e = true := by rfl) (hss : es.all noStar = true := by rfl) : AE X p cx (.Call (.Name x pos2) (e :: es) [] pos) (.prim o os) :=
  ae_step fun n => pr_call (pe_callB hc (h.gl hx) (h.mg _ (List.mem_of_getElem? hg)) hv (aos_of ha n) (pn_n hp) (pn_d hp) (star_cons hst) (star_none hss))
theorem ae_ty (h : Ctx g X p k) {i : Nat} {x : Str} {id : String} {o : Prim} {os : List Opd} {es : List Expr} (hc : CallR X (.type id) (rPs p o)) (hg : g.gt[i]? = some (x, .bi)) (hx : glB g.sc x = true) (hp : plainNm x = true) (hv : bootBuiltins x = some (.type id))
    (ha : AP1 X p cx (e :: es) os) (hst : noStar e = true := by rfl) (hss : es.all noStar = true := by rfl) : AE X p cx (.Call (.Name x pos2) (e :: es) [] pos) (.prim o os) :=
  ae_step fun n => pr_call (pe_callTy hc (h.gl hx) (h.mg _ (List.mem_of_getElem? hg)) hv (aos_of ha n) (pn_n hp) (pn_d hp) (star_cons hst) (star_none hss))
/-- a type as a name -/
theorem pe_tyB (h : Ctx g X p k) {i : Nat} {x : Str} {T : String} (hg : g.gt[i]? = some (x, .bi)) (hx : glB g.sc x = true) (hp : plainNm x = true) (hv : bootBuiltins x = some (.type T)) : PE X (.Name x pos) (tC (.ty T)) :=
  pe_bltn (h.gl hx) (h.mg _ (List.mem_of_getElem? hg)) hv (show RelV (.ty T) (.type T) from rfl) (pn_n hp) (pn_d hp)
theorem pe_exB (h : Ctx g X p k) {i c : Nat} {x : Str} (hg : g.gt[i]? = some (x, .exc c)) (hx : glB g.sc x = true) (hp : plainNm x = true) : PE X (.Name x pos) (tC (.ref (p.W.exc c))) :=
  pe_glob (h.gl hx) (h.mg _ (List.mem_of_getElem? hg)) (show RelV (.ref (p.W.exc c)) _ from rfl) (pn_d hp)
theorem ae_isi (h : Ctx g X p k) {i : Nat} {x : Str} {t : Ty} {a : Opd} (ht : tyOk t = true) (hg : g.gt[i]? = some (x, .bi)) (hx : glB g.sc x = true) (hp : plainNm x = true) (hv : bootBuiltins x = some (.builtin "isinstance"))
    (ha : AO X p cx e1 a) (he : PE X e2 (tC (tyVal p.W t))) (hst : noStar e1 = true := by rfl) (hss : noStar e2 = true := by rfl) : AE X p cx (.Call (.Name x pos2) [e1, e2] [] pos) (.prim (.isi t) [a]) :=
  ae_step fun n => pr_isi (ec := e2) (pe_callB (call_isiP h.K h.wok ht) (h.gl hx) (h.mg _ (List.mem_of_getElem? hg)) hv (pa_cons (ha n) (pa_cons he pa_nil (star_cons hss)) (star_cons hst)) (pn_n hp) (pn_d hp) (star_cons hst) (star_none (by simp [hss])))
end
end EV

set_option maxRecDepth 100000
set_option maxHeartbeats 1000000
/-! Attributes. -/
namespace EV
open PySem PySem.Spec PyProof.Rows L2 LamX
def fldT : Nat → List Str
  | 20 => ["letters", "follow", "start"]
  | 21 => ["machine", "text", "result"]
  | 22 => ["machine", "text", "found"]
  | 23 => ["machine", "size", "way"]
  | 24 => ["machine", "ranks"]
  | 25 => ["machines"]
  | 26 => ["current", "budget", "texts", "history"]
  | 27 => ["string", "at"]
  | _ => []
/-- a class of the package: its fields are no attributes of the class -/
structure ClsOk (W : Wd) (c : Nat) : Prop where
  cls : Cls W.K (W.cls c)
  fld : W.fld c = fldT c
  no : ∀ f ∈ fldT c, NoAttr W.K (W.cls c) f
theorem fldT_nd (c : Nat) : (fldT c).Nodup := by
  unfold fldT
  split <;> decide +kernel
theorem lookup_zip {f : Str} {v : V} : ∀ {N : List Str} {vs : List V} {j : Nat}, N.Nodup → N[j]? = some f → vs[j]? = some v → (N.zip vs).lookup f = some v
  | [], _, _, _, h, _ => by simp at h
  | _ :: _, [], _, _, _, h => by simp at h
  | a :: N, w :: vs, 0, _, h, h2 => by
    simp at h h2
    subst h h2
    simp [List.lookup_cons]
  | a :: N, w :: vs, j + 1, nd, h, h2 => by
    rw [List.nodup_cons] at nd
    have h' : N[j]? = some f := by simpa using h
    have hne : (f == a) = false := by
      rw [beq_eq_false_iff_ne]
      intro e
      subst e
      exact nd.1 (List.mem_of_getElem? h')
    rw [List.zip_cons_cons, List.lookup_cons, hne]
    exact lookup_zip nd.2 h' (by simpa using h2)
theorem lookup_none {f : Str} : ∀ {N : List Str} {vs : List V}, f ∉ N → (N.zip vs).lookup f = none
  | [], _, _ => by simp
  | _ :: _, [], _ => by simp
  | a :: N, w :: vs, h => by
    rw [List.mem_cons, not_or] at h
    rw [List.zip_cons_cons, List.lookup_cons, beq_eq_false_iff_ne.mpr h.1]
    exact lookup_none h.2
theorem RepSs.get {W : Wd} {C : List V} {G H : Hp} : ∀ {fs : List S} {vs : List V} {A : List Addr} {j : Nat} {s : S}, RepSs W C G H fs vs A → fs[j]? = some s → ∃ v A0, vs[j]? = some v ∧ RepS W C G H s v A0 ∧ ∀ a ∈ A0, a ∈ A
  | _, _, _, _, _, .nil, h => by simp at h
  | _, _, _, 0, _, .cons hs r, h => by
    simp at h; subst h
    exact ⟨_, _, rfl, hs, fun a ha => List.mem_append_left _ ha⟩
  | _, _, _, j + 1, _, .cons hs r, h => by
    obtain ⟨v, A0, h1, h2, h3⟩ := RepSs.get (j := j) r (by simpa using h)
    exact ⟨v, A0, by simpa using h1, h2, fun a ha => List.mem_append_right _ (h3 a ha)⟩
section
variable {g : GX} {X : Cx} {p : Pt} {k : Nat} {cx : CX} {e e1 e2 e3 : Expr} {pos pos2 : Pos} {r : EvR} {f : Str} {c j : Nat}
/-- what a field of an object is -/
theorem obj_fld (ok : ClsOk p.W c) (hf : (fldT c)[j]? = some f) (hK : X.K = p.W.K) {H : Hp} {a dx : Addr} {vs : List V} {v : V} (ha : H a = some (.ins (p.W.cls c) dx ((p.W.fld c).zip vs))) (hv : vs[j]? = some v) {Q : VK} (q : Q v H) :
    ∃ (b C dx : Addr) (fs : List (Str × V)) (w : V), V.ref a = .ref b ∧ H b = some (.ins C dx fs) ∧ Cls X.K C ∧ NoAttr X.K C f ∧ fs.lookup f = some w ∧ Q w H := by
  refine ⟨a, _, dx, _, v, rfl, ha, by rw [hK]; exact ok.cls, by rw [hK]; exact ok.no f (List.mem_of_getElem? hf), ?_, q⟩
  rw [ok.fld]
  exact lookup_zip (fldT_nd c) hf hv
theorem im_attrV (ok : ClsOk p.W c) (hf : (fldT c)[j]? = some f) (hK : X.K = p.W.K) {i : Nat} (hi : i < p.n) {σ : L2.St} {H : Hp} {Q : VK} (q : tE p (stepE cx r (.attr (.p (.s i)) c j)) σ H Q) : tFld X.K (tP p (evP r (.p (.s i)))) f σ H Q := by
  obtain ⟨B, G, env, tmp, L, q⟩ := q
  refine ⟨B, G, env, tmp, L, ?_⟩
  simp only [stepE] at q
  simp only [evP]
  cases t : env[i]? with
  | none => simp only [peekS, t] at q; exact q.elim
  | some o =>
    cases o with
    | none => simp only [peekS, t] at q; exact q.elim
    | some s =>
      have t1 : peekS (.s i) env = some s.un := by simp only [peekS, t]
      rw [t1] at q ⊢
      intro v G' H' x1 L1 r1
      have r1 : σ[i]? = some (some v) := r1
      obtain ⟨v', A0, h1, h2⟩ := L1.getU t hi
      rw [r1] at h1
      cases h1
      generalize hu : s.un = u at q h2
      cases h2 with
      | d h2 =>
        rename_i x
        cases x with
        | obj c' fs =>
          simp only at q
          split at q
          · rename_i hc
            have hc : c = c' := by simpa using hc
            subst hc
            cases h2 with
            | obj h3 h4 h5 =>
              split at q
              · rename_i d hd
                obtain ⟨w, hw, rw'⟩ := h5.get hd
                exact obj_fld ok hf hK (L1.sub _ _ h3 fun _ z => by cases z) hw (q w G' H' x1 (L1.push rw'))
              · exact q.elim
          · exact q.elim
        | _ => exact q.elim
      | o h3 h4 h5 =>
        simp only at q
        split at q
        · rename_i hc
          have hc := eq_of_beq hc
          subst hc
          split at q
          · rename_i d hd
            obtain ⟨w, A1, hw, rw', _⟩ := h5.get hd
            cases rw' with
            | d rw' => exact obj_fld ok hf hK h3 hw (q w G' H' x1 (L1.push rw'))
          · exact q.elim
        · exact q.elim
      | l => exact q.elim
      | mK => exact q.elim
      | mT => exact q.elim
      | clo => exact q.elim
theorem im_attrE (ok : ClsOk p.W c) (hf : (fldT c)[j]? = some f) (hK : X.K = p.W.K) {x : IE} {σ : L2.St} {H : Hp} {Q : VK} (q : tE p (stepE cx r (.attr (.e x) c j)) σ H Q) : tFld X.K (tD p (evD r x)) f σ H Q := by
  obtain ⟨B, G, env, tmp, L, q⟩ := q
  refine ⟨B, G, env, tmp, L, (Got.bind (show Got ((evD r x env).bind _) _ _ from q)).imp (fun d env' q v G' H' x1 L1 r1 => ?_) fun c env' q => q⟩
  cases d with
  | obj c' fs =>
    simp only at q
    split at q
    · rename_i hc
      have hc : c = c' := by simpa using hc
      subst hc
      cases r1 with
      | obj h3 h4 h5 =>
        split at q
        · rename_i d hd
          obtain ⟨w, hw, rw'⟩ := h5.get hd
          exact obj_fld ok hf hK (L1.sub _ _ h3 fun _ z => by cases z) hw (q w G' H' x1 (L1.push rw'))
        · exact q.elim
    · exact q.elim
  | _ => exact q.elim
theorem ae_attrV (h : Ctx g X p k) (ok : ClsOk p.W c) {i : Nat} {x : Str} (hf : (fldT c)[j]? = some f) (hN : g.N[i]? = some x) (hv : visB g.sc x = true) (hp : plainNm x = true)
    (hb : attributeBase (.Name x pos2) f X.env (eval (.Name x pos2) X.env) = eval (.Name x pos2) X.env := by rfl) : AE X p cx (.Attribute (.Name x pos2) f pos) (.attr (.p (.s i)) c j) :=
  ae_step fun n => pe_imp (pe_fld (ao_v (cx := cx) h hN hv hp n) hb) fun σ H Q q => im_attrV ok hf h.K (by rw [h.n]; exact (List.getElem?_eq_some_iff.mp hN).1) q
theorem ae_attrE (h : Ctx g X p k) (ok : ClsOk p.W c) {x : IE} (hf : (fldT c)[j]? = some f) (he : AE X p cx e x) (hb : attributeBase e f X.env (eval e X.env) = eval e X.env := by rfl) : AE X p cx (.Attribute e f pos) (.attr (.e x) c j) :=
  ae_step fun n => pe_imp (pe_fld (pe_D (he n)) hb) fun σ H Q q => im_attrE ok hf h.K q
end
end EV

set_option maxRecDepth 100000
set_option maxHeartbeats 1000000
/-! Slots moved and stored; statements. -/
namespace EV
open PySem PySem.Spec PyProof.Rows L2 LamX
/-- a slot apart -/
theorem RepE.part {W : Wd} {C : Cz} {G H : Hp} : ∀ {j : Nat} {σ : L2.St} {env : Env} {A : List Addr} {i : Nat} {o : Option S}, RepE W C G H j σ env A → env[i]? = some o →
    ∃ (X A0 Y : List Addr), A = X ++ (A0 ++ Y) ∧ (∀ s, o = some s → ∃ v, σ[i]? = some (some v) ∧ (RepS W C.cl G H s v A0 ∨ ∃ t, s = .lk t)) ∧ (o = none → A0 = []) ∧
      (∀ s' v' A', RepS W C.cl G H s' v' A' → RepE W C G H j (σ.set i (some v')) (env.set i (some s')) (X ++ (A' ++ Y))) ∧ RepE W C G H j σ (env.set i none) (X ++ Y) ∧
      (∀ s' v' A', σ[i]? = some (some v') → RepS W C.cl G H s' v' A' → RepE W C G H j σ (env.set i (some s')) (X ++ (A' ++ Y))) ∧ ∀ o', RepE W C G H j (σ.set i o') (env.set i none) (X ++ Y)
  | _, _, _, _, _, _, .nil, h => by simp at h
  | j, _, _, A, 0, o, .no r, h => by
    simp at h; subst h
    exact ⟨[], [], A, rfl, fun s e => by simp at e, fun _ => rfl, fun s v A' hs => show RepE W C G H j _ _ (A' ++ A) from .yes hs r, .no r, fun s v A' e hs => by simp at e; subst e; exact (show RepE W C G H j _ _ (A' ++ A) from .yes hs r), fun o' => .no r⟩
  | j, _, _, _, 0, o, .yes (A0 := A0) (A := A) hs r, h => by
    simp at h; subst h
    exact ⟨[], A0, A, rfl, fun s e => by simp at e; subst e; exact ⟨_, rfl, .inl hs⟩, fun e => by simp at e, fun s v A' hs => show RepE W C G H j _ _ (A' ++ A) from .yes hs r, .no r, fun s v A' e hs => by simp at e; subst e; exact (show RepE W C G H j _ _ (A' ++ A) from .yes hs r), fun o' => .no r⟩
  | j, _, _, A, 0, o, .lk h1 r, h => by
    simp at h; subst h
    exact ⟨[], [], A, rfl, fun s e => by simp at e; subst e; exact ⟨_, rfl, .inr ⟨_, rfl⟩⟩, fun e => by simp at e, fun s v A' hs => show RepE W C G H j _ _ (A' ++ A) from .yes hs r, .no r, fun s v A' e hs => by simp at e; subst e; exact (show RepE W C G H j _ _ (A' ++ A) from .yes hs r), fun o' => .no r⟩
  | _, _, _, _, i + 1, o, .no r, h => by
    obtain ⟨X, A0, Y, h1, h2, h3, h4, h5, h6, h7⟩ := RepE.part (i := i) r (by simpa using h)
    exact ⟨X, A0, Y, h1, fun s e => by simpa using h2 s e, h3, fun s v A' hs => .no (h4 s v A' hs), .no h5, fun s v A' e hs => .no (h6 s v A' (by simpa using e) hs), fun o' => .no (h7 o')⟩
  | _, _, _, _, i + 1, o, .lk h0 r, h => by
    obtain ⟨X, A0, Y, h1, h2, h3, h4, h5, h6, h7⟩ := RepE.part (i := i) r (by simpa using h)
    exact ⟨X, A0, Y, h1, fun s e => by simpa using h2 s e, h3, fun s v A' hs => .lk h0 (h4 s v A' hs), .lk h0 h5, fun s v A' e hs => .lk h0 (h6 s v A' (by simpa using e) hs), fun o' => .lk h0 (h7 o')⟩
  | _, _, _, _, i + 1, o, .yes (A0 := B0) hs0 r, h => by
    obtain ⟨X, A0, Y, h1, h2, h3, h4, h5, h6, h7⟩ := RepE.part (i := i) r (by simpa using h)
    refine ⟨B0 ++ X, A0, Y, by rw [h1, List.append_assoc], fun s e => by simpa using h2 s e, h3, fun s v A' hs => ?_, ?_, fun s v A' e hs => ?_, fun o' => ?_⟩
    · rw [List.append_assoc]; exact .yes hs0 (h4 s v A' hs)
    · rw [List.append_assoc]; exact .yes hs0 h5
    · rw [List.append_assoc]; exact .yes hs0 (h6 s v A' (by simpa using e) hs)
    · rw [List.append_assoc]; exact .yes hs0 (h7 o')
theorem perm_move {X A0 Y T : List Addr} : ((X ++ (A0 ++ Y)) ++ T).Perm ((X ++ Y) ++ (A0 ++ T)) := by
  rw [List.perm_iff_count]
  intro a
  simp only [List.count_append]
  omega
theorem perm_store {X A0 Y A1 T : List Addr} : ((X ++ (A0 ++ Y)) ++ (A1 ++ T)).Perm (A0 ++ ((X ++ (A1 ++ Y)) ++ T)) := by
  rw [List.perm_iff_count]
  intro a
  simp only [List.count_append]
  omega
theorem RepS.flag {W : Wd} {C : List V} {G H : Hp} {s : S} {v : V} {A : List Addr} (h : RepS W C G H s v A) : RepS W C G H (unpin s) v A := by
  cases h with
  | d h => exact .d h
  | l h r => exact .l h r
  | mK h k r => exact .mK h k r
  | mT h n k r1 r => exact .mT h n k r1 r
  | o h l r => exact .o h l r
  | clo h => exact .clo h
section
variable {W : Wd} {B : Bs} {C : List V} {n : Nat} {σp : L2.St} {G : Hp} {σ : L2.St} {H : Hp} {env : Env} {tmp : List (V × S)} {i : Nat} {s : S} {v : V}
theorem pins_set {τ : L2.St} {o : Option S} (hp : ∀ q ∈ B.pl, τ[q.1]? = some (some q.2) ∧ ∃ s, env[q.1]? = some (some s) ∧ pinned s = true) (h : env[i]? = some o) (hn : ∀ s, o = some s → pinned s = false) {x : Option V} {y : Option S} :
    ∀ q ∈ B.pl, (τ.set i x)[q.1]? = some (some q.2) ∧ ∃ s, (env.set i y)[q.1]? = some (some s) ∧ pinned s = true := fun q hq => by
  obtain ⟨h1, s, h2, h3⟩ := hp q hq
  have hne : i ≠ q.1 := fun e => by
    rw [← e, h] at h2
    cases h2
    rw [hn s rfl] at h3
    cases h3
  rw [List.getElem?_set_ne hne, List.getElem?_set_ne hne]
  exact ⟨h1, s, h2, h3⟩
theorem pins_env {τ : L2.St} {o : Option S} (hp : ∀ q ∈ B.pl, τ[q.1]? = some (some q.2) ∧ ∃ s, env[q.1]? = some (some s) ∧ pinned s = true) (h : env[i]? = some o) (hn : ∀ s, o = some s → pinned s = false) {y : Option S} :
    ∀ q ∈ B.pl, τ[q.1]? = some (some q.2) ∧ ∃ s, (env.set i y)[q.1]? = some (some s) ∧ pinned s = true := fun q hq => by
  obtain ⟨h1, s, h2, h3⟩ := hp q hq
  have hne : i ≠ q.1 := fun e => by
    rw [← e, h] at h2
    cases h2
    rw [hn s rfl] at h3
    cases h3
  rw [List.getElem?_set_ne hne]
  exact ⟨h1, s, h2, h3⟩
theorem pins_same {τ : L2.St} (hp : ∀ q ∈ B.pl, τ[q.1]? = some (some q.2) ∧ ∃ s, env[q.1]? = some (some s) ∧ pinned s = true) (h : env[i]? = some (some s)) {s' : S} (hf : pinned s = true → pinned s' = true) :
    ∀ q ∈ B.pl, τ[q.1]? = some (some q.2) ∧ ∃ t, (env.set i (some s'))[q.1]? = some (some t) ∧ pinned t = true := fun q hq => by
  obtain ⟨h1, t, h2, h3⟩ := hp q hq
  refine ⟨h1, ?_⟩
  by_cases hne : i = q.1
  · rw [← hne] at h2 ⊢
    rw [h] at h2
    cases h2
    exact ⟨s', List.getElem?_set_self (List.getElem?_eq_some_iff.mp h).1, hf h3⟩
  · rw [List.getElem?_set_ne hne]
    exact ⟨t, h2, h3⟩
/-- a slot's thing is taken -/
theorem Link.move (L : Link W B C n σp G σ H env tmp) (h : env[i]? = some (some s)) (hs : pinned s = false) (hi : i < n) : ∃ v, σ[i]? = some (some v) ∧ Link W B C n σp G σ H (env.set i none) ((v, s) :: tmp) := by
  obtain ⟨A, T, h1, h2, nd, gf, ho⟩ := L.reps
  obtain ⟨X, A0, Y, e1, q1, _, _, q4, _⟩ := h1.part h
  obtain ⟨v, hv, hr⟩ := q1 s rfl
  have hr : RepS W C G H s v A0 := hr.resolve_right fun ⟨t, e⟩ => by subst e; cases hs
  rw [List.getElem?_append_left (by rw [L.len]; exact hi)] at hv
  subst e1
  have pm := perm_move (X := X) (A0 := A0) (Y := Y) (T := T)
  exact ⟨v, hv, { L with reps := ⟨_, _, q4, .cons hr h2, pm.nodup_iff.mp nd, fun a ha => gf a (pm.mem_iff.mpr ha), fun a ha => ho a (pm.mem_iff.mpr ha)⟩, pins := pins_env L.pins h fun t e => by cases e; exact hs }⟩
/-- the top is stored -/
theorem Link.store (L : Link W B C n σp G σ H env ((v, s) :: tmp)) {o : Option S} (h : env[i]? = some o) (hs : ∀ t, o = some t → pinned t = false) (hi : i < n) {s' : S} (hf : ∀ A, RepS W C G H s v A → RepS W C G H s' v A) : Link W B C n σp G (σ.set i (some v)) H (env.set i (some s')) tmp := by
  obtain ⟨A, T, h1, h2, nd, gf, ho⟩ := L.reps
  cases h2 with
  | cons hr ht =>
    rename_i A1 T1
    obtain ⟨X, A0, Y, e1, _, _, q3, _⟩ := h1.part h
    subst e1
    have pm := perm_store (X := X) (A0 := A0) (Y := Y) (A1 := A1) (T := T1)
    have q := q3 s' v A1 (hf _ hr)
    rw [List.set_append_left _ _ (by rw [L.len]; exact hi)] at q
    exact { L with
      reps := ⟨_, _, q, ht, (List.nodup_append.mp (pm.nodup_iff.mp nd)).2.1, fun a ha => gf a (pm.mem_iff.mpr (List.mem_append_right _ ha)), fun a ha => ho a (pm.mem_iff.mpr (List.mem_append_right _ ha))⟩
      pins := by rw [← List.set_append_left _ _ (by rw [L.len]; exact hi)]; exact pins_set L.pins h hs
      len := by rw [List.length_set]; exact L.len }
/-- a slot goes -/
theorem Link.gone (L : Link W B C n σp G σ H env tmp) {o : Option S} (h : env[i]? = some o) (hs : ∀ t, o = some t → pinned t = false) (hi : i < n) (x : Option V) : Link W B C n σp G (σ.set i x) H (env.set i none) tmp := by
  obtain ⟨A, T, h1, h2, nd, gf, ho⟩ := L.reps
  obtain ⟨X, A0, Y, e1, _, _, _, _, _, q6⟩ := h1.part h
  subst e1
  have pm := perm_move (X := X) (A0 := A0) (Y := Y) (T := T)
  have q := q6 x
  rw [List.set_append_left _ _ (by rw [L.len]; exact hi)] at q
  have n0 := nodup_swap (show (X ++ (A0 ++ (Y ++ T))).Nodup by simpa using nd)
  exact { L with
    reps := ⟨_, _, q, h2, by simpa using n0.1, fun a ha => gf a (by simp only [List.mem_append] at ha ⊢; grind), fun a ha => ho a (by simp only [List.mem_append] at ha ⊢; grind)⟩
    pins := by rw [← List.set_append_left _ _ (by rw [L.len]; exact hi)]; exact pins_set L.pins h hs
    len := by rw [List.length_set]; exact L.len }
end
theorem setSlot_inv {i : Nat} {s : S} {env env' : Env} (h : setSlot i s env = some env') : env' = env.set i (some s) ∧ ∃ o, env[i]? = some o ∧ ∀ t, o = some t → pinned t = false := by
  unfold setSlot at h
  split at h
  · rename_i t e
    split at h
    · cases h
    · rename_i hp
      cases h
      exact ⟨rfl, _, e, fun t' e' => by cases e'; simpa using hp⟩
  · rename_i e
    cases h
    exact ⟨rfl, _, e, fun t' e' => by cases e'⟩
  · cases h
section
variable {g : GX} {X : Cx} {p : Pt} {k : Nat} {cx : CX} {e e1 e2 e3 : Expr} {pos pos2 : Pos} {r : EvR}
theorem ae_mv (h : Ctx g X p k) {i : Nat} {x : Str} (hN : g.N[i]? = some x) (hv : visB g.sc x = true) (hp : plainNm x = true) : AE X p cx (.Name x pos) (.mv i) := by
  refine ae_step fun n => pe_imp (pe_var (by rw [h.N]; exact hN) (by rw [h.sc]; exact vis_of hv) (pn_d hp) (pn_c hp)) fun σ H Q q => ?_
  obtain ⟨B, G, env, tmp, L, q⟩ := q
  have hi : i < p.n := by rw [h.n]; exact (List.getElem?_eq_some_iff.mp hN).1
  simp only [stepE] at q
  split at q
  · rename_i s hs
    split at q
    · exact q.elim
    · rename_i hp
      obtain ⟨v, h1, L1⟩ := L.move hs (by simpa using hp) hi
      exact ⟨v, h1, q v G H (ExtN.refl G) L1⟩
  · exact q.elim
end
/-! ### statements -/
/-- what is wanted behind a statement's outcome -/
def AftS (p : Pt) (D : Ends) (B : Bs) (G : Hp) (tmp : List (V × S)) : Fl → Env → Prop
  | .nx, env' => ∀ G' σ' H', ExtN G G' → Link p.W B p.C p.n p.σp G' σ' H' env' tmp → D.nx σ' H'
  | .bk, env' => ∀ G' σ' H', ExtN G G' → Link p.W B p.C p.n p.σp G' σ' H' env' tmp → D.bk σ' H'
  | .rt s, env' => ∀ v G' σ' H', ExtN G G' → Link p.W B p.C p.n p.σp G' σ' H' env' ((v, s) :: tmp) → D.rt v H'
def AftX (p : Pt) (B : Bs) (G : Hp) (tmp : List (V × S)) (c : Nat) (env' : Env) : Prop := ∀ G' σ' H', ExtN G G' → Link p.W B p.C p.n p.σp G' σ' H' env' tmp → p.Wx (.ref (p.W.exc c)) none σ' H'
def tS (p : Pt) (f : Env → R Fl) : TS := fun D σ H => ∃ B G env tmp, Link p.W B p.C p.n p.σp G σ H env tmp ∧ Got (f env) (AftS p D B G tmp) (AftX p B G tmp)
theorem AftS.mono {p : Pt} {D : Ends} {B : Bs} {G G1 : Hp} {tmp : List (V × S)} {fl : Fl} {env : Env} (e : ExtN G G1) (h : AftS p D B G tmp fl env) : AftS p D B G1 tmp fl env := by
  cases fl with
  | nx => exact fun G' σ' H' x L => h G' σ' H' (e.trans x) L
  | bk => exact fun G' σ' H' x L => h G' σ' H' (e.trans x) L
  | rt s => exact fun v G' σ' H' x L => h v G' σ' H' (e.trans x) L
theorem AftX.mono {p : Pt} {B : Bs} {G G1 : Hp} {tmp : List (V × S)} {c : Nat} {env : Env} (e : ExtN G G1) (h : AftX p B G tmp c env) : AftX p B G1 tmp c env := fun G' σ' H' x L => h G' σ' H' (e.trans x) L
theorem AftX.ex {p : Pt} {B : Bs} {G : Hp} {tmp : List (V × S)} {c : Nat} {env : Env} {σ : L2.St} (h : AftX p B G tmp c env) : ∀ G' H', ExtN G G' → Link p.W B p.C p.n p.σp G' σ H' env tmp → p.Wx (.ref (p.W.exc c)) none σ H' := fun G' H' x L => h G' σ H' x L
def AS1 (X : Cx) (p : Pt) (cx : CX) (st : Stmt) (x : IS) : Prop := ∀ n, PS X st (tS p (stepS1 cx (evN cx n) x))
def AS (X : Cx) (p : Pt) (cx : CX) (sts : List Stmt) (xs : List IS) : Prop := ∀ n, PSs X sts (tS p ((evN cx n).s xs))
section
variable {g : GX} {X : Cx} {p : Pt} {k : Nat} {cx : CX} {e e1 e2 e3 : Expr} {pos pos2 : Pos} {r : EvR} {st : Stmt} {sts sts2 : List Stmt} {x : IS} {xs xs2 : List IS}
theorem pss_no {X : Cx} {p : Pt} {sts : List Stmt} : PSs X sts (tS p fun _ => none) := ⟨fun _ _ _ _ _ _ ⟨_, _, _, _, _, h⟩ => h.elim⟩
theorem as_nil : AS X p cx [] [] := fun n => match n with
  | 0 => pss_no
  | n + 1 => pss_imp pss_nil fun D σ H q => by
    obtain ⟨B, G, env, tmp, L, q⟩ := q
    exact q G σ H (ExtN.refl G) L
theorem as_cons (h1 : AS1 X p cx st x) (h2 : AS X p cx sts xs) : AS X p cx (st :: sts) (x :: xs) := fun n => match n with
  | 0 => pss_no
  | n + 1 => pss_imp (pss_cons (h1 n) (h2 n)) fun D σ H q => by
    obtain ⟨B, G, env, tmp, L, q⟩ := q
    refine ⟨B, G, env, tmp, L, (Got.bind (show Got ((stepS1 cx (evN cx n) x env).bind _) _ _ from q)).imp (fun fl env' q => ?_) fun c env' q => q⟩
    cases fl with
    | nx => exact fun G' σ' H' x1 L1 => ⟨B, G', env', tmp, L1, q.imp (fun fl env2 q => q.mono x1) fun c env2 q => q.mono x1⟩
    | bk => exact q
    | rt s => exact q
/-- a docstring, pass: no step of the inner form -/
theorem as_skip (h1 : PS X st tNext) (h2 : AS X p cx sts xs) : AS X p cx (st :: sts) xs := fun n => pss_imp (pss_cons h1 (h2 n)) fun D σ H q => q
theorem as_doc {s : Str} {j : Nat} (h2 : AS X p cx sts xs) : AS X p cx (.Expr (.Constant (.str s) j pos) pos2 :: sts) xs := as_skip ps_doc h2
/-- what is not said -/
theorem as_stuck {xs : List IS} (h : ∀ n env, (evN cx n).s xs env = none) : AS X p cx sts xs := fun n => by
  refine ⟨fun pins s σ H D I q => ?_⟩
  obtain ⟨B, G, env, tmp, L, q⟩ := q
  rw [h] at q
  exact q.elim
theorem as1_exp {x : IE} (h : AE X p cx e x) (hs : swapsWith e none pos.line X.env = pure false := by rfl) : AS1 X p cx (.Expr e pos) (.exp x) := fun n => ps_imp (ps_expr (h n) hs) fun D σ H q => by
  obtain ⟨B, G, env, tmp, L, q⟩ := q
  refine ⟨B, G, env, tmp, L, (Got.bind (show Got (((evN cx n).e x env).bind _) _ _ from q)).imp (fun s env' q v G' H' x1 L1 => q G' σ H' x1 L1.drop) fun c env' q => q.ex⟩
theorem as1_ret {x : IE} (h : AE X p cx e x) : AS1 X p cx (.Return (some e) pos) (.ret (some x)) := fun n => ps_imp (ps_ret (h n)) fun D σ H q => by
  obtain ⟨B, G, env, tmp, L, q⟩ := q
  refine ⟨B, G, env, tmp, L, (Got.bind (show Got (((evN cx n).e x env).bind _) _ _ from q)).imp (fun s env' q v G' H' x1 L1 => q v G' σ H' x1 L1) fun c env' q => q.ex⟩
theorem as1_retN : AS1 X p cx (.Return none pos) (.ret none) := fun n => ps_imp ps_retN fun D σ H q => by
  obtain ⟨B, G, env, tmp, L, q⟩ := q
  exact q .non G σ H (ExtN.refl G) (L.push .non)
theorem as1_brk : AS1 X p cx (.Break pos) .brk := fun n => ps_imp ps_break fun D σ H q => by
  obtain ⟨B, G, env, tmp, L, q⟩ := q
  exact q G σ H (ExtN.refl G) L
theorem as1_if {c : IE} (hc : AB X p cx e c) (h1 : AS X p cx sts xs) (h2 : AS X p cx sts2 xs2) : AS1 X p cx (.If e sts sts2 pos) (.ife c xs xs2) := fun n => ps_imp (ps_if (hc n) (h1 n) (h2 n)) fun D σ H q => by
  obtain ⟨B, G, env, tmp, L, q⟩ := q
  refine ⟨B, G, env, tmp, L, (Got.bind (show Got ((evB (evN cx n) c env).bind _) _ _ from q)).imp (fun b env' q G' H' x1 L1 => ?_) fun c env' q => q.ex⟩
  cases b with
  | true => rw [if_pos rfl]; exact ⟨B, G', env', tmp, L1, q.imp (fun fl env2 q => q.mono x1) fun c env2 q => q.mono x1⟩
  | false => rw [if_neg (by decide)]; exact ⟨B, G', env', tmp, L1, q.imp (fun fl env2 q => q.mono x1) fun c env2 q => q.mono x1⟩
/-- a name that may be stored -/
def locB (sc : Scope) (x : Str) : Bool := match sc.names.lookup x with
  | some .local => true
  | _ => false
theorem loc_of {sc : Scope} {x : Str} (h : locB sc x = true) : sc.names.lookup x = some .local := by
  unfold locB at h
  split at h
  · assumption
  · cases h
def celB (sc : Scope) (x : Str) : Bool := match sc.names.lookup x with
  | some .cell => true
  | _ => false
theorem cel_of {sc : Scope} {x : Str} (h : celB sc x = true) : sc.names.lookup x = some .cell := by
  unfold celB at h
  split at h
  · assumption
  · cases h
/-- a name that may be stored, a captured one too -/
def StB (X : Cx) (g : GX) (y : Str) : Prop := locB g.sc y = true ∨ (celB g.sc y = true ∧ X.fn y = true)
theorem StB.loc {y : Str} (h : Ctx g X p k) (s : StB X g y) : Loc X.env.scope y := by
  rw [h.sc]
  exact s.imp loc_of fun z => cel_of z.1
theorem StB.fn {y : Str} (h : Ctx g X p k) (s : StB X g y) : X.fn y = true ∨ X.env.scope.names.lookup y = some .local := by
  rw [h.sc]
  exact s.elim (fun z => .inr (loc_of z)) fun z => .inl z.2
theorem own_rep {W : Wd} {C : List V} {G H : Hp} {s s' : S} {v : V} {A : List Addr} {b : Bool} (h : ownS b s = some s') (hr : RepS W C G H s v A) (hb : b = true) : RepS W C G H s' v A := by
  subst hb
  simp only [ownS, if_true] at h
  cases h
  exact hr.flag
/-- x = e -/
theorem as1_set (h : Ctx g X p k) {i : Nat} {y : Str} {b : Bool} {x : IE} (he : AE X p cx e x) (hN : g.N[i]? = some y) (hv : StB X g y) (hs : swapsWith e (some (.Name y pos2)) pos.line X.env = pure false := by rfl) : AS1 X p cx (.Assign [.Name y pos2] e pos) (.asg i b x) := fun n => by
  refine ps_imp (ps_set (by rw [h.N]; exact h.nd) (by rw [h.N]; exact hN) (hv.loc h) (he n) hs (hv.fn h)) fun D σ H q => ?_
  have hi : i < p.n := by rw [h.n]; exact (List.getElem?_eq_some_iff.mp hN).1
  obtain ⟨B, G, env, tmp, L, q⟩ := q
  refine ⟨B, G, env, tmp, L, (Got.bind (show Got (((evN cx n).e x env).bind _) _ _ from q)).imp (fun s env' q v G' H' x1 L1 => ?_) fun c env' q => q.ex⟩
  cases t : ownS b s with
  | none => rw [t] at q; exact q.elim
  | some s' =>
    rw [t] at q
    have q2 : Got ((setSlot i s' env').map fun e => Out.ok Fl.nx e) (AftS p D B G tmp) (AftX p B G tmp) := q
    clear q
    cases t2 : setSlot i s' env' with
    | none => rw [t2] at q2; exact q2.elim
    | some env2 =>
      rw [t2] at q2
      have q9 : AftS p D B G tmp .nx env2 := q2
      obtain ⟨rfl, o, ho, hp⟩ := setSlot_inv t2
      show D.nx (σ.set i (some v)) H'
      cases b with
      | true => exact q9 G' _ H' x1 (L1.store ho hp hi fun A hr => own_rep t hr rfl)
      | false =>
        have t3 : s.toD.map S.d = some s' := t
        obtain ⟨d, t4, rfl⟩ := Option.map_eq_some_iff.mp t3
        obtain ⟨G2, x2, L2, r2⟩ := L1.frz t4
        exact q9 G2 _ H' (x1.trans x2) ((L2.push r2).store ho hp hi fun A hr => hr)
/-- while -/
def whN (p : Pt) (D : Ends) (B : Bs) (tmp : List (V × S)) (r : EvR) (c : IE) (xs : List IS) (m : Nat) (σ : L2.St) (H : Hp) : Prop := ∃ G env, Link p.W B p.C p.n p.σp G σ H env tmp ∧ Got (whileL (evB r c) (r.s xs) m env) (AftS p D B G tmp) (AftX p B G tmp)
theorem im_while {c : IE} {D : Ends} {B : Bs} {tmp : List (V × S)} {r : EvR} : ∀ (N : Nat) (σ : L2.St) (H : Hp), whN p D B tmp r c xs N σ H →
    tBl p (evB r c) σ H fun b H1 => if b = true then tS p (r.s xs) { D with nx := fun σ' H' => ∃ m', m' < N ∧ whN p D B tmp r c xs m' σ' H', ct := fun σ' H' => ∃ m', m' < N ∧ whN p D B tmp r c xs m' σ' H', bk := D.nx } σ H1 else D.nx σ H1
  | 0, _, _, ⟨_, _, _, q⟩ => q.elim
  | N + 1, σ, H, ⟨G, env, L, q⟩ => by
    refine ⟨B, G, env, tmp, L, ?_⟩
    simp only [whileL] at q
    cases t : evB r c env with
    | none => rw [t] at q; exact q.elim
    | some o =>
      rw [t] at q
      cases o with
      | exn c e => exact AftX.ex q
      | ok b e =>
        intro G' H' x1 L1
        cases b with
        | false => rw [if_neg (by decide)]; exact q G' σ H' x1 L1
        | true =>
          rw [if_pos rfl]
          refine ⟨B, G', e, tmp, L1, ?_⟩
          simp only at q
          cases t2 : r.s xs e with
          | none => rw [t2] at q; exact q.elim
          | some o =>
            rw [t2] at q
            cases o with
            | exn c e2 => exact AftX.mono x1 q
            | ok fl e2 =>
              cases fl with
              | nx => exact fun G2 σ2 H2 x2 L2 => ⟨N, Nat.lt_succ_self N, G2, e2, L2, (show Got (whileL (evB r c) (r.s xs) N e2) (AftS p D B G tmp) (AftX p B G tmp) from q).imp (fun fl env2 q => q.mono (x1.trans x2)) fun c env2 q => q.mono (x1.trans x2)⟩
              | bk => exact fun G2 σ2 H2 x2 L2 => (show AftS p D B G tmp .nx e2 from q) G2 σ2 H2 (x1.trans x2) L2
              | rt s => exact fun v G2 σ2 H2 x2 L2 => (show AftS p D B G tmp (.rt s) e2 from q) v G2 σ2 H2 (x1.trans x2) L2
theorem tBl_mono {f : Env → R Bool} {σ : L2.St} {H : Hp} {Q Q' : Bool → Hp → Prop} (q : tBl p f σ H Q) (h : ∀ b H, Q b H → Q' b H) : tBl p f σ H Q' := by
  obtain ⟨B, G, env, tmp, L, q⟩ := q
  exact ⟨B, G, env, tmp, L, q.imp (fun b e q G' H' x L => h _ _ (q G' H' x L)) fun c e q => q⟩
theorem as1_while (hp : PassesOwn (model X.prog X.w) X.A X.env X.xe) {c : IE} (hc : AB X p cx e c) (hb : AS X p cx sts xs) : AS1 X p cx (.While e sts [] pos) (.whl c xs) := fun n => ps_imp (ps_while hp (hc n) (hb n)) fun D σ H q => by
  obtain ⟨B, G, env, tmp, L, q⟩ := q
  refine ⟨whN p D B tmp (evN cx n) c xs, ⟨cx.wl, G, env, L, q⟩, fun m σ H w => tBl_mono (im_while m σ H w) fun b H1 q => ?_⟩
  cases b with
  | true => rw [if_pos rfl] at q ⊢; exact ⟨_, fun σ' H' z => z, q⟩
  | false => exact q
end
end EV

set_option maxRecDepth 100000
set_option maxHeartbeats 1000000
/-! Locks. -/
namespace EV
open PySem PySem.Spec PyProof.Rows L2 LamX
def lkAt (lk : Nat → Option (S × V × List Addr)) (i : Nat) (s : S) (v : V) (A : List Addr) : Nat → Option (S × V × List Addr) := fun m => if m = i then some (s, v, A) else lk m
theorem RepE.reC {W : Wd} {C C' : Cz} {G H : Hp} (hc : C'.cl = C.cl) : ∀ {j : Nat} {σ : L2.St} {env : Env} {A : List Addr}, RepE W C G H j σ env A → (∀ m, j ≤ m → C'.lk m = C.lk m) → RepE W C' G H j σ env A
  | _, _, _, _, .nil, _ => .nil
  | j, _, _, _, .no r, h => .no (RepE.reC hc r fun m hm => h m (by omega))
  | j, _, _, _, .yes hs r, h => .yes (by rw [hc]; exact hs) (RepE.reC hc r fun m hm => h m (by omega))
  | j, _, _, _, .lk h1 r, h => .lk (by rw [h j (Nat.le_refl j)]; exact h1) (RepE.reC hc r fun m hm => h m (by omega))
theorem RepE.lockAt {W : Wd} {C : Cz} {G H : Hp} {s : S} (ho : owned s = true) : ∀ {j : Nat} {σ : L2.St} {env : Env} {A : List Addr} {i : Nat}, RepE W C G H j σ env A → env[i]? = some (some s) →
    ∃ v X A0 Y, A = X ++ (A0 ++ Y) ∧ σ[i]? = some (some v) ∧ RepS W C.cl G H s v A0 ∧ ∀ C' : Cz, C'.cl = C.cl → (∀ m, m ≠ j + i → C'.lk m = C.lk m) → C'.lk (j + i) = some (s, v, A0) → RepE W C' G H j σ (env.set i (some (.lk s))) (X ++ Y)
  | _, _, _, _, _, .nil, h => by simp at h
  | _, _, _, _, 0, .no r, h => by simp at h
  | j, _, _, _, 0, .yes (A0 := A0) (A := A) hs r, h => by
    simp at h; subst h
    exact ⟨_, [], A0, A, rfl, rfl, hs, fun C' hc h1 h2 => .lk h2 (r.reC hc fun m hm => h1 m (by omega))⟩
  | j, _, _, _, 0, .lk h1 r, h => by
    simp at h; subst h
    cases ho
  | j, _, _, _, i + 1, .no r, h => by
    obtain ⟨v, X, A0, Y, e1, e2, e3, e4⟩ := RepE.lockAt ho (i := i) r (by simpa using h)
    exact ⟨v, X, A0, Y, e1, by simpa using e2, e3, fun C' hc h1 h2 => .no (e4 C' hc (fun m hm => h1 m (by omega)) (by rw [← h2]; congr 1; omega))⟩
  | j, _, _, _, i + 1, .yes (A0 := B0) hs r, h => by
    obtain ⟨v, X, A0, Y, e1, e2, e3, e4⟩ := RepE.lockAt ho (i := i) r (by simpa using h)
    refine ⟨v, B0 ++ X, A0, Y, by rw [e1, List.append_assoc], by simpa using e2, e3, fun C' hc h1 h2 => ?_⟩
    rw [List.append_assoc]
    exact .yes (by rw [hc]; exact hs) (e4 C' hc (fun m hm => h1 m (by omega)) (by rw [← h2]; congr 1; omega))
  | j, _, _, _, i + 1, .lk h0 r, h => by
    obtain ⟨v, X, A0, Y, e1, e2, e3, e4⟩ := RepE.lockAt ho (i := i) r (by simpa using h)
    exact ⟨v, X, A0, Y, e1, by simpa using e2, e3, fun C' hc h1 h2 => .lk (by rw [h1 j (by omega)]; exact h0) (e4 C' hc (fun m hm => h1 m (by omega)) (by rw [← h2]; congr 1; omega))⟩
theorem RepE.unlockAt {W : Wd} {C C' : Cz} {G H : Hp} (hc : C'.cl = C.cl) {v : V} : ∀ {j : Nat} {σ : L2.St} {env : Env} {A : List Addr} {i : Nat} {o : Option S}, RepE W C' G H j σ env A → env[i]? = some o → σ[i]? = some (some v) → (∀ m, m ≠ j + i → C'.lk m = C.lk m) →
    ∃ X A1 Y, A = X ++ (A1 ++ Y) ∧ ∀ s A0, RepS W C.cl G H s v A0 → RepE W C G H j σ (env.set i (some s)) (X ++ (A0 ++ Y))
  | _, _, _, _, _, _, .nil, h, _, _ => by simp at h
  | j, _, _, A, 0, _, .no r, h, e, k => by
    simp at e; subst e
    exact ⟨[], [], A, rfl, fun s A0 hs => show RepE W C G H j _ _ (A0 ++ A) from .yes hs (r.reC hc.symm fun m hm => (k m (by omega)).symm)⟩
  | j, _, _, _, 0, _, .yes (A0 := A1) (A := A) _ r, h, e, k => by
    simp at e; subst e
    exact ⟨[], A1, A, rfl, fun s A0 hs => show RepE W C G H j _ _ (A0 ++ A) from .yes hs (r.reC hc.symm fun m hm => (k m (by omega)).symm)⟩
  | j, _, _, A, 0, _, .lk _ r, h, e, k => by
    simp at e; subst e
    exact ⟨[], [], A, rfl, fun s A0 hs => show RepE W C G H j _ _ (A0 ++ A) from .yes hs (r.reC hc.symm fun m hm => (k m (by omega)).symm)⟩
  | j, _, _, _, i + 1, _, .no r, h, e, k => by
    obtain ⟨X, A1, Y, e1, e2⟩ := RepE.unlockAt hc (i := i) r (by simpa using h) (by simpa using e) fun m hm => k m (by omega)
    exact ⟨X, A1, Y, e1, fun s A0 hs => .no (e2 s A0 hs)⟩
  | j, _, _, _, i + 1, _, .yes (A0 := B0) h0 r, h, e, k => by
    obtain ⟨X, A1, Y, e1, e2⟩ := RepE.unlockAt hc (i := i) r (by simpa using h) (by simpa using e) fun m hm => k m (by omega)
    refine ⟨B0 ++ X, A1, Y, by rw [e1, List.append_assoc], fun s A0 hs => ?_⟩
    rw [List.append_assoc]
    exact .yes (by rw [← hc]; exact h0) (e2 s A0 hs)
  | j, _, _, _, i + 1, _, .lk h0 r, h, e, k => by
    obtain ⟨X, A1, Y, e1, e2⟩ := RepE.unlockAt hc (i := i) r (by simpa using h) (by simpa using e) fun m hm => k m (by omega)
    exact ⟨X, A1, Y, e1, fun s A0 hs => .lk (by rw [← k j (by omega)]; exact h0) (e2 s A0 hs)⟩
/-- no dict is a code object -/
theorem dt_ne_code {W : Wd} {a c : Addr} {q : Str} {es : List Ent} : dtO W a es ≠ CodeO c q := fun z => by
  have z1 : DtAt W a es = fun h : Heap => ∃ (oc : Obj) (vs : Array Value) (t : Tok), h.get? c = some oc ∧ oc.data = .fields vs ∧ vs[1]? = some (.str q t) := HO.ext.inj z
  let ob : Obj := { cls := .none, data := .fields #[.none, .str q 0] }
  let h0 : Heap := { objs := Array.replicate (c + 1) ob }
  have g : ∀ b, b < c + 1 → h0.get? b = some ob := fun b hb => by
    show (match (Array.replicate (c + 1) ob)[b]? with | some ⟨_, _, .freed, _⟩ => none | o => o) = some ob
    rw [Array.getElem?_replicate, if_pos hb]
  have h1 : DtAt W a es h0 := by
    rw [z1]
    exact ⟨ob, _, 0, g c (Nat.lt_succ_self c), rfl, rfl⟩
  obtain ⟨o, ens, ep, xs, h2, _, h3, _⟩ := h1
  have h4 : h0.get? a = some ob := by
    by_cases ha : a < c + 1
    · exact g a ha
    · have : h0.get? a = none := by
        show (match (Array.replicate (c + 1) ob)[a]? with | some ⟨_, _, .freed, _⟩ => none | o => o) = none
        rw [Array.getElem?_replicate, if_neg ha]
      rw [this] at h2; cases h2
  rw [h4] at h2
  cases h2
  cases h3
mutual
theorem RepS.nocode {W : Wd} {C : List V} {G : Hp} : ∀ {H : Hp} {s : S} {v : V} {A : List Addr}, RepS W C G H s v A → ∀ a ∈ A, ∀ c q, H a ≠ some (CodeO c q)
  | _, _, _, _, .d _, a, ha => by simp at ha
  | _, _, _, _, .l h _, a, ha => by simp at ha; subst ha; intro c q z; rw [h] at z; cases z
  | _, _, _, _, .mK h _ _, a, ha => by simp at ha; subst ha; intro c q z; rw [h] at z; cases z
  | _, _, _, _, .mT h _ _ _ _, a, ha => by simp at ha; subst ha; intro c q z; rw [h] at z; exact dt_ne_code (Option.some.inj z)
  | _, _, _, _, .o h _ r, a, ha => by
    rcases List.mem_cons.mp ha with e | e
    · subst e; intro c q z; rw [h] at z; cases z
    · exact RepSs.nocode r a e
  | _, _, _, _, .clo _, a, ha => by simp at ha
theorem RepSs.nocode {W : Wd} {C : List V} {G : Hp} : ∀ {H : Hp} {s : List S} {v : List V} {A : List Addr}, RepSs W C G H s v A → ∀ a ∈ A, ∀ c q, H a ≠ some (CodeO c q)
  | _, _, _, _, .nil, a, ha => by simp at ha
  | _, _, _, _, .cons h r, a, ha => by
    rcases List.mem_append.mp ha with e | e
    · exact RepS.nocode h a e
    · exact RepSs.nocode r a e
end
theorem tabs_turn {T : List (Addr × Str)} {H H' : Hp} (t : Tabs T H) (e : ∀ b ps, H b = some (.tbl ps) → H' b = some (.tbl ps)) (e2 : ∀ b c q, H b = some (CodeO c q) → H' b = some (CodeO c q)) : Tabs T H' := fun p hp => by
  obtain ⟨ps, h1, h2, h3⟩ := t p hp
  refine ⟨ps, e _ _ h1, h2, fun pos cv hc => ?_⟩
  obtain ⟨c, e1, e3⟩ := h3 pos cv hc
  exact ⟨c, e1, e2 _ _ _ e3⟩
section
variable {W : Wd} {B : Bs} {C : List V} {n : Nat} {σp : L2.St} {G : Hp} {σ : L2.St} {H : Hp} {env : Env} {tmp : List (V × S)} {i : Nat} {s : S}
/-- what one owns is tracked -/
theorem Link.held (L : Link W B C n σp G σ H env tmp) {A T : List Addr} (h1 : RepE W ⟨C, B.lk⟩ G H 0 (σ ++ σp) env A) (h2 : RepT W ⟨C, B.lk⟩ G H tmp T) : ∀ a ∈ A ++ T, ∃ o, H a = some o := fun a ha => by
  rcases List.mem_append.mp ha with z | z
  · obtain ⟨o, e, _⟩ := h1.tracked a z; exact ⟨o, e⟩
  · obtain ⟨o, e, _⟩ := h2.tracked a z; exact ⟨o, e⟩
/-- a slot is locked, and unlocked -/
theorem Link.lock (L : Link W B C n σp G σ H env tmp) (h : env[i]? = some (some s)) (ho : owned s = true) (hi : i < n) :
    ∃ v A0 A1, A0.Nodup ∧ σ[i]? = some (some v) ∧ RepS W C G H s v A0 ∧ Link W ⟨H, A1, G, (i, v) :: B.pl, lkAt B.lk i s v A0⟩ C n σp G σ H (env.set i (some (.lk s))) tmp ∧
      ∀ G' σ' H' env' tmp', Link W ⟨H, A1, G, (i, v) :: B.pl, lkAt B.lk i s v A0⟩ C n σp G' σ' H' env' tmp' → RepS W C G' H' s v A0 ∧
        ∀ s' H2 A', (∀ b, b ∉ A0 → H2 b = H' b) → RepS W C G' H2 s' v A' → A'.Nodup → (∀ a ∈ A', a ∈ A0) → (pinned s = true → pinned s' = true) → Link W B C n σp G' σ' H2 (env'.set i (some s')) tmp' := by
  obtain ⟨A, T, h1, h2, nd, gf, hb⟩ := L.reps
  obtain ⟨v, X, A0, Y, e1, e2, e3, e4⟩ := h1.lockAt ho h
  rw [Nat.zero_add] at e4
  have e2' := e2
  rw [List.getElem?_append_left (by rw [L.len]; exact hi)] at e2
  have hld := L.held h1 h2
  subst e1
  have hT : ∀ {lk lk' : Nat → Option (S × V × List Addr)} {t : List (V × S)} {T : List Addr} {G H : Hp}, RepT W ⟨C, lk⟩ G H t T → RepT W ⟨C, lk'⟩ G H t T := fun {lk lk' t T G H} r => by
    induction r with
    | nil => exact .nil
    | cons hs _ ih => exact .cons hs ih
  have n0 := nodup_swap (show (X ++ (A0 ++ (Y ++ T))).Nodup by simpa using nd)
  have mem_own : ∀ a, a ∈ (X ++ Y) ++ T → a ∈ (X ++ (A0 ++ Y)) ++ T := fun a ha => by simp only [List.mem_append] at ha ⊢; grind
  have mem_A0 : ∀ a, a ∈ A0 → a ∈ (X ++ (A0 ++ Y)) ++ T := fun a ha => by simp only [List.mem_append]; grind
  have dis : ∀ a ∈ A0, a ∉ (X ++ Y) ++ T := fun a ha z => n0.2 a ha (by simpa using z)
  have hlk : ∀ m, m ≠ i → lkAt B.lk i s v A0 m = B.lk m := fun m hm => if_neg hm
  have L1 : Link W ⟨H, (X ++ Y) ++ T, G, (i, v) :: B.pl, lkAt B.lk i s v A0⟩ C n σp G σ H (env.set i (some (.lk s))) tmp := {
    reps := ⟨X ++ Y, T, e4 ⟨C, lkAt B.lk i s v A0⟩ rfl hlk (if_pos rfl), hT h2, by simpa using n0.1, fun a ha => gf a (mem_own a ha), fun a ha => .inr ha⟩
    sub := L.sub
    tabs := L.tabs
    frm := fun b o e _ => .inl e
    gnew := fun b o e => .inl e
    gold := ExtN.refl G
    gnt := L.gnt
    len := L.len
    lcs := fun m s' v' A' e => by
      by_cases hm : m = i
      · subst hm
        have e : some (s, v, A0) = some (s', v', A') := by rw [← e]; exact (if_pos rfl).symm
        cases e
        exact ⟨e3, dis⟩
      · have e : lkAt B.lk i s v A0 m = some (s', v', A') := e
        rw [hlk m hm] at e
        refine ⟨L.lkd e, fun a ha z => ?_⟩
        obtain ⟨q1, q2⟩ := L.lcs m s' v' A' e
        obtain ⟨o, q3, _⟩ := q1.tracked a ha
        rcases hb a (mem_own a z) with y | y
        · rw [q3] at y; cases y
        · exact q2 a ha y
    pins := fun q hq => by
      have hlt := (List.getElem?_eq_some_iff.mp h).1
      rcases List.mem_cons.mp hq with z | z
      · subst z; exact ⟨e2', .lk s, List.getElem?_set_self hlt, rfl⟩
      · exact pins_same L.pins h (fun _ => rfl) q z }
  have ndA0 : A0.Nodup := (List.nodup_append.mp (List.nodup_append.mp (show (X ++ (A0 ++ (Y ++ T))).Nodup by simpa using nd)).2.1).1
  refine ⟨v, A0, (X ++ Y) ++ T, ndA0, e2, e3, L1, fun G' σ' H' env' tmp' L2 => ⟨L2.lkd (i := i) (if_pos rfl), fun s' H2 A' hH hs2 nd0 sA hf => ?_⟩⟩
  obtain ⟨A2, T2, k1, k2, knd, kgf, kb⟩ := L2.reps
  obtain ⟨p1, t, p2, p3⟩ := L2.pins (i, v) List.mem_cons_self
  have p1' : (σ' ++ σp)[i]? = some (some v) := p1
  have own0 : ∀ a ∈ A0, ∃ o, H a = some o := fun a ha => hld a (mem_A0 a ha)
  have dis2' : ∀ a ∈ A0, a ∉ A2 ++ T2 := fun a ha z => by
    obtain ⟨o, q⟩ := own0 a ha
    rcases kb a z with y | y
    · have y : H a = none := y
      rw [q] at y; cases y
    · exact dis a ha y
  have k1 := k1.keep (H' := H2) (ExtN.refl G') fun a ha => hH a fun z => dis2' a z (List.mem_append_left _ ha)
  have k2 := k2.keep (H' := H2) (ExtN.refl G') fun a ha => hH a fun z => dis2' a z (List.mem_append_right _ ha)
  obtain ⟨X2, A3, Y2, f1, f2⟩ := RepE.unlockAt (C := ⟨C, B.lk⟩) (C' := ⟨C, lkAt B.lk i s v A0⟩) rfl k1 p2 p1' (fun m hm => hlk m (by omega))
  have hs0 : RepS W C G' H' s v A0 := L2.lkd (i := i) (if_pos rfl)
  subst f1
  have dis2 : ∀ a ∈ A0, a ∉ (X2 ++ (A3 ++ Y2)) ++ T2 := dis2'
  have mem2 : ∀ a, a ∈ (X2 ++ (A' ++ Y2)) ++ T2 → a ∈ A0 ∨ a ∈ (X2 ++ (A3 ++ Y2)) ++ T2 := fun a ha => by
    simp only [List.mem_append] at ha ⊢
    have := sA a
    grind
  have hb' : ∀ a ∈ (X2 ++ (A3 ++ Y2)) ++ T2, B.H0 a = none ∨ a ∈ B.A0 := fun a ha => by
    rcases kb a ha with y | y
    · exact L.fresh0 y
    · exact hb a (mem_own a y)
  have gA0 : ∀ a ∈ A0, G' a = none := fun a z => by
    cases q : G' a with
    | none => rfl
    | some o =>
      rcases L2.gnew a o q with y | y | y
      · have y : G a = some o := y
        rw [gf a (mem_A0 a z)] at y; cases y
      · obtain ⟨o, w⟩ := own0 a z
        have y : H a = none := y
        rw [w] at y; cases y
      · exact absurd y (dis a z)
  have hbA0 : ∀ a ∈ A0, B.H0 a = none ∨ a ∈ B.A0 := fun a ha => hb a (mem_A0 a ha)
  exact {
    reps := ⟨_, _, f2 s' A' hs2, hT k2, by
        have m0 := nodup_swap (show (X2 ++ (A3 ++ (Y2 ++ T2))).Nodup by simpa using knd)
        have pm : ((X2 ++ (A' ++ Y2)) ++ T2).Perm (A' ++ (X2 ++ (Y2 ++ T2))) := by
          rw [List.perm_iff_count]
          intro a
          simp only [List.count_append]
          omega
        rw [pm.nodup_iff, List.nodup_append]
        refine ⟨nd0, m0.1, fun x hx y hy e => ?_⟩
        subst e
        exact dis2 x (sA x hx) (by simp only [List.mem_append] at hy ⊢; grind), fun a ha => by
        rcases mem2 a ha with z | z
        · exact gA0 a z
        · exact kgf a z, fun a ha => by
        rcases mem2 a ha with z | z
        · exact hbA0 a z
        · exact hb' a z⟩
    sub := fun b o e nt => by rw [hH b fun z => by rw [gA0 b z] at e; cases e]; exact L2.sub b o e nt
    tabs := tabs_turn L2.tabs (fun b u e => by
      refine (hH b fun z => ?_).trans e
      obtain ⟨o, q1, q2⟩ := hs0.tracked b z
      rw [e] at q1
      exact q2 u (Option.some.inj q1).symm) fun b c q e => (hH b fun z => hs0.nocode b z c q e).trans e
    frm := fun b o e nb => by
      have nb' : b ∉ (X ++ Y) ++ T := fun z => by
        rcases hb b (mem_own b z) with y | y
        · rw [e] at y; cases y
        · exact nb y
      have nb2 : b ∉ A0 := fun z => by
        rcases hbA0 b z with y | y
        · rw [e] at y; cases y
        · exact nb y
      rw [hH b nb2]
      rcases L.frm b o e nb with z | ⟨ps, qs, z1, z2⟩
      · exact L2.frm b o z nb'
      · rcases L2.frm b _ z2 nb' with y | ⟨ps', qs', y1, y2⟩
        · exact .inr ⟨ps, qs, z1, y⟩
        · exact .inr ⟨ps, qs', z1, y2⟩
    gnew := fun b o e => by
      rcases L2.gnew b o e with z | z | z
      · exact L.gnew b o z
      · exact .inr (L.fresh0 z)
      · exact .inr (hb b (mem_own b z))
    gold := L.gold.trans L2.gold
    gnt := L2.gnt
    len := L2.len
    lcs := L.lcs
    pins := fun q hq => by
      obtain ⟨r1, t1, r2, r3⟩ := L2.pins q (List.mem_cons_of_mem _ hq)
      refine ⟨r1, ?_⟩
      by_cases hne : i = q.1
      · obtain ⟨_, t4, r4, r5⟩ := L.pins q hq
        rw [← hne, h] at r4
        cases r4
        rw [← hne] at r2 ⊢
        exact ⟨s', List.getElem?_set_self (List.getElem?_eq_some_iff.mp r2).1, hf r5⟩
      · rw [List.getElem?_set_ne hne]
        exact ⟨t1, r2, r3⟩ }
/-- unlocked as it was -/
theorem Link.unlk {v : V} {A0 : List Addr} {G' : Hp} {σ' : L2.St} {H' : Hp} {env' : Env} {tmp' : List (V × S)} (nd : A0.Nodup) (hh : RepS W C G' H' s v A0 ∧
        ∀ s' H2 A', (∀ b, b ∉ A0 → H2 b = H' b) → RepS W C G' H2 s' v A' → A'.Nodup → (∀ a ∈ A', a ∈ A0) → (pinned s = true → pinned s' = true) → Link W B C n σp G' σ' H2 (env'.set i (some s')) tmp') : Link W B C n σp G' σ' H' (env'.set i (some s)) tmp' :=
  hh.2 s H' A0 (fun _ _ => rfl) hh.1 nd (fun _ h => h) fun h => h
end
end EV

set_option maxRecDepth 100000
set_option maxHeartbeats 1000000
/-! A slot's thing turned; append, pop. -/
namespace EV
open PySem PySem.Spec PyProof.Rows L2 LamX
theorem RepT.split {W : Wd} {C : Cz} {G H : Hp} : ∀ {top tmp : List (V × S)} {T : List Addr}, RepT W C G H (top ++ tmp) T → ∃ T0 T1, T = T0 ++ T1 ∧ RepT W C G H top T0 ∧ RepT W C G H tmp T1
  | [], _, _, h => ⟨[], _, rfl, .nil, h⟩
  | (w, t) :: top, _, _, h => by
    cases h with
    | cons hs ht =>
      obtain ⟨T0, T1, e, h1, h2⟩ := RepT.split ht
      subst e
      exact ⟨_, T1, by rw [List.append_assoc], .cons hs h1, h2⟩
theorem RepT.nocode {W : Wd} {C : Cz} {G H : Hp} : ∀ {t : List (V × S)} {A : List Addr}, RepT W C G H t A → ∀ a ∈ A, ∀ c q, H a ≠ some (CodeO c q)
  | _, _, .nil, a, ha => by simp at ha
  | _, _, .cons h r, a, ha => (List.mem_append.mp ha).elim (fun e => h.nocode a e) fun e => RepT.nocode r a e
section
variable {W : Wd} {B : Bs} {C : List V} {n : Nat} {σp : L2.St} {G : Hp} {σ : L2.St} {H : Hp} {env : Env} {tmp top : List (V × S)} {i : Nat} {s : S}
theorem Link.turnG (L : Link W B C n σp G σ H env (top ++ tmp)) (h : env[i]? = some (some s)) (ho : owned s = true) (hi : i < n) :
    ∃ v A0 T0, σ[i]? = some (some v) ∧ RepS W C G H s v A0 ∧ RepT W ⟨C, B.lk⟩ G H top T0 ∧ (A0 ++ T0).Nodup ∧
      ∀ s' H2 A', (∀ b, b ∉ A0 ++ T0 → H2 b = H b) → RepS W C G H2 s' v A' → A'.Nodup → (∀ a ∈ A', a ∈ A0 ++ T0) → (pinned s = true → pinned s' = true) → Link W B C n σp G σ H2 (env.set i (some s')) tmp := by
  obtain ⟨A, T, h1, h2, nd, gf, hb⟩ := L.reps
  obtain ⟨X, A0, Y, e1, q1, _, _, q4, _⟩ := h1.part h
  obtain ⟨v, hv, hr⟩ := q1 s rfl
  rw [List.getElem?_append_left (by rw [L.len]; exact hi)] at hv
  have hr : RepS W C G H s v A0 := hr.resolve_right fun ⟨t, e⟩ => by subst e; cases ho
  obtain ⟨T0, T1, e2, t1, t2⟩ := h2.split
  subst e1
  subst e2
  have nd' : (A0 ++ T0).Nodup := by
    have pm : ((X ++ (A0 ++ Y)) ++ (T0 ++ T1)).Perm ((A0 ++ T0) ++ (X ++ (Y ++ T1))) := by
      rw [List.perm_iff_count]
      intro a
      simp only [List.count_append]
      omega
    exact (List.nodup_append.mp (pm.nodup_iff.mp nd)).1
  refine ⟨v, A0, T0, hv, hr, t1, nd', fun s' H2 A' hH hs2 nd0 sA hf => ?_⟩
  have pm : ((X ++ (A0 ++ Y)) ++ (T0 ++ T1)).Perm ((A0 ++ T0) ++ ((X ++ Y) ++ T1)) := by
    rw [List.perm_iff_count]
    intro a
    simp only [List.count_append]
    omega
  have nd2 := pm.nodup_iff.mp nd
  rw [List.nodup_append] at nd2
  have dis : ∀ a ∈ (X ++ Y) ++ T1, a ∉ A0 ++ T0 := fun a ha z => nd2.2.2 a z a ha rfl
  have q4' := q4.keep (H' := H2) (ExtN.refl G) fun a ha => hH a (dis a (List.mem_append_left _ ha))
  have t2' := t2.keep (H' := H2) (ExtN.refl G) fun a ha => hH a (dis a (List.mem_append_right _ ha))
  have hlt := (List.getElem?_eq_some_iff.mp h).1
  obtain ⟨X2, A2, Y2, e3, _, r3, _, _, r6, _⟩ := q4'.part (i := i) (o := none) (List.getElem?_set_self hlt)
  have r3 := r3 rfl
  subst r3
  have hv' : (σ ++ σp)[i]? = some (some v) := by rw [List.getElem?_append_left (by rw [L.len]; exact hi)]; exact hv
  have q := r6 s' v A' hv' hs2
  rw [List.set_set] at q
  have mem : ∀ a, a ∈ (X2 ++ (A' ++ Y2)) ++ T1 → a ∈ (X ++ (A0 ++ Y)) ++ (T0 ++ T1) := fun a ha => by
    rw [pm.mem_iff]
    have e3' : a ∈ X ++ Y ↔ a ∈ X2 ++ ([] ++ Y2) := by rw [e3]
    have := sA a
    simp only [List.mem_append] at ha e3' this ⊢
    grind
  refine L.tr h1 h2 hb q t2' ?_ (fun a ha => gf a (mem a ha)) (fun a ha => .inl (mem a ha)) (fun b o e nt => ?_) ?_ (fun b o e nb => ?_) (fun b o e => .inl e) (ExtN.refl G) L.gnt L.len (pins_same (env := env) L.pins h hf)
  · have pm2 : ((X2 ++ (A' ++ Y2)) ++ T1).Perm (A' ++ ((X2 ++ ([] ++ Y2)) ++ T1)) := by
      rw [List.perm_iff_count]
      intro a
      simp only [List.count_append, List.count_nil]
      omega
    rw [pm2.nodup_iff, ← e3, List.nodup_append]
    exact ⟨nd0, nd2.2.1, fun x hx y hy e => by subst e; exact dis x hy (sA x hx)⟩
  · have hn : b ∉ A0 ++ T0 := fun z => by
      have := gf b (by rw [pm.mem_iff]; exact List.mem_append_left _ z)
      rw [this] at e; cases e
    rw [hH b hn]
    exact L.sub b o e nt
  · have tk : ∀ b ∈ A0 ++ T0, (∀ ps, H b ≠ some (.tbl ps)) ∧ ∀ c q, H b ≠ some (CodeO c q) := fun b hb => by
      rcases List.mem_append.mp hb with z | z
      · obtain ⟨o, k1, k2⟩ := hr.tracked b z
        exact ⟨fun ps e => k2 ps (by rw [k1] at e; exact Option.some.inj e), hr.nocode b z⟩
      · obtain ⟨o, k1, k2⟩ := t1.tracked b z
        exact ⟨fun ps e => k2 ps (by rw [k1] at e; exact Option.some.inj e), t1.nocode b z⟩
    exact tabs_turn L.tabs (fun b ps e => (hH b fun z => (tk b z).1 ps e).trans e) fun b c q e => (hH b fun z => (tk b z).2 c q e).trans e
  · refine .inl ((hH b fun z => nb ?_).trans e)
    rw [pm.mem_iff]
    exact List.mem_append_left _ z
end
end EV

set_option maxRecDepth 100000
set_option maxHeartbeats 1000000
/-! append, pop, x[i] = y, x.f = y. -/
namespace EV
open PySem PySem.Spec PyProof.Rows L2 LamX
theorem lock_eq {q : Plc} {env : Env} {s : S} (h : env[slotP q]? = some (some s)) (ho : owned s = true) : lockE [q] env = env.set (slotP q) (some (.lk s)) := by
  simp only [lockE, lock1, h, ho, if_true]
theorem unlock_eq {q : Plc} {env env' : Env} {s : S} (h : env[slotP q]? = some (some s)) (ho : owned s = true) : unlockE [q] env env' = env'.set (slotP q) (some s) := by
  simp only [unlockE, unlock1, h, ho, if_true]
theorem got_unlock {α β : Type} {ps : List Plc} {e0 : Env} {x : R α} {f : α → Env → R β} {k : β → Env → Prop} {ke : Nat → Env → Prop} (q : Got ((unlockR ps e0 x).bind f) k ke) :
    Got x (fun a e => Got (f a (unlockE ps e0 e)) k ke) fun c e => ke c (unlockE ps e0 e) := by
  cases x with
  | none => exact q
  | some o => cases o <;> exact q
section
variable {p : Pt} {X : Cx} {cx : CX} {r : EvR}
/-- data reckoned while a slot is locked -/
theorem tD_lock {B : Bs} {G : Hp} {σ : L2.St} {H : Hp} {env : Env} {tmp : List (V × S)} {q : Plc} {s : S} {x : IE} {β : Type} {f : D → Env → R β} {k : β → Env → Prop} {ke : Nat → Env → Prop} {Q : VK}
    (L : Link p.W B p.C p.n p.σp G σ H env tmp) (h : env[slotP q]? = some (some s)) (ho : owned s = true) (hi : slotP q < p.n)
    (qq : Got ((unlockR [q] env (evD r x (lockE [q] env))).bind f) k ke) (hke : ∀ c e, ke c e → ∀ G' H', ExtN G G' → Link p.W B p.C p.n p.σp G' σ H' e tmp → p.Wx (.ref (p.W.exc c)) none σ H')
    (hk : ∀ (v : V) (A0 : List Addr) (d : D) (env1 : Env) (w : V) (G' H' : Hp), A0.Nodup → σ[slotP q]? = some (some v) → RepS p.W p.C G H s v A0 → ExtN G G' → Rep p.W G' d w → RepS p.W p.C G' H' s v A0 → slotP q < env1.length →
      (∀ s' H2 A', (∀ b, b ∉ A0 → H2 b = H' b) → RepS p.W p.C G' H2 s' v A' → A'.Nodup → (∀ a ∈ A', a ∈ A0) → (pinned s = true → pinned s' = true) → Link p.W B p.C p.n p.σp G' σ H2 (env1.set (slotP q) (some s')) tmp) →
      Got (f d (env1.set (slotP q) (some s))) k ke → Q w H') : tD p (evD r x) σ H Q := by
  obtain ⟨v, A0, A1, nd, hv, hr, L1, hu⟩ := L.lock h ho hi
  have qq := got_unlock qq
  rw [lock_eq h ho] at qq
  refine ⟨_, G, _, tmp, L1, qq.imp (fun d env1 q1 w G' H' x1 L2 rw' => ?_) fun c env1 q1 G' H' x1 L2 => ?_⟩
  · obtain ⟨h1, h2⟩ := hu G' σ H' env1 tmp L2
    rw [unlock_eq h ho] at q1
    obtain ⟨_, t, h3, _⟩ := L2.pins (slotP q, v) List.mem_cons_self
    exact hk v A0 d env1 w G' H' nd hv hr x1 rw' h1 (List.getElem?_eq_some_iff.mp h3).1 h2 q1
  · rw [unlock_eq h ho] at q1
    exact hke c _ q1 G' H' x1 (Link.unlk nd (hu G' σ H' env1 tmp L2))
theorem lineS : (1000000 : Nat) < sizeLine := by decide
/-- x.append(e) -/
theorem im_appV {i : Nat} {x : IE} (hi : i < p.n) {D : Ends} {σ : L2.St} {H : Hp} (q : tS p (stepS1 cx r (.app (.s i) x)) D σ H) : tDrop (tBM X.K "list" rAppend (tVar i) (tCons (tD p (evD r x)) tNil)) D σ H := by
  obtain ⟨B, G, env, tmp, L, q⟩ := q
  simp only [stepS1, ownAt] at q
  cases h : env[i]? with
  | none => rw [h] at q; exact q.elim
  | some o =>
    cases o with
    | none => rw [h] at q; exact q.elim
    | some s =>
      rw [h] at q
      cases s with
      | l b xs =>
        have q : Got ((unlockR [.s i] env (evD r x (lockE [.s i] env))).bind fun y env1 => (turnS (.s i) (appS y) env1).map fun e => Out.ok Fl.nx e) _ _ := q
        obtain ⟨v0, A00, _, _, hv0, hr0, _⟩ := L.lock h rfl hi
        obtain ⟨a, vs, rfl, h0⟩ : ∃ a vs, v0 = .ref a ∧ H a = some (.lst vs) := by cases hr0 with | l h1 _ => exact ⟨_, _, rfl, h1⟩
        refine ⟨.ref a, hv0, .inl ⟨rfl, vs, .of h0⟩, ?_⟩
        refine tD_lock (q := .s i) L h rfl hi q (fun c e z => z.ex) fun v A0 d env1 w G' H' nd hv hr x1 rw' hr' hlt hu q1 => ?_
        have hv : σ[i]? = some (some v) := hv
        rw [hv0] at hv
        cases hv
        cases hr' with
        | l h1 h2 =>
          rename_i ws
          have hget : (env1.set i (some (S.l b xs)))[i]? = some (some (S.l b xs)) := List.getElem?_set_self hlt
          have q1 : Got ((turnS (.s i) (appS d) (env1.set i (some (.l b xs)))).map fun e => Out.ok Fl.nx e) _ _ := q1
          by_cases hz : xs.length < 1000000
          · simp only [turnS, hget, appS, if_pos hz, Option.map_some, List.set_set] at q1
            refine ⟨a, ws, w, rfl, rfl, h1, by rw [← h2.length]; exact Nat.lt_trans hz lineS, ?_⟩
            refine (show AftS p D B G tmp .nx _ from q1) G' σ _ x1 (hu _ _ [a] (fun c hc => upd_ne (by simpa using hc)) (.l upd_same (h2.append (.cons rw' .nil))) (by simp) (by cases hr; simp) (fun z => z))
          · simp only [turnS, hget, appS, if_neg hz] at q1
            exact q1.elim
      | _ => exact q.elim
end
/-! fields -/
mutual
theorem RepS.len_eq {W : Wd} {C : List V} {G G' : Hp} : ∀ {H H' : Hp} {s : S} {v v' : V} {A A' : List Addr}, RepS W C G H s v A → RepS W C G' H' s v' A' → A.length = A'.length
  | _, _, _, _, _, _, _, .d _, h => by cases h; rfl
  | _, _, _, _, _, _, _, .l _ _, h => by cases h; rfl
  | _, _, _, _, _, _, _, .mK _ _ _, h => by cases h <;> rfl
  | _, _, _, _, _, _, _, .mT _ _ _ _ _, h => by cases h <;> rfl
  | _, _, _, _, _, _, _, .o _ _ r, h => by
    cases h with
    | o _ _ r' => simp [RepSs.len_eq r r']
  | _, _, _, _, _, _, _, .clo _, h => by cases h; rfl
theorem RepSs.len_eq {W : Wd} {C : List V} {G G' : Hp} : ∀ {H H' : Hp} {s : List S} {v v' : List V} {A A' : List Addr}, RepSs W C G H s v A → RepSs W C G' H' s v' A' → A.length = A'.length
  | _, _, _, _, _, _, _, .nil, h => by cases h; rfl
  | _, _, _, _, _, _, _, .cons h r, h' => by
    cases h' with
    | cons h2 r2 => simp [RepS.len_eq h h2, RepSs.len_eq r r2]
end
theorem RepSs.fld_eq {W : Wd} {C : List V} {G G' H H' : Hp} : ∀ {fs : List S} {vs vs' : List V} {A A' : List Addr} {j : Nat} {t : S}, RepSs W C G H fs vs A → RepSs W C G' H' fs vs' A' → A = A' → fs[j]? = some t → owned t = true → vs[j]? = vs'[j]?
  | _, _, _, _, _, _, _, .nil, _, _, h, _ => by simp at h
  | _, _, _, _, _, 0, _, .cons h1 r1, .cons h2 r2, hA, h, ho => by
    simp at h; subst h
    obtain ⟨e1, e2⟩ := List.append_inj hA (h1.len_eq h2)
    subst e1
    cases h1 with
    | d _ => cases ho
    | clo _ => cases ho
    | l _ _ => cases h2; rfl
    | mK _ _ _ => cases h2 <;> rfl
    | mT _ _ _ _ _ => cases h2 <;> rfl
    | o _ _ _ => cases h2; rfl
  | _, _, _, _, _, j + 1, _, .cons h1 r1, .cons h2 r2, hA, h, ho => by
    obtain ⟨e1, e2⟩ := List.append_inj hA (h1.len_eq h2)
    simpa using RepSs.fld_eq (j := j) r1 r2 e2 (by simpa using h) ho
theorem RepSs.put {W : Wd} {C : List V} {G H : Hp} : ∀ {fs : List S} {vs : List V} {As : List Addr} {j : Nat} {t : S}, RepSs W C G H fs vs As → fs[j]? = some t →
    ∃ w X Aj Y, As = X ++ (Aj ++ Y) ∧ vs[j]? = some w ∧ RepS W C G H t w Aj ∧ ∀ H2 t' A', (∀ b ∈ X ++ Y, H2 b = H b) → RepS W C G H2 t' w A' → RepSs W C G H2 (fs.set j t') vs (X ++ (A' ++ Y))
  | _, _, _, _, _, .nil, h => by simp at h
  | _, _, _, 0, _, .cons (A := A0) (As := As) h1 r1, h => by
    simp at h; subst h
    refine ⟨_, [], A0, As, rfl, rfl, h1, fun H2 t' A' hk ht => ?_⟩
    exact (show RepSs W C G H2 _ _ (A' ++ As) from .cons ht (r1.keep (ExtN.refl G) fun a ha => hk a (by simpa using ha)))
  | _, _, _, j + 1, _, .cons (A := A0) h1 r1, h => by
    obtain ⟨w, X, Aj, Y, e1, e2, e3, e4⟩ := RepSs.put (j := j) r1 (by simpa using h)
    refine ⟨w, A0 ++ X, Aj, Y, by rw [e1, List.append_assoc], by simpa using e2, e3, fun H2 t' A' hk ht => ?_⟩
    rw [List.append_assoc]
    exact .cons (h1.keep (ExtN.refl G) fun a ha => hk a (by simp [ha])) (e4 H2 t' A' (fun b hb => hk b (by simp only [List.mem_append] at hb ⊢; grind)) ht)
section
variable {p : Pt} {X : Cx} {cx : CX} {r : EvR} {c j : Nat} {f : Str}
/-- a list in a field: where it stands, and how it is turned -/
theorem fld_turn {W : Wd} {C : List V} {G H : Hp} {b b2 : Bool} {c : Nat} {fs : List S} {a : Addr} {A0 : List Addr} {xs : List D} (h : RepS W C G H (.o b c fs) (.ref a) A0) (hj : fs[j]? = some (.l b2 xs)) (nd : A0.Nodup) :
    ∃ l vs, l ∈ A0 ∧ H l = some (.lst vs) ∧ Reps W G xs vs ∧ ∀ xs' vs', Reps W G xs' vs' → RepS W C G (upd H l (.lst vs')) (.o b c (fs.set j (.l b2 xs'))) (.ref a) A0 := by
  cases h with
  | o h1 h2 h3 =>
    obtain ⟨w, X, Aj, Y, e1, e2, e3, e4⟩ := h3.put hj
    subst e1
    cases e3 with
    | l k1 k2 =>
      rename_i l vs
      have hla : a ≠ l := fun e => by
        subst e
        rw [h1] at k1; cases k1
      refine ⟨l, vs, by simp, k1, k2, fun xs' vs' hr => ?_⟩
      have z := e4 (upd H l (.lst vs')) (.l b2 xs') [l] (fun d hd => upd_ne fun e => by
        subst e
        simp only [List.nodup_cons, List.nodup_append, List.mem_append, List.mem_cons] at nd hd
        grind) (.l upd_same hr)
      exact .o (by rw [upd_ne hla]; exact h1) h2 z
/-- the address of a list in a field -/
theorem fld_at {W : Wd} {C : List V} {G G' H H' : Hp} {b b2 : Bool} {c : Nat} {fs : List S} {a : Addr} {A0 : List Addr} {xs : List D} (h : RepS W C G H (.o b c fs) (.ref a) A0) (h' : RepS W C G' H' (.o b c fs) (.ref a) A0) (hj : fs[j]? = some (.l b2 xs)) :
    ∃ dx vs l, H a = some (.ins (W.cls c) dx ((W.fld c).zip vs)) ∧ vs[j]? = some (.ref l) ∧ (∃ ws, H l = some (.lst ws) ∧ Reps W G xs ws) ∧ ∃ ws, l ∈ A0 ∧ H' l = some (.lst ws) ∧ Reps W G' xs ws ∧ (A0.Nodup → ∀ xs' ws', Reps W G' xs' ws' → RepS W C G' (upd H' l (.lst ws')) (.o b c (fs.set j (.l b2 xs'))) (.ref a) A0) := by
  cases h with
  | o h1 h2 h3 =>
    generalize hA : _ :: _ = A at h'
    cases h' with
    | o k1 k2 k3 =>
      rename_i dx vs As dx' vs' As'
      have hA : As = As' := by simpa using hA
      subst hA
      obtain ⟨w, X, Aj, Y, e1, e2, e3, _⟩ := h3.put hj
      obtain ⟨w', X', Aj', Y', f1, f2, f3, f4⟩ := k3.put hj
      have e := h3.fld_eq k3 rfl hj rfl
      rw [e2, f2] at e
      cases e
      cases e3 with
      | l q1 q2 =>
        rename_i l vs1 hh1
        cases f3 with
        | l r1 r2 =>
          rename_i vs2
          subst f1
          have hla : a ≠ l := fun e => by
            subst e
            rw [k1] at r1; cases r1
          refine ⟨dx, vs, l, h1, e2, ⟨_, q1, q2⟩, vs2, by simp, r1, r2, fun nd xs' ws' hr => ?_⟩
          have z := f4 (upd H' l (.lst ws')) (.l b2 xs') [l] (fun d hd => upd_ne fun e => by
            subst e
            simp only [List.nodup_cons, List.nodup_append, List.mem_append, List.mem_cons] at nd hd
            grind) (.l upd_same hr)
          exact .o (by rw [upd_ne hla]; exact k1) k2 z
end
end EV

set_option maxRecDepth 100000
set_option maxHeartbeats 1000000
/-! append, pop, x[i] = y, x.f = y: the rest. -/
namespace EV
open PySem PySem.Spec PyProof.Rows L2 LamX
theorem ownAt_f {i c j : Nat} {env : Env} {t : S} (h : ownAt (.f i c j) env = some t) : ∃ b fs, env[i]? = some (some (.o b c fs)) ∧ fs[j]? = some t ∧ owned t = true := by
  unfold ownAt at h
  simp only at h
  split at h
  · rename_i b c' fs e
    split at h
    · rename_i hc
      have hc := eq_of_beq hc
      subst hc
      split at h
      · rename_i t' e2
        split at h
        · rename_i ho
          cases h
          exact ⟨b, fs, e, e2, ho⟩
        · cases h
      · cases h
    · cases h
  · cases h
theorem ownAt_s {i : Nat} {env : Env} {t : S} (h : ownAt (.s i) env = some t) : env[i]? = some (some t) ∧ owned t = true := by
  unfold ownAt at h
  simp only at h
  split at h
  · split at h
    · rename_i e ho
      cases h
      exact ⟨e, ho⟩
    · cases h
  · cases h
theorem turnS_s {i : Nat} {env : Env} {s : S} {f : S → Option S} (h : env[i]? = some (some s)) : turnS (.s i) f env = (f s).map fun s' => env.set i (some s') := by
  simp only [turnS, h]
  cases f s <;> rfl
theorem turnS_f {i c j : Nat} {env : Env} {b : Bool} {fs : List S} {t : S} {f : S → Option S} (h : env[i]? = some (some (.o b c fs))) (hj : fs[j]? = some t) : turnS (.f i c j) f env = (f t).map fun t' => env.set i (some (.o b c (fs.set j t'))) := by
  simp only [turnS, h, hj, beq_self_eq_true, if_true]
  cases f t <;> rfl
section
variable {g : GX} {p : Pt} {k : Nat} {X : Cx} {cx : CX} {r : EvR} {c j : Nat} {f : Str} {e e1 : Expr} {pos pos2 pos3 pos4 : Pos}
theorem fld_uniq {W : Wd} {H : Hp} {a dx dx' l l' : Addr} {vs vs' : List V} (ok : ClsOk W c) (hf : (fldT c)[j]? = some f) (h1 : H a = some (.ins (W.cls c) dx ((W.fld c).zip vs))) (h2 : H a = some (.ins (W.cls c) dx' ((W.fld c).zip vs'))) (e1 : vs[j]? = some (.ref l)) (e2 : vs'[j]? = some (.ref l')) : l = l' := by
  rw [ok.fld] at h1 h2
  have q1 := lookup_zip (fldT_nd c) hf e1
  have q2 := lookup_zip (fldT_nd c) hf e2
  rw [h1] at h2
  injection h2 with h2
  injection h2 with _ _ h2
  rw [h2, q2] at q1
  cases q1; rfl
theorem im_appF (ok : ClsOk p.W c) (hf : (fldT c)[j]? = some f) (hK : X.K = p.W.K) {i : Nat} {x : IE} (hi : i < p.n) {D : Ends} {σ : L2.St} {H : Hp} (q : tS p (stepS1 cx r (.app (.f i c j) x)) D σ H) :
    tDrop (tBM X.K "list" rAppend (tFld X.K (tVar i) f) (tCons (tD p (evD r x)) tNil)) D σ H := by
  obtain ⟨B, G, env, tmp, L, q⟩ := q
  simp only [stepS1] at q
  cases h0 : ownAt (.f i c j) env with
  | none => rw [h0] at q; exact q.elim
  | some t =>
    rw [h0] at q
    obtain ⟨b, fs, h, hj, ho⟩ := ownAt_f h0
    cases t with
    | l b2 xs =>
      have q : Got ((unlockR [.f i c j] env (evD r x (lockE [.f i c j] env))).bind fun y env1 => (turnS (.f i c j) (appS y) env1).map fun e => Out.ok Fl.nx e) _ _ := q
      obtain ⟨v0, A00, _, _, hv0, hr0, _⟩ := L.lock h rfl hi
      obtain ⟨a, rfl⟩ : ∃ a, v0 = .ref a := by cases hr0; exact ⟨_, rfl⟩
      obtain ⟨dx, vs, l, k1, k2, ⟨ws, k3, _⟩, _⟩ := fld_at hr0 hr0 hj
      refine ⟨.ref a, hv0, obj_fld (Q := fun w H1 => tyV X.K "list" w H1 ∧ tCons (tD p (evD r x)) tNil σ H1 fun xs H2 => rAppend w xs H2 fun _ H1 => D.nx σ H1) ok hf hK k1 k2 ⟨.inl ⟨rfl, ws, .of k3⟩, ?_⟩⟩
      refine tD_lock (q := .f i c j) L h rfl hi q (fun c e z => z.ex) fun v A0 d env1 w G' H' nd hv hr x1 rw' hr' hlt hu q1 => ?_
      have hv : σ[i]? = some (some v) := hv
      rw [hv0] at hv
      cases hv
      obtain ⟨dx2, vs2, l2, m1, m2, _, ws2, m3, m4, m5, m6⟩ := fld_at hr hr' hj
      have el := fld_uniq ok hf k1 m1 k2 m2
      subst el
      have hget : (env1.set i (some (S.o b c fs)))[i]? = some (some (S.o b c fs)) := List.getElem?_set_self hlt
      have q1 : Got ((turnS (.f i c j) (appS d) (env1.set i (some (.o b c fs)))).map fun e => Out.ok Fl.nx e) _ _ := q1
      rw [turnS_f hget hj] at q1
      by_cases hz : xs.length < 1000000
      · simp only [appS, if_pos hz, Option.map_some, List.set_set] at q1
        refine ⟨l, ws2, w, rfl, rfl, m4, by rw [← m5.length]; exact Nat.lt_trans hz lineS, ?_⟩
        refine (show AftS p D B G tmp .nx _ from q1) G' σ _ x1 (hu _ _ A0 (fun d hd => upd_ne fun e => hd (e ▸ m3)) (m6 nd _ _ (m5.append (.cons rw' .nil))) nd (fun _ z => z) (fun z => z))
      · simp only [appS, if_neg hz] at q1
        exact q1.elim
    | _ => exact q.elim
theorem few_ok {env : PySem.Env} {e : Expr} {cpos : Pos} (h : noStar e = true) : ((backTo cpos (starEach [e] env)).all (fun x => !x.1) && (backToKw cpos (keywordEach [] env)).all (fun x => x.1.isSome)
      && decide (([e] : List Expr).length + ([] : List Keyword).length + (if ([] : List Keyword).isEmpty then 0 else 1) < 30)) = true := by
  rw [star_cons h]; rfl
/-- x.append(e) -/
theorem as1_appV (h : Ctx g X p k) {i : Nat} {y : Str} {x : IE} (he : AE X p cx e x) (hN : g.N[i]? = some y) (hv : visB g.sc y = true) (hp : plainNm y = true) (hst : noStar e = true := by rfl) (hline : (pos2.endLine == pos3.line) = true := by rfl)
    (hbase : attributeBase (.Name y pos) "append" X.env (eval (.Name y pos) X.env) = eval (.Name y pos) X.env := by rfl) : AS1 X p cx (.Expr (.Call (.Attribute (.Name y pos) "append" pos2) [e] [] pos3) pos4) (.app (.s i) x) := fun n =>
  ps_imp (ps_expr (pe_bm PySem.F.plainAttrs_list PySem.F.slot_list_append PySem.F.type_list_append mt_append (pe_var (by rw [h.N]; exact hN) (by rw [h.sc]; exact vis_of hv) (pn_d hp) (pn_c hp)) (pa_cons (pe_D (he n)) pa_nil (star_cons hst)) hbase (few_ok hst) hline (star_cons hst) rfl) rfl)
    fun D σ H q => im_appV (by rw [h.n]; exact (List.getElem?_eq_some_iff.mp hN).1) q
/-- x.f.append(e) -/
theorem as1_appF (h : Ctx g X p k) (ok : ClsOk p.W c) {i : Nat} {y : Str} {x : IE} (hf : (fldT c)[j]? = some f) (he : AE X p cx e x) (hN : g.N[i]? = some y) (hv : visB g.sc y = true) (hp : plainNm y = true) {pos0 : Pos} (hst : noStar e = true := by rfl) (hline : (pos2.endLine == pos3.line) = true := by rfl)
    (hbase : attributeBase (.Attribute (.Name y pos0) f pos) "append" X.env (eval (.Attribute (.Name y pos0) f pos) X.env) = eval (.Attribute (.Name y pos0) f pos) X.env := by rfl)
    (hb : attributeBase (.Name y pos0) f X.env (eval (.Name y pos0) X.env) = eval (.Name y pos0) X.env := by rfl) : AS1 X p cx (.Expr (.Call (.Attribute (.Attribute (.Name y pos0) f pos) "append" pos2) [e] [] pos3) pos4) (.app (.f i c j) x) := fun n =>
  ps_imp (ps_expr (pe_bm PySem.F.plainAttrs_list PySem.F.slot_list_append PySem.F.type_list_append mt_append (pe_fld (pe_var (by rw [h.N]; exact hN) (by rw [h.sc]; exact vis_of hv) (pn_d hp) (pn_c hp)) hb) (pa_cons (pe_D (he n)) pa_nil (star_cons hst)) hbase (few_ok hst) hline (star_cons hst) rfl) rfl)
    fun D σ H q => im_appF ok hf h.K (by rw [h.n]; exact (List.getElem?_eq_some_iff.mp hN).1) q
/-! x[i] = y -/
theorem ix_set {α : Type} {xs : List α} {i : Int} (h : 0 ≤ i ∧ i < xs.length) : L2.ixN xs.length i = some i.toNat := by
  unfold L2.ixN
  rw [if_pos h.1, if_pos h.2]
theorem im_subV {i : Nat} {x y : IE} (hi : i < p.n) {D : Ends} {σ : L2.St} {H : Hp} (q : tS p (stepS1 cx r (.sub (.s i) x y)) D σ H) : tAsg (tD p (evD r y)) (gSub (tVar i) (tD p (evD r x)) rSetL) D σ H := by
  obtain ⟨B, G, env, tmp, L, q⟩ := q
  refine ⟨B, G, env, tmp, L, (Got.bind (show Got ((evD r y env).bind _) _ _ from q)).imp (fun d0 env0 q v0 G0 H0 x0 L0 r0 => ?_) fun c env' q => q.ex⟩
  cases h1 : ownAt (.s i) env0 with
  | none => rw [h1] at q; exact q.elim
  | some s =>
    rw [h1] at q
    obtain ⟨h, ho⟩ := ownAt_s h1
    cases s with
    | l b xs =>
      have q : Got ((unlockR [.s i] env0 (evD r x (lockE [.s i] env0))).bind fun z env1 => (turnS (.s i) (putS z d0) env1).map fun e => Out.ok Fl.nx e) (AftS p D B G tmp) (AftX p B G tmp) := q
      obtain ⟨v1, A00, _, _, hv0, hr0, _⟩ := L0.lock h rfl hi
      obtain ⟨a, rfl⟩ : ∃ a, v1 = .ref a := by cases hr0; exact ⟨_, rfl⟩
      refine ⟨.ref a, hv0, tD_lock (q := .s i) L0 h rfl hi (q.imp (fun _ _ z => z.mono x0) fun _ _ z => z.mono x0) (fun c e z => z.ex) fun v A0 d env1 w G' H' nd hv hr x1 rw' hr' hlt hu q1 => ?_⟩
      have hv : σ[i]? = some (some v) := hv
      rw [hv0] at hv
      cases hv
      have hget : (env1.set i (some (S.l b xs)))[i]? = some (some (S.l b xs)) := List.getElem?_set_self hlt
      have q1 : Got ((turnS (.s i) (putS d d0) (env1.set i (some (.l b xs)))).map fun e => Out.ok Fl.nx e) (AftS p D B G0 tmp) (AftX p B G0 tmp) := q1
      rw [turnS_s hget] at q1
      cases hr' with
      | l m4 m5 =>
        rename_i ws
        cases d with
        | int ii =>
          by_cases hz : 0 ≤ ii ∧ ii < xs.length
          · simp only [putS, if_pos hz, Option.map_some, List.set_set] at q1
            cases rw'
            rw [m5.length] at hz
            refine ⟨a, ws, ii, ii.toNat, rfl, rfl, m4, ix_set hz, ?_⟩
            exact (show AftS p D B G0 tmp .nx _ from q1) G' σ _ x1 (hu _ _ [a] (fun c hc => upd_ne (by simpa using hc)) (.l upd_same (Reps.set (r0.ext x1) _ m5)) (by simp) (by cases hr; simp) (fun z => z))
          · simp only [putS, if_neg hz] at q1
            exact q1.elim
        | _ => exact q1.elim
    | _ => exact q.elim
theorem im_subF (ok : ClsOk p.W c) (hf : (fldT c)[j]? = some f) (hK : X.K = p.W.K) {i : Nat} {x y : IE} (hi : i < p.n) {D : Ends} {σ : L2.St} {H : Hp} (q : tS p (stepS1 cx r (.sub (.f i c j) x y)) D σ H) : tAsg (tD p (evD r y)) (gSub (tFld X.K (tVar i) f) (tD p (evD r x)) rSetL) D σ H := by
  obtain ⟨B, G, env, tmp, L, q⟩ := q
  refine ⟨B, G, env, tmp, L, (Got.bind (show Got ((evD r y env).bind _) _ _ from q)).imp (fun d0 env0 q v0 G0 H0 x0 L0 r0 => ?_) fun c env' q => q.ex⟩
  cases h1 : ownAt (.f i c j) env0 with
  | none => rw [h1] at q; exact q.elim
  | some s =>
    rw [h1] at q
    obtain ⟨b, fs, h, hj, ho⟩ := ownAt_f h1
    cases s with
    | l b2 xs =>
      have q : Got ((unlockR [.f i c j] env0 (evD r x (lockE [.f i c j] env0))).bind fun z env1 => (turnS (.f i c j) (putS z d0) env1).map fun e => Out.ok Fl.nx e) (AftS p D B G tmp) (AftX p B G tmp) := q
      obtain ⟨v1, A00, _, _, hv0, hr0, _⟩ := L0.lock h rfl hi
      obtain ⟨a, rfl⟩ : ∃ a, v1 = .ref a := by cases hr0; exact ⟨_, rfl⟩
      obtain ⟨dx, vs, l, k1, k2, ⟨ws, k3, _⟩, _⟩ := fld_at hr0 hr0 hj
      refine ⟨.ref a, hv0, obj_fld (Q := fun w H => tD p (evD r x) σ H fun i H2 => rSetL w i v0 H2 fun H3 => D.nx σ H3) ok hf hK k1 k2 ?_⟩
      refine tD_lock (q := .f i c j) L0 h rfl hi (q.imp (fun _ _ z => z.mono x0) fun _ _ z => z.mono x0) (fun c e z => z.ex) fun v A0 d env1 w G' H' nd hv hr x1 rw' hr' hlt hu q1 => ?_
      have hv : σ[i]? = some (some v) := hv
      rw [hv0] at hv
      cases hv
      obtain ⟨dx2, vs2, l2, m1, m2, _, ws2, m3, m4, m5, m6⟩ := fld_at hr hr' hj
      have el := fld_uniq ok hf k1 m1 k2 m2
      subst el
      have hget : (env1.set i (some (S.o b c fs)))[i]? = some (some (S.o b c fs)) := List.getElem?_set_self hlt
      have q1 : Got ((turnS (.f i c j) (putS d d0) (env1.set i (some (.o b c fs)))).map fun e => Out.ok Fl.nx e) (AftS p D B G0 tmp) (AftX p B G0 tmp) := q1
      rw [turnS_f hget hj] at q1
      cases d with
      | int ii =>
        by_cases hz : 0 ≤ ii ∧ ii < xs.length
        · simp only [putS, if_pos hz, Option.map_some, List.set_set] at q1
          cases rw'
          rw [m5.length] at hz
          refine ⟨l, ws2, ii, ii.toNat, rfl, rfl, m4, ix_set hz, ?_⟩
          exact (show AftS p D B G0 tmp .nx _ from q1) G' σ _ x1 (hu _ _ A0 (fun d hd => upd_ne fun e => hd (e ▸ m3)) (m6 nd _ _ (Reps.set (r0.ext x1) _ m5)) nd (fun _ z => z) (fun z => z))
        · simp only [putS, if_neg hz] at q1
          exact q1.elim
      | _ => exact q1.elim
    | _ => exact q.elim
/-- x[e1] = e -/
theorem as1_subV (h : Ctx g X p k) {i : Nat} {y : Str} {x z : IE} (he : AE X p cx e z) (h1 : AE X p cx e1 x) (hN : g.N[i]? = some y) (hv : visB g.sc y = true) (hp : plainNm y = true)
    (ha : ∀ v, assign (.Subscript (.Name y pos) e1 pos2) X.env v = (do
      let ov ← holding [v] (eval (.Name y pos) X.env)
      let iv ← holding [v, ov] (eval e1 X.env)
      standAt pos2
      holding [v, ov, iv] (setItem ov iv v)
      release [v, ov, iv] []) := by intro _; rfl)
    (hs : swapsWithSole [.Subscript (.Name y pos) e1 pos2] e pos3.line X.env = pure false := by rfl) (hw : swappedStores [.Subscript (.Name y pos) e1 pos2] e X.env = pure none := by rfl) : AS1 X p cx (.Assign [.Subscript (.Name y pos) e1 pos2] e pos3) (.sub (.s i) x z) := fun n =>
  ps_imp (ps_asg (pe_D (he n)) (pg_sub (pe_var (by rw [h.N]; exact hN) (by rw [h.sc]; exact vis_of hv) (pn_d hp) (pn_c hp)) (pe_D (h1 n)) set_list ha) hs hw)
    fun D σ H q => im_subV (by rw [h.n]; exact (List.getElem?_eq_some_iff.mp hN).1) q
theorem as1_subF (h : Ctx g X p k) (ok : ClsOk p.W c) {i : Nat} {y : Str} {x z : IE} {pos0 : Pos} (hf : (fldT c)[j]? = some f) (he : AE X p cx e z) (h1 : AE X p cx e1 x) (hN : g.N[i]? = some y) (hv : visB g.sc y = true) (hp : plainNm y = true)
    (hb : attributeBase (.Name y pos0) f X.env (eval (.Name y pos0) X.env) = eval (.Name y pos0) X.env := by rfl)
    (ha : ∀ v, assign (.Subscript (.Attribute (.Name y pos0) f pos) e1 pos2) X.env v = (do
      let ov ← holding [v] (eval (.Attribute (.Name y pos0) f pos) X.env)
      let iv ← holding [v, ov] (eval e1 X.env)
      standAt pos2
      holding [v, ov, iv] (setItem ov iv v)
      release [v, ov, iv] []) := by intro _; rfl)
    (hs : swapsWithSole [.Subscript (.Attribute (.Name y pos0) f pos) e1 pos2] e pos3.line X.env = pure false := by rfl) (hw : swappedStores [.Subscript (.Attribute (.Name y pos0) f pos) e1 pos2] e X.env = pure none := by rfl) : AS1 X p cx (.Assign [.Subscript (.Attribute (.Name y pos0) f pos) e1 pos2] e pos3) (.sub (.f i c j) x z) := fun n =>
  ps_imp (ps_asg (pe_D (he n)) (pg_sub (pe_fld (pe_var (by rw [h.N]; exact hN) (by rw [h.sc]; exact vis_of hv) (pn_d hp) (pn_c hp)) hb) (pe_D (h1 n)) set_list ha) hs hw)
    fun D σ H q => im_subF ok hf h.K (by rw [h.n]; exact (List.getElem?_eq_some_iff.mp hN).1) q
end
end EV

set_option maxRecDepth 100000
set_option maxHeartbeats 1000000
/-! x.f = y, pop. -/
namespace EV
open PySem PySem.Spec PyProof.Rows L2 LamX
theorem fldT_len (c : Nat) : (fldT c).length ≤ 4 := by
  unfold fldT
  split <;> decide
theorem putF_set {f : Str} {v : V} : ∀ {N : List Str} {vs : List V} {j : Nat}, N.Nodup → N[j]? = some f → j < vs.length → putF f v (N.zip vs) = N.zip (vs.set j v)
  | [], _, _, _, h, _ => by simp at h
  | _ :: _, [], _, _, _, h => by simp at h
  | a :: N, w :: vs, 0, _, h, _ => by
    simp at h; subst h
    simp [putF]
  | a :: N, w :: vs, j + 1, nd, h, hl => by
    rw [List.nodup_cons] at nd
    have h' : N[j]? = some f := by simpa using h
    have hne : a ≠ f := fun e => by
      subst e
      exact nd.1 (List.mem_of_getElem? h')
    rw [List.zip_cons_cons, putF, if_neg hne, List.set_cons_succ, List.zip_cons_cons, putF_set nd.2 h' (by simpa using hl)]
theorem putF_app {f : Str} {v : V} : ∀ {N : List Str} {vs : List V} {j : Nat}, N.Nodup → N[j]? = some f → vs.length = j → putF f v (N.zip vs) = N.zip (vs ++ [v])
  | [], _, _, _, h, _ => by simp at h
  | a :: N, [], j, _, h, hl => by
    simp at hl; subst hl
    simp at h; subst h
    simp [putF]
  | a :: N, w :: vs, 0, _, _, hl => by simp at hl
  | a :: N, w :: vs, j + 1, nd, h, hl => by
    rw [List.nodup_cons] at nd
    have h' : N[j]? = some f := by simpa using h
    have hne : a ≠ f := fun e => by
      subst e
      exact nd.1 (List.mem_of_getElem? h')
    rw [List.zip_cons_cons, putF, if_neg hne, List.cons_append, List.zip_cons_cons, putF_app nd.2 h' (by simpa using hl)]
theorem RepSs.len {W : Wd} {C : List V} {G H : Hp} : ∀ {fs : List S} {vs : List V} {As : List Addr}, RepSs W C G H fs vs As → fs.length = vs.length
  | _, _, _, .nil => rfl
  | _, _, _, .cons _ r => by simp [RepSs.len r]
theorem RepSs.put2 {W : Wd} {C : List V} {G H : Hp} : ∀ {fs : List S} {vs : List V} {As : List Addr} {j : Nat} {t : S}, RepSs W C G H fs vs As → fs[j]? = some t →
    ∃ X Aj Y, As = X ++ (Aj ++ Y) ∧ ∀ H2 t' w' A', (∀ b ∈ X ++ Y, H2 b = H b) → RepS W C G H2 t' w' A' → RepSs W C G H2 (fs.set j t') (vs.set j w') (X ++ (A' ++ Y))
  | _, _, _, _, _, .nil, h => by simp at h
  | _, _, _, 0, _, .cons (A := A0) (As := As) h1 r1, h => by
    refine ⟨[], A0, As, rfl, fun H2 t' w' A' hk ht => ?_⟩
    exact (show RepSs W C G H2 _ _ (A' ++ As) from .cons ht (r1.keep (ExtN.refl G) fun a ha => hk a (by simpa using ha)))
  | _, _, _, j + 1, _, .cons (A := A0) h1 r1, h => by
    obtain ⟨X, Aj, Y, e1, e4⟩ := RepSs.put2 (j := j) r1 (by simpa using h)
    refine ⟨A0 ++ X, Aj, Y, by rw [e1, List.append_assoc], fun H2 t' w' A' hk ht => ?_⟩
    rw [List.append_assoc]
    exact .cons (h1.keep (ExtN.refl G) fun a ha => hk a (by simp [ha])) (e4 H2 t' w' A' (fun b hb => hk b (by simp only [List.mem_append] at hb ⊢; grind)) ht)
theorem RepSs.app {W : Wd} {C : List V} {G H : Hp} {t : S} {w : V} {A : List Addr} (ht : RepS W C G H t w A) : ∀ {fs : List S} {vs : List V} {As : List Addr}, RepSs W C G H fs vs As → RepSs W C G H (fs ++ [t]) (vs ++ [w]) (As ++ A)
  | _, _, _, .nil => by simpa using RepSs.cons ht .nil
  | _, _, _, .cons h r => by
    rw [List.append_assoc]
    exact .cons h (RepSs.app ht r)
/-- a field's new value -/
def putO (j : Nat) (s' : S) (fs : List S) : Option (List S) := if j < fs.length then match fs[j]? with
    | some (.d _) => some (fs.set j s')
    | _ => none
  else if j == fs.length then some (fs ++ [s']) else none
theorem fld_put {W : Wd} {C : List V} {G H : Hp} {b : Bool} {c j : Nat} {f : Str} {fs fs' : List S} {a : Addr} {A0 A1 : List Addr} {s' : S} {w : V} (ok : ClsOk W c) (hf : (fldT c)[j]? = some f) (h : RepS W C G H (.o b c fs) (.ref a) A0) (hs : RepS W C G H s' w A1) (nd : (A0 ++ A1).Nodup) (hp : putO j s' fs = some fs') :
    ∃ dx vs A', H a = some (.ins (W.cls c) dx ((W.fld c).zip vs)) ∧ ((W.fld c).zip vs).length < 1000 ∧ A'.Nodup ∧ (∀ d ∈ A', d ∈ A0 ++ A1) ∧ a ∈ A0 ∧ RepS W C G (upd H a (.ins (W.cls c) dx (putF f w ((W.fld c).zip vs)))) (.o b c fs') (.ref a) A' := by
  cases h with
  | o h1 h2 h3 =>
    rename_i dx vs As
    have hlen : ((W.fld c).zip vs).length < 1000 := by
      rw [List.length_zip, ok.fld]
      have := fldT_len c
      omega
    have hna : a ∉ As ∧ a ∉ A1 := by
      simp only [List.cons_append, List.nodup_cons, List.mem_append, not_or] at nd
      exact nd.1
    have nd2 : (As ++ A1).Nodup := by
      simp only [List.cons_append, List.nodup_cons] at nd
      exact nd.2
    have hs2 : ∀ o, RepS W C G (upd H a o) s' w A1 := fun o => hs.keep (ExtN.refl G) fun d hd => upd_ne fun e => hna.2 (e ▸ hd)
    have h3k : ∀ o, RepSs W C G (upd H a o) fs vs As := fun o => h3.keep (ExtN.refl G) fun d hd => upd_ne fun e => hna.1 (e ▸ hd)
    have hlv := h3.len
    unfold putO at hp
    split at hp
    · rename_i hj
      cases e : fs[j]? with
      | none => rw [e] at hp; cases hp
      | some t =>
        rw [e] at hp
        cases t with
        | d x =>
          cases hp
          obtain ⟨X, Aj, Y, e1, e4⟩ := h3.put2 e
          have e5 : putF f w ((W.fld c).zip vs) = (W.fld c).zip (vs.set j w) := by
            rw [ok.fld]
            exact putF_set (fldT_nd c) hf (by omega)
          refine ⟨dx, vs, a :: (X ++ (A1 ++ Y)), h1, hlen, ?_, ?_, by simp, ?_⟩
          · subst e1
            simp only [List.nodup_cons, List.nodup_append, List.mem_append, List.mem_cons] at nd2 hna ⊢
            grind
          · intro d hd
            subst e1
            simp only [List.mem_append, List.mem_cons] at hd ⊢
            grind
          · rw [e5]
            refine .o upd_same (by rw [List.length_set]; exact h2) ?_
            subst e1
            exact e4 _ s' w A1 (fun d hd => upd_ne fun e => hna.1 (by subst e; simp only [List.mem_append] at hd ⊢; grind)) (hs2 _)
        | _ => cases hp
    · split at hp
      · rename_i hj
        have hj := eq_of_beq hj
        cases hp
        have e5 : putF f w ((W.fld c).zip vs) = (W.fld c).zip (vs ++ [w]) := by
          rw [ok.fld]
          exact putF_app (fldT_nd c) hf (by omega)
        refine ⟨dx, vs, a :: (As ++ A1), h1, hlen, ?_, ?_, by simp, ?_⟩
        · simpa using nd
        · intro d hd
          simpa using hd
        · rw [e5]
          refine .o upd_same ?_ (RepSs.app (hs2 _) (h3k _))
          rw [List.length_append, ok.fld]
          have := (List.getElem?_eq_some_iff.mp hf).1
          simp only [List.length_singleton]
          omega
      · cases hp
section
variable {g : GX} {p : Pt} {k : Nat} {X : Cx} {cx : CX} {r : EvR} {c j : Nat} {f : Str} {e e1 : Expr} {pos pos2 pos3 pos4 : Pos}
theorem im_fld (ok : ClsOk p.W c) (hf : (fldT c)[j]? = some f) (hK : X.K = p.W.K) {i : Nat} {own : Bool} {x : IE} (hi : i < p.n) {D : Ends} {σ : L2.St} {H : Hp} (q : tS p (stepS1 cx r (.fld i c j own x)) D σ H) : sFld X.K (tVar i) (tE p (r.e x)) f D σ H := by
  obtain ⟨B, G, env, tmp, L, q⟩ := q
  refine ⟨B, G, env, tmp, L, (Got.bind (show Got ((r.e x env).bind _) _ _ from q)).imp (fun s env' q v G' H' x1 L1 => ?_) fun c env' q => q.ex⟩
  cases t : ownS own s with
  | none => rw [t] at q; exact q.elim
  | some s' =>
    rw [t] at q
    have hL : ∃ G2, ExtN G' G2 ∧ Link p.W B p.C p.n p.σp G2 σ H' env' ((v, s') :: tmp) := by
      cases own with
      | true =>
        have t : some (unpin s) = some s' := t
        cases t
        obtain ⟨A, T, h1, h2, h3⟩ := L1.reps
        cases h2 with
        | cons hr ht => exact ⟨G', ExtN.refl _, { L1 with reps := ⟨A, _, h1, .cons hr.flag ht, h3⟩ }⟩
      | false =>
        have t3 : s.toD.map S.d = some s' := t
        obtain ⟨d, t4, rfl⟩ := Option.map_eq_some_iff.mp t3
        obtain ⟨G2, x2, L2, r2⟩ := L1.frz t4
        exact ⟨G2, x2, L2.push r2⟩
    obtain ⟨G2, x2, L2⟩ := hL
    cases h : env'[i]? with
    | none => rw [h] at q; exact q.elim
    | some o =>
      cases o with
      | none => rw [h] at q; exact q.elim
      | some so =>
        rw [h] at q
        cases so with
        | o b c' fs =>
          simp only at q
          split at q
          · rename_i hc
            have hc := eq_of_beq hc
            subst hc
            have hq : ∃ fs', putO j s' fs = some fs' ∧ AftS p D B G tmp .nx (env'.set i (some (.o b c fs'))) := by
              unfold putO
              split at q
              · split at q
                · rename_i h1 _ _ h2
                  first | rw [if_pos h1, h2] | rw [if_pos h1]
                  exact ⟨_, rfl, q⟩
                · exact q.elim
              · rename_i h1
                rw [if_neg h1]
                split at q
                · rename_i h2
                  rw [if_pos h2]
                  exact ⟨_, rfl, q⟩
                · exact q.elim
            obtain ⟨fs', hp, q⟩ := hq
            obtain ⟨va, A0, T0, hv, hr, ht, nd, hu⟩ := Link.turnG (top := [(v, s')]) L2 h rfl hi
            cases ht with
            | cons hs hn =>
              cases hn
              rename_i A1
              obtain ⟨a, rfl⟩ : ∃ a, va = .ref a := by cases hr; exact ⟨_, rfl⟩
              rw [List.append_nil] at nd hu
              obtain ⟨dx, vs, A', k1, k2, k3, k4, k5, k6⟩ := fld_put ok hf hr hs nd hp
              refine ⟨.ref a, hv, a, _, dx, _, rfl, k1, by rw [hK]; exact ok.cls, by rw [hK]; exact ok.no f (List.mem_of_getElem? hf), k2, ?_⟩
              exact q G2 σ _ (x1.trans x2) (hu _ _ A' (fun d hd => upd_ne fun e => hd (by rw [e]; exact List.mem_append_left _ k5)) k6 k3 k4 fun z => z)
          · exact q.elim
        | _ => exact q.elim
/-- x.f = e -/
theorem as1_fld (h : Ctx g X p k) (ok : ClsOk p.W c) {i : Nat} {y : Str} {own : Bool} {x : IE} (hf : (fldT c)[j]? = some f) (he : AE X p cx e x) (hN : g.N[i]? = some y) (hv : visB g.sc y = true) (hp : plainNm y = true)
    (hs : swapsWith e (some (.Attribute (.Name y pos) f pos2)) pos3.line X.env = pure false := by rfl) : AS1 X p cx (.Assign [.Attribute (.Name y pos) f pos2] e pos3) (.fld i c j own x) := fun n =>
  ps_imp (ps_fld (pe_var (by rw [h.N]; exact hN) (by rw [h.sc]; exact vis_of hv) (pn_d hp) (pn_c hp)) (he n) hs)
    fun D σ H q => im_fld ok hf h.K (by rw [h.n]; exact (List.getElem?_eq_some_iff.mp hN).1) q
/-! pop -/
theorem im_popV {i : Nat} (hi : i < p.n) {σ : L2.St} {H : Hp} {Q : VK} (q : tE p (stepE cx r (.pop (.s i))) σ H Q) : tBM0 X.K "list" rPop (tVar i) σ H Q := by
  obtain ⟨B, G, env, tmp, L, q⟩ := q
  simp only [stepE] at q
  cases h : env[i]? with
  | none => simp only [peekS, h] at q; exact q.elim
  | some o =>
    cases o with
    | none => simp only [peekS, h] at q; exact q.elim
    | some s =>
      simp only [peekS, h] at q
      cases hpp : popS s.un with
      | none => rw [hpp] at q; exact q.elim
      | some sd =>
        obtain ⟨s2, d⟩ := sd
        rw [hpp, turnS_s h] at q
        simp only at q
        cases s with
        | l b xs =>
          have hpp : popS (.l b xs) = some (s2, d) := hpp
          have hlst : xs.getLast? = some d ∧ s2 = .l b xs.dropLast := by
            unfold popS at hpp
            simp only at hpp
            split at hpp
            · rename_i d' e; cases hpp; exact ⟨e, rfl⟩
            · cases hpp
          obtain ⟨hd, rfl⟩ := hlst
          simp only [hpp, Option.map_some] at q
          obtain ⟨v, A0, T0, hv, hr, ht, nd, hu⟩ := Link.turnG (top := []) (tmp := tmp) L h rfl hi
          cases ht
          cases hr with
          | l h1 h2 =>
            rename_i a vs
            have hlast : xs[xs.length - 1]? = some d := by rw [← List.getLast?_eq_getElem?]; exact hd
            obtain ⟨w, hw, rw'⟩ := h2.get hlast
            refine ⟨.ref a, hv, .inl ⟨rfl, vs, .of h1⟩, a, vs, w, rfl, rfl, h1, by rw [← h2.length]; exact hw, ?_⟩
            have hdl : Reps p.W G xs.dropLast vs.dropLast := by
              rw [List.dropLast_eq_take, List.dropLast_eq_take, h2.length]
              exact h2.take _
            exact q w G _ (ExtN.refl G) ((hu _ _ [a] (fun c hc => upd_ne (by simpa using hc)) (.l upd_same hdl) (by simp) (by simp) fun z => z).push rw')
        | lk s => simp only [popS, Option.map_none] at q; exact q.elim
        | _ => simp only [S.un, popS] at hpp; cases hpp
theorem ae_popV (h : Ctx g X p k) {i : Nat} {y : Str} (hN : g.N[i]? = some y) (hv : visB g.sc y = true) (hp : plainNm y = true)
    (hbase : attributeBase (.Name y pos) "pop" X.env (eval (.Name y pos) X.env) = eval (.Name y pos) X.env := by rfl) (hline : (pos2.endLine == pos3.line) = true := by rfl) : AE X p cx (.Call (.Attribute (.Name y pos) "pop" pos2) [] [] pos3) (.pop (.s i)) :=
  ae_step fun n => pe_imp (pe_bm0 PySem.F.plainAttrs_list PySem.F.slot_list_pop PySem.F.type_list_pop mt_pop (pe_var (by rw [h.N]; exact hN) (by rw [h.sc]; exact vis_of hv) (pn_d hp) (pn_c hp)) hbase hline)
    fun σ H Q q => im_popV (by rw [h.n]; exact (List.getElem?_eq_some_iff.mp hN).1) q
end
end EV

set_option maxRecDepth 100000
set_option maxHeartbeats 1000000
/-! Exceptions: raise; try with a name. -/
namespace EV
open PySem PySem.Spec PyProof.Rows L2 LamX
abbrev excH (cls : Value) (a : Addr) : HO := .ext fun h => ∃ (oe : Obj) (vs : Array Value), h.get? a = some oe ∧ Zc cls none oe ∧ oe.data = .fields vs
section
variable {X : Cx} {pins : List (Addr × Obj)} {σ : L2.St} {H : Hp} {s : Shared}
/-- an object that is known is taken into the abstract heap -/
theorem inv_adopt {a : Addr} {oe : Obj} {vs : Array Value} {cls : Value} (I : L2.Inv X pins σ H s) (ha : s.heap.get? a = some oe) (hd : oe.data = .fields vs) (hz : Zc cls none oe) (na : H a = none) (nL : a ≠ X.env.locals)
    (nP : ∀ q ∈ X.pn ++ pins, q.1 ≠ a) (n0 : X.s_0.heap.get? a = none) : L2.Inv X pins σ (upd H a (excH cls a)) s := by
  have ne : ∀ {b : Addr} {o : HO}, H b = some o → b ≠ a := fun {b o} e z => by rw [z, na] at e; cases e
  refine ⟨I.ok, I.os, I.bare, ⟨I.base.keep, I.base.slot, fun b o e n hx => ?_, I.base.there, fun b xs e => ?_, fun b o u e => ?_, fun b ps e => ?_⟩, I.loc, I.cell, ?_, fun x c e => ?_, fun q hq => ?_, fun b o e => ?_, I.len⟩
  · have hb : b ≠ a := fun z => by rw [z, n0] at e; cases e
    rw [upd_ne hb]; exact I.base.free b o e n hx
  · have z := I.base.tups b xs e
    rw [upd_ne (ne z)]; exact z
  · have z := I.base.frzs b o u e
    rw [upd_ne (ne z)]; exact z
  · obtain ⟨m, z⟩ := I.base.tbls b ps e
    exact ⟨m, by rw [upd_ne (ne z)]; exact z⟩
  · rw [upd_ne (Ne.symm nL)]; exact I.free
  · have hc : c ≠ a := fun z => by
      obtain ⟨v, o, e1, e2⟩ := I.cell x c e
      rw [z, ha] at e1
      cases e1
      rw [hd] at e2
      cases e2
    rw [upd_ne hc]; exact I.freeC x c e
  · obtain ⟨e1, e2, e3⟩ := I.pin q hq
    exact ⟨e1, by rw [upd_ne (nP q hq)]; exact e2, e3⟩
  · by_cases hb : b = a
    · subst hb
      rw [upd_same] at e
      cases e
      exact ⟨⟨oe, vs, ha, hz, hd⟩, ⟨oe, ha⟩, fun h1 h2 ⟨oe', vs', k1, k2, k3⟩ k => ⟨oe', vs', k _ k1, k2, k3⟩⟩
    · rw [upd_ne hb] at e
      exact (I.hok b o e).stay (fun c u _ q => q) (fun c q => by rw [upd_ne (ne q)]; exact q) fun c xs q => by rw [upd_ne (ne q)]; exact q
theorem inv_suite {a : Addr} (I : L2.Inv X pins σ H s) : L2.Inv (X.suite a (X.pn ++ pins)) [] σ H s :=
  ⟨I.ok.suite _ _, I.os, I.bare, I.base, I.loc, I.cell, I.free, I.freeC, fun q hq => I.pin q (by rw [List.append_nil] at hq; exact hq), I.hok, I.len⟩
theorem inv_unsuite {a : Addr} {pn' : List (Addr × Obj)} (I : L2.Inv (X.suite a (X.pn ++ pins)) pn' σ H s) (ok : X.Ok) : L2.Inv X pins σ H s :=
  ⟨ok, I.os, I.bare, I.base, I.loc, I.cell, I.free, I.freeC, fun q hq => I.pin q (List.mem_append_left _ hq), I.hok, I.len⟩
end
/-- what 'except x as n' wishes: the exception is known in the abstract heap -/
def wOwn (K : PySem.W.Frag) (c : Value) (i : Nat) (ts : TS) (Wout : WX) (D : Ends) : WX := fun cls d σ H =>
  ∃ b, PySem.W.exmOne K cls c = some b ∧ (b = true → d = none ∧ ∀ a, H a = none → ts { nx := fun σ' H' => D.nx (σ'.set i none) H', rt := D.rt, bk := fun σ' H' => D.bk (σ'.set i none) H', ct := fun σ' H' => D.ct (σ'.set i none) H' } (σ.set i (some (.ref a))) (upd H a (excH cls a))) ∧
    (b = false → Wout cls d σ H)
section
variable {X : Cx} {x n : Str} {c : Value} {i : Nat} {body suite : List Stmt} {b₀ : Stmt} {np pos pos' : Pos} {tb : WX → TS} {ts : TS} {Wout : WX}
theorem ps_try_own (hs : X.stack = X.env :: X.outer) (hf : X.env.frame = some X.env.locals) (hex : X.ex = []) (hN : X.N.Nodup) (hi : X.N[i]? = some n) (hln : X.env.kindOf n = some .local) (hc : Names X x c) (tk : Takes X Wout)
    (hb : ∀ (W : WX) (pn : List (Addr × Obj)) (xe : Value → Shared → Prop), Takes (X.tr pn xe) W → PassesOwn (model X.prog X.w) X.A X.env xe → PSs (X.tr pn xe) body (tb W))
    (hsu : ∀ (a : Addr) (pn : List (Addr × Obj)), PSs (X.suite a pn) (b₀ :: suite) ts) :
    PS X (.Try body [.ExceptHandler (some (.Name x np)) (some n) (b₀ :: suite) pos'] [] [] pos) (fun D σ H => tb (wOwn X.K c i ts Wout D) D σ H) := by
  refine ⟨fun pins s σ H D I h => ?_⟩
  have ok := I.ok
  have hfr : X.A.frames = some (X.env :: X.outer) := by rw [ok.frames, hs]
  have hloc : Loc X.env.scope n := .inl hln
  refine wpAny_Try_except ?_
  refine wpAny_mono ((hb (wOwn X.K c i ts Wout D) (X.pn ++ pins) (fun e s₁ => wpAny (model X.prog X.w) X.A (noteFrame e X.env) (fun _ s₂ => wpAny (model X.prog X.w) X.A (setFlight e none) (fun _ s₃ =>
    wpAny (model X.prog X.w) X.A (handleBy e X.env [.ExceptHandler (some (.Name x np)) (some n) (b₀ :: suite) pos']) (SP X pins D) X.xe s₃) X.xe s₂) X.xe s₁) (fun u s' xx => ?_) PassesOwn.looking).run [] s σ H D (I.toTry _) h) (fun f s1 hsp => ?_) (fun e s1 he => he)
  · obtain ⟨a, B, sI, pins', σ', H', cls, d, rfl, J', nb, up, sky, na, os, ag, b, hb1, hyes, hno⟩ := xx
    have J : L2.Inv X pins σ' H' sI := J'.ofTry ok
    have sky' : Sky B (X.env :: X.outer) a (Zc cls d) X.env.locals s'.heap := by rw [← hs]; exact sky
    show wpAny (model X.prog X.w) X.A (noteFrame (.ref a) X.env) _ _ _
    refine Sky.land Zc.steady hfr hf sky' fun h3 fl3 up3 => ?_
    have J3 : L2.Inv X pins σ' H' { s' with heap := h3 } := J.landed nb fl3.1 (up.trans up3) os ag
    obtain ⟨oe3, vs3, he3, hz3, hd3⟩ := fl3.there
    have notFr : ∀ {h : Heap} {o : Obj} {vs : Array Value}, h.FunFrames B (X.env :: X.outer) → h.get? a = some o → o.data = .fields vs → a ∉ frs (X.env :: X.outer) := fun {h o vs} ff e dd hm => by
      obtain ⟨_, o', e', hnf⟩ := ff.mem hm
      rw [e] at e'; cases e'
      exact hnf _ dd
    have nfr := notFr fl3.2.2.1 he3 hd3
    have nI : sI.heap.get? a = none := by
      cases q : sI.heap.get? a with
      | none => rfl
      | some o =>
        have z := nb a o q (by rw [hs]; exact nfr)
        rw [fl3.2.1] at z; cases z
    have n0 : X.s_0.heap.get? a = none := by
      cases q : X.s_0.heap.get? a with
      | none => rfl
      | some o =>
        obtain ⟨o', z⟩ := J.base.there a o q (by rw [hex]; simp)
        rw [nI] at z; cases z
    have nP : ∀ q ∈ X.pn ++ pins, q.1 ≠ a := fun q hq z => by
      have k := (J.pin q hq).1
      rw [z, nI] at k; cases k
    have nL : a ≠ X.env.locals := fun z => nfr (List.mem_filterMap.mpr ⟨X.env, List.mem_cons_self, by rw [hf, z]⟩)
    have nF : a ∉ X.fs := fun hm => by
      obtain ⟨e, he, q⟩ := List.mem_filterMap.mp hm
      exact nfr (List.mem_filterMap.mpr ⟨e, List.mem_cons_of_mem _ he, q⟩)
    have S3 := J3.suite he3 hd3 na nL nF
    refine wpAny_handleBy_cons (codeAny_handlers_test ?_) (by intro q; cases q)
    have LT : PySem.W.Looks (model X.prog X.w) h3 (typeOf (.ref a)) cls := fun A Q E s k q => wpAny_typeOf_ref (k _ _ he3) (by rw [hz3.1]; exact q)
    have LM := PySem.W.exm_one (M := model X.prog X.w) (J3.kIn) LT hb1
    have test : ∀ {Q : Value → Shared → Prop} {E : Value → Shared → Prop}, Q c { s' with heap := h3 } → wpAny (model X.prog X.w) (X.A.mark (some (.ref a))) (eval (.Name x np) X.env) Q E { s' with heap := h3 } := fun {Q E} q => by
      obtain ⟨hg, hdbg, hm | ⟨hm, hv, hnn⟩⟩ := hc
      · exact ld_glob (X := X.suite a ((a, oe3) :: (X.pn ++ pins))) S3 hg hm q hdbg
      · exact ld_blt (X := X.suite a ((a, oe3) :: (X.pn ++ pins))) S3 hg hm hv q hnn hdbg
    refine test (LM.here ?_)
    cases b with
    | true =>
      obtain ⟨hdn, hyes2⟩ := hyes rfl
      subst hdn
      refine codeAny_handlers_suite_as ?_
      refine HandSPX.lands_againZ fl3 fun h4 fl4 up4 => ?_
      have J4 : L2.Inv X pins σ' H' { s' with heap := h4 } := J.landed nb fl4.1 ((up.trans up3).trans up4) os ag
      obtain ⟨oe4, vs4, he4, hz4, hd4⟩ := fl4.there
      have S4 : L2.Inv (X.suite a (X.pn ++ pins)) [] σ' (upd H' a (excH cls a)) { s' with heap := h4 } := inv_suite (inv_adopt J4 he4 hd4 hz4 na nL nP n0)
      refine store_ok (X := X.suite a (X.pn ++ pins)) (v := .ref a) S4 hN hi hloc rfl (fun s5 S5 => ?_) (.inr hln)
      refine wpAny_mono ((hsu a (X.pn ++ pins)).run [] s5 _ _ _ S5 (hyes2 a na)) (fun f s6 hsp => ?_) (fun _ _ z => False.elim z)
      have end_ : ∀ {σ6 : L2.St} {H6 : Hp} {Q : Shared → Prop}, L2.Inv (X.suite a (X.pn ++ pins)) [] σ6 H6 s6 → (∀ s7, L2.Inv X pins (σ6.set i none) H6 s7 → Q s7) →
          wpAny (model X.prog X.w) X.A (do bindName X.env n .none; unbindBehindTheSuite X.env n pos') (fun _ s7 => Q s7) X.xe s6 := fun {σ6 H6 Q} S6 hq => gone_ok (inv_unsuite S6 ok) hN hi hln hq
      cases f with
      | next =>
        obtain ⟨σ6, H6, S6, q6⟩ := hsp
        exact end_ S6 fun s7 J7 => ⟨_, _, J7, q6⟩
      | brk =>
        obtain ⟨σ6, H6, S6, q6⟩ := hsp
        exact end_ S6 fun s7 J7 => ⟨_, _, J7, q6⟩
      | cont =>
        obtain ⟨σ6, H6, S6, q6⟩ := hsp
        exact end_ S6 fun s7 J7 => ⟨_, _, J7, q6⟩
      | ret u =>
        obtain ⟨v6, σ6, H6, S6, r6, q6⟩ := hsp
        exact end_ S6 fun s7 J7 => ⟨_, _, _, J7, r6, q6⟩
    | false =>
      show wpAny _ X.A (handleBy (.ref a) X.env []) _ _ _
      refine wpAny_handleBy_nil ?_
      obtain ⟨k1, k2, k3, oe, vs, T, oT, ts', he, hz, hd, h1, hr⟩ := id fl3
      unfold PySem.passOn
      refine wpAny_bind (wpAny_field he hd h1 ?_)
      rw [if_neg (show ¬ ((Value.ref T == Value.none) = true) from by simp)]
      have fin : wpAny (model X.prog X.w) X.A (setFlight (.ref a) X.env.frame) (fun _ s4 => wpAny (model X.prog X.w) X.A (throw (.ref a) : Sem Flow) (SP X pins D) X.xe s4) X.xe { s' with heap := h3 } := by
        rw [hf]
        refine HandSPX.setFlight_upZ fl3 fun h4 hh4 up4 => wpAny_throw (tk _ _ ?_)
        exact ⟨a, B, sI, pins, σ', H', cls, d, rfl, J, nb, (up.trans up3).trans up4, .inr (.inr (by rw [hs]; exact hh4)), na, os, ag, hno rfl⟩
      first
        | exact wpAny_bind (wpAny_pure (wpAny_bind fin))
        | exact wpAny_bind fin
  · cases f with
    | next =>
      obtain ⟨σ', H', J', q⟩ := hsp
      exact wpAny_execs_nil ⟨σ', H', J'.ofTry ok, q⟩
    | brk =>
      obtain ⟨σ', H', J', q⟩ := hsp
      exact ⟨σ', H', J'.ofTry ok, q⟩
    | cont =>
      obtain ⟨σ', H', J', q⟩ := hsp
      exact ⟨σ', H', J'.ofTry ok, q⟩
    | ret u =>
      obtain ⟨v, σ', H', J', r, q⟩ := hsp
      exact ⟨v, σ', H', J'.ofTry ok, r, q⟩
end
/-- what the exceptions of the package say -/
structure ExcOk (W : Wd) (c : Nat) : Prop where
  exq : PySem.W.excIn W.K (W.exc c) [.type "ValueError", .type "Exception", .type "BaseException", .type "object"] "ValueError.__new__" = true
  kp : PySem.W.keepIn W.K (.ref (W.exc c)) = true
  sub : PySem.W.subIn W.K (.ref (W.exc c)) (.type "BaseException") = some true
  ty : PySem.W.typeIn W.K (.ref (W.exc c)) = some (.type "type")
  exm : W.xs = true → ∀ k, k < 11 → PySem.W.exmOne W.K (.ref (W.exc k)) (.ref (W.exc c)) = some (c == k || c == 0)
section
variable {g : GX} {p : Pt} {k : Nat} {X : Cx} {cx : CX} {r : EvR} {c j : Nat} {f : Str} {e e1 : Expr} {pos pos2 pos3 pos4 : Pos}
theorem as1_rais (h : Ctx g X p k) (ok : ExcOk p.W c) {i j : Nat} {x m : Str} (hg : g.gt[i]? = some (x, .exc c)) (hx : glB g.sc x = true) (hp : plainNm x = true) : AS1 X p cx (.Raise (some (.Call (.Name x pos) [.Constant (.str m) j pos2] [] pos3)) none pos4) (.rais c) := fun n =>
  ps_imp (ps_raise h.calm h.takes (pmk_own PySem.F.excBase_ValueError (by rw [h.K]; exact ok.exq) (h.mg _ (List.mem_of_getElem? hg)) (by rw [h.K]; exact ok.kp) (raises_own (by rw [h.K]; exact ok.sub) (by rw [h.K]; exact ok.ty)) (h.gl hx) (pn_d hp))) fun D σ H q => by
    obtain ⟨B, G, env, tmp, L, q⟩ := q
    exact q G σ H (ExtN.refl G) L
abbrev Pt.wx (p : Pt) (W : WX) : Pt := { p with Wx := W }
theorem AftS.wx {W : WX} {D : Ends} {B : Bs} {G : Hp} {tmp : List (V × S)} {fl : Fl} {env : Env} (h : AftS p D B G tmp fl env) : AftS (p.wx W) D B G tmp fl env := by
  cases fl <;> exact h
theorem isDN_inv {j : Nat} {env : Env} (h : isDN j env = true) : ∃ o, env[j]? = some o ∧ ∀ t, o = some t → pinned t = false := by
  unfold isDN at h
  split at h
  · rename_i d e; exact ⟨_, e, fun t z => by cases z; rfl⟩
  · rename_i e; exact ⟨_, e, fun t z => by cases z⟩
  · cases h
theorem im_try (hxs : p.W.xs = true) (ok : ExcOk p.W c) (hK : X.K = p.W.K) (hj : j < p.n) {b hh : List IS} {D : Ends} {σ : L2.St} {H : Hp} (q : tS p (stepS1 cx r (.try_ b c (some j) hh)) D σ H) :
    tS (p.wx (wOwn X.K (.ref (p.W.exc c)) j (tS (p.wx fun _ _ _ _ => False) (r.s hh)) p.Wx D)) (r.s b) D σ H := by
  obtain ⟨B, G, env, tmp, L, q⟩ := q
  refine ⟨B, G, env, tmp, L, ?_⟩
  simp only [stepS1] at q
  cases t : r.s b env with
  | none => rw [t] at q; exact q.elim
  | some o =>
    rw [t] at q
    cases o with
    | ok fl env' => exact AftS.wx (show AftS p D B G tmp fl env' from q)
    | exn k env' =>
      simp only at q
      split at q
      · rename_i hk
        intro G' σ' H' x1 L1
        have L1 : Link p.W B p.C p.n p.σp G' σ' H' env' tmp := L1
        refine ⟨c == k || c == 0, by rw [hK]; exact ok.exm hxs k hk, fun hb => ⟨rfl, fun a ha => ?_⟩, fun hb => ?_⟩
        · rw [if_pos hb] at q
          cases t2 : setSlot j (.d (.exc k)) env' with
          | none => rw [t2] at q; exact q.elim
          | some env1 =>
            rw [t2] at q
            obtain ⟨rfl, o, ho, hp⟩ := setSlot_inv t2
            obtain ⟨L2, e2⟩ := L1.newG (o := excH (.ref (p.W.exc k)) a) ha fun _ z => by cases z
            have L3 := (L2.push (Rep.exc hxs hk upd_same)).store ho hp hj fun A hr => hr
            refine ⟨B, _, _, tmp, L3, ?_⟩
            simp only at q
            cases t3 : r.s hh (env'.set j (some (.d (.exc k)))) with
            | none => rw [t3] at q; exact q.elim
            | some o =>
              rw [t3] at q
              cases o with
              | exn k2 e2 => exact q.elim
              | ok fl e3 =>
                simp only at q
                split at q
                · rename_i hd
                  obtain ⟨o3, ho3, hp3⟩ := isDN_inv hd
                  cases fl with
                  | nx => exact fun G4 σ4 H4 x4 L4 => (show AftS p D B G tmp .nx _ from q) G4 _ H4 ((x1.trans e2).trans x4) (Link.gone L4 ho3 hp3 hj none)
                  | bk => exact fun G4 σ4 H4 x4 L4 => (show AftS p D B G tmp .bk _ from q) G4 _ H4 ((x1.trans e2).trans x4) (Link.gone L4 ho3 hp3 hj none)
                  | rt s => exact fun v G4 σ4 H4 x4 L4 => (show AftS p D B G tmp (.rt s) _ from q) v G4 _ H4 ((x1.trans e2).trans x4) (Link.gone L4 ho3 hp3 hj none)
                · exact q.elim
        · rw [if_neg (by rw [hb]; decide)] at q
          exact (show AftX p B G tmp k env' from q) G' σ' H' x1 L1
      · exact q.elim
theorem Ctx.tr (h : Ctx g X p k) {W : WX} {pn : List (Addr × Obj)} {xe : Value → Shared → Prop} (tk : Takes (X.tr pn xe) W) : Ctx g (X.tr pn xe) (p.wx W) k :=
  ⟨h.prog, h.w, h.K, h.N, h.n, h.nd, h.sc, h.calm, h.mg, h.room, tk, h.wok⟩
/-- try: .. except X as n: .. -/
theorem as1_try (h : Ctx g X p k) (hxs : p.W.xs = true) (ok : ExcOk p.W c) (hs : X.stack = X.env :: X.outer) (hf : X.env.frame = some X.env.locals) (hex : X.ex = []) {i : Nat} {x nm : Str} {b₀ : Stmt} {body suite : List Stmt} {b hh : List IS}
    (hg : g.gt[i]? = some (x, .exc c)) (hx : glB g.sc x = true) (hp : plainNm x = true) (hN : g.N[j]? = some nm) (hv : locB g.sc nm = true)
    (hb : ∀ (W : WX) (pn : List (Addr × Obj)) (xe : Value → Shared → Prop), Takes (X.tr pn xe) W → PassesOwn (model X.prog X.w) X.A X.env xe → AS (X.tr pn xe) (p.wx W) cx body b)
    (hsu : ∀ (a : Addr) (pn : List (Addr × Obj)), AS (X.suite a pn) (p.wx fun _ _ _ _ => False) cx (b₀ :: suite) hh) :
    AS1 X p cx (.Try body [.ExceptHandler (some (.Name x pos)) (some nm) (b₀ :: suite) pos2] [] [] pos3) (.try_ b c (some j) hh) := fun n => by
  have hi : j < p.n := by rw [h.n]; exact (List.getElem?_eq_some_iff.mp hN).1
  exact ps_imp (ps_try_own (Wout := p.Wx) (tb := fun W => tS (p.wx W) ((evN cx n).s b)) (ts := tS (p.wx fun _ _ _ _ => False) ((evN cx n).s hh)) hs hf hex (by rw [h.N]; exact h.nd) (by rw [h.N]; exact hN)
    (show X.env.scope.names.lookup nm = some .local by rw [h.sc]; exact loc_of hv) (c := .ref (p.W.exc c)) ⟨h.gl hx, pn_d hp, .inl (h.mg _ (List.mem_of_getElem? hg))⟩ h.takes (fun W pn xe tk po => hb W pn xe tk po n) fun a pn => hsu a pn n)
    fun D σ H q => im_try hxs ok h.K hi q
/-- a slot's data in an except suite -/
theorem ae_varN {i : Nat} {x : Str} (hXN : X.N[i]? = some x) (hv : Vis X.env.scope x) (hi : i < p.n) (hp : plainNm x = true) : AE X p cx (.Name x pos) (.var i) := by
  refine ae_step fun n => pe_imp (pe_var hXN hv (pn_d hp) (pn_c hp)) fun σ H Q q => ?_
  obtain ⟨B, G, env, tmp, L, q⟩ := q
  simp only [stepE] at q
  split at q
  · rename_i d hd
    obtain ⟨v, A0, h2, h3⟩ := L.getU hd hi
    cases h3 with
    | d h3 => exact ⟨v, h2, q v G H (ExtN.refl G) (L.push h3)⟩
  · exact q.elim
end
end EV

set_option maxRecDepth 100000
set_option maxHeartbeats 1000000
/-! What is walked: lists, tuples, texts; zip of any two of them. -/
namespace EV
open PySem PySem.Spec PyProof.Rows L2 LamX
/-- what is walked, by its iterator -/
inductive Src where
  | l (a : Addr) | t (a : Addr) | s (x : Str) (u : Tok)
def Src.it (c : Src) (i : Addr) (k : Nat) (h : Heap) : Prop := match c with
  | .l a => h.IsListIter i a k
  | .t a => h.IsTupleIter i a k
  | .s x u => h.IsStrIter i (strIterType x) x u k
def Src.items (K : PySem.W.Frag) (H : Hp) (c : Src) (xs : List V) : Prop := match c with
  | .l a => SqL K H a xs
  | .t a => SqT K H a xs
  | .s x _ => xs = x.cps.toList.map fun c => V.str ⟨#[c]⟩
def Src.fp (c : Src) (i : Addr) : List Addr := match c with
  | .l a => [i, a]
  | .t a => [i, a]
  | .s _ _ => [i]
def Src.val (c : Src) : Value := match c with
  | .l a => .ref a
  | .t a => .ref a
  | .s x u => .str x u
def Src.obj (c : Src) : Obj := match c with
  | .l a => { cls := .type "list_iterator", data := .fields #[.ref a, .int 0 0] }
  | .t a => { cls := .type "tuple_iterator", data := .fields #[.ref a, .int 0 0] }
  | .s x u => { cls := .type (strIterType x), data := .fields #[.str x u, .int 0 0] }
def Src.far (c : Src) (b : Addr) : Prop := match c with
  | .l a => a ≠ b
  | .t a => a ≠ b
  | .s _ _ => True
theorem Src.it_keep {c : Src} {i : Addr} {k : Nat} {h h' : Heap} (st : c.it i k h) (e : ∀ o, h.get? i = some o → h'.get? i = some o) : c.it i k h' := by
  cases c with
  | l a => exact Heap.IsListIter.at st e
  | t a => exact Heap.IsTupleIter.at st e
  | s x u => obtain ⟨o, ho, r⟩ := st; exact ⟨o, e o ho, r⟩
theorem Src.it_live {c : Src} {i : Addr} {k : Nat} {h : Heap} (st : c.it i k h) : ∃ o, h.get? i = some o ∧ ∀ v, o.data ≠ .cell v := by
  cases c with
  | l a => obtain ⟨o, e, _, d⟩ := st; exact ⟨o, e, fun v z => by rw [d] at z; cases z⟩
  | t a => obtain ⟨o, e, _, d⟩ := st; exact ⟨o, e, fun v z => by rw [d] at z; cases z⟩
  | s x u => obtain ⟨o, e, _, d⟩ := st; exact ⟨o, e, fun v z => by rw [d] at z; cases z⟩
section
variable {X : Cx} {pins : List (Addr × Obj)} {σ : L2.St} {H : Hp} {s : Shared}
theorem Src.items_inj {c : Src} {xs ys : List V} (I : L2.Inv X pins σ H s) (h : c.items X.K H xs) (h' : c.items X.K H ys) : xs = ys := by
  cases c with
  | l a => exact I.list_inj h h'
  | t a => exact I.tuple_inj h h'
  | s x u => exact h.trans h'.symm
/-- what such an iterator draws -/
theorem Src.draws {c : Src} {xs : List V} {i : Addr} {A : Around} (hh : A.handled = none) (I : L2.Inv X pins σ H s) (h : c.items X.K H xs) (hn : H i = none) (hf : c.far i) :
    ∃ (P : Nat → Value → Prop) (St : Nat → Heap → Prop), Draws X.prog X.w A i (c.fp i) xs.length P St ∧ (∀ k, c.it i k s.heap → St k s.heap) ∧ (∀ k h, St k h → c.it i k h) ∧ ∀ k v, P k v → ∃ x, xs[k]? = some x ∧ RelV x v := by
  cases c with
  | l a =>
    obtain ⟨its, rv, p, hz⟩ := I.list h
    have hl : xs.length = its.toArray.size := by rw [List.size_toArray]; exact rv.length
    rw [hl]
    refine ⟨_, _, Draws.list hh i a hf its.toArray, fun k st => ⟨st, p.isList⟩, fun k h st => st.1, fun k v e => ?_⟩
    have e' : its[k]? = some v := by simpa using e
    have hk : k < xs.length := by rw [rv.length]; exact (List.getElem?_eq_some_iff.mp e').1
    obtain ⟨u, hu, ru⟩ := rv.get (List.getElem?_eq_getElem hk)
    rw [e'] at hu
    cases hu
    exact ⟨_, List.getElem?_eq_getElem hk, ru⟩
  | t a =>
    obtain ⟨its, rv, p, hz⟩ := I.tuple h
    have hl : xs.length = its.toArray.size := by rw [List.size_toArray]; exact rv.length
    rw [hl]
    refine ⟨_, _, Draws.tuple hh i a hf its.toArray, fun k st => ⟨st, p⟩, fun k h st => st.1, fun k v e => ?_⟩
    have e' : its[k]? = some v := by simpa using e
    have hk : k < xs.length := by rw [rv.length]; exact (List.getElem?_eq_some_iff.mp e').1
    obtain ⟨u, hu, ru⟩ := rv.get (List.getElem?_eq_getElem hk)
    rw [e'] at hu
    cases hu
    exact ⟨_, List.getElem?_eq_getElem hk, ru⟩
  | s x u =>
    have h : xs = x.cps.toList.map fun c => V.str ⟨#[c]⟩ := h
    have hl : xs.length = x.cps.size := by rw [h]; simp
    rw [hl]
    refine ⟨_, _, Draws.text hh i x u, fun k st => st, fun k h st => st, fun k v e => ?_⟩
    obtain ⟨c, t, hc, rfl⟩ := e
    refine ⟨.str ⟨#[c]⟩, ?_, ⟨t, rfl⟩⟩
    rw [h, List.getElem?_map, Array.getElem?_toList, hc]; rfl
theorem Src.begins {c : Src} {xs : List V} (I : L2.Inv X pins σ H s) (h : c.items X.K H xs) : ∃ Hh : Heap → Prop, Begins c.val c.obj Hh ∧ Hh s.heap := by
  cases c with
  | l a =>
    obtain ⟨its, rv, p, hz⟩ := I.list h
    exact ⟨_, begins_list a its.toArray, p.isList⟩
  | t a =>
    obtain ⟨its, rv, p, hz⟩ := I.tuple h
    exact ⟨_, begins_tuple a its.toArray, p⟩
  | s x u => exact ⟨_, begins_text x u, trivial⟩
end
theorem Src.it0 {c : Src} {i : Addr} {h : Heap} (e : h.get? i = some c.obj) : c.it i 0 h := by
  cases c with
  | l a => exact ⟨_, e, rfl, rfl⟩
  | t a => exact ⟨_, e, rfl, rfl⟩
  | s x u => exact ⟨_, e, rfl, rfl⟩
/-- pairs of two sources -/
def ItZ (K : PySem.W.Frag) (c1 c2 : Src) : It :=
  ⟨fun i H => ∃ (xs ys : List V) (x y : V), c1.items K H xs ∧ c2.items K H ys ∧ xs[i]? = some x ∧ ys[i]? = some y,
    fun i H v H' => ∃ T x y, v = .ref T ∧ H T = none ∧ H' = upd H T (.tup [x, y]) ∧ (∀ xs, c1.items K H xs → xs[i]? = some x) ∧ ∀ ys, c2.items K H ys → ys[i]? = some y,
    fun i H => ∃ xs ys : List V, c1.items K H xs ∧ c2.items K H ys ∧ i ≤ xs.length ∧ i ≤ ys.length ∧ (i = xs.length ∨ i = ys.length)⟩
structure ZSep (c1 c2 : Src) (z TI TO i1 i2 : Addr) : Prop where
  TIz : TI ≠ z
  TOz : TO ≠ z
  i1z : i1 ≠ z
  i2z : i2 ≠ z
  TITO : TI ≠ TO
  TIi1 : TI ≠ i1
  TIi2 : TI ≠ i2
  TOi1 : TO ≠ i1
  TOi2 : TO ≠ i2
  i12 : i1 ≠ i2
  f1 : ∀ b ∈ [z, TO, i1, i2], c1.far b
  f2 : ∀ b ∈ [z, TO, i1, i2], c2.far b
theorem Src.nfp {c : Src} {i b : Addr} (h : c.far b) (hi : i ≠ b) : b ∉ c.fp i := by
  cases c with
  | l a => intro z; have z : b = i ∨ b = a := by simpa [Src.fp] using z
           rcases z with z | z
           · exact hi z.symm
           · exact h z.symm
  | t a => intro z; have z : b = i ∨ b = a := by simpa [Src.fp] using z
           rcases z with z | z
           · exact hi z.symm
           · exact h z.symm
  | s x u => intro z; have z : b = i := by simpa [Src.fp] using z
             exact hi z.symm
theorem ZSep.sep {c1 c2 : Src} {z TI TO i1 i2 : Addr} (S : ZSep c1 c2 z TI TO i1 i2) : ZipSep2 z TI TO i1 i2 (c1.fp i1) (c2.fp i2) where
  TIz := S.TIz
  TOz := S.TOz
  TITO := S.TITO
  TIi1 := S.TIi1
  mem1 := by cases c1 <;> simp [Src.fp]
  zf1 := Src.nfp (S.f1 z (by simp)) S.i1z
  Tf1 := Src.nfp (S.f1 TO (by simp)) S.TOi1.symm
  TIi2 := S.TIi2
  mem2 := by cases c2 <;> simp [Src.fp]
  zf2 := Src.nfp (S.f2 z (by simp)) S.i2z
  Tf2 := Src.nfp (S.f2 TO (by simp)) S.TOi2.symm
  sep1_2 := Src.nfp (S.f2 i1 (by simp)) S.i12.symm
  sep2_1 := Src.nfp (S.f1 i2 (by simp)) S.i12
theorem turn_zipG {P : Program} {w : World} {K : PySem.W.Frag} {elts : List Expr} {kk : Nat} {tpos : Pos} {c1 c2 : Src} {z TI TO i1 i2 : Addr} (D : ZSep c1 c2 z TI TO i1 i2) :
    Turn P w K (.Tuple elts kk tpos) (ItZ K c1 c2) [z, TI, TO, i1, i2] z (fun i h => IsZip h z TI TO .none ∧ IsTupOf2 h TI (.ref i1) (.ref i2) ∧ (∃ x y, IsTupOf2 h TO x y) ∧ c1.it i1 i h ∧ c2.it i2 i h) where
  mem := by simp
  obj := fun i h st c hc => by
    obtain ⟨hz, hTI, ⟨x, y, hTO⟩, h1, h2⟩ := st
    have e' : c = z ∨ c = TI ∨ c = TO ∨ c = i1 ∨ c = i2 := by simpa using hc
    rcases e' with q | q | q | q | q
    · rw [q]; exact ⟨_, hz, fun v q => nomatch q⟩
    · rw [q]; exact ⟨_, hTI, fun v q => nomatch q⟩
    · rw [q]; exact ⟨_, hTO, fun v q => nomatch q⟩
    · rw [q]; exact Src.it_live h1
    · rw [q]; exact Src.it_live h2
  keep := fun i h h' st k => by
    obtain ⟨hz, hTI, ⟨x, y, hTO⟩, h1, h2⟩ := st
    exact ⟨k z (by simp) _ hz, k TI (by simp) _ hTI, ⟨x, y, k TO (by simp) _ hTO⟩, Src.it_keep h1 fun o q => k i1 (by simp) o q, Src.it_keep h2 fun o q => k i2 (by simp) o q⟩
  item := by
    intro X hP hw hK hc i pins s σ H E I hf st hg
    subst hP hw hK
    obtain ⟨hz, hTI, ⟨x0, y0, hTO⟩, h1, h2⟩ := st
    obtain ⟨xs, ys, x, y, hqx, hqy, hx, hy⟩ := hg
    have hh : X.A.in1.handled = none := I.ok.hd hc
    obtain ⟨P1, St1, D1, a1, b1, v1⟩ := Src.draws hh I hqx (hf i1 (by simp)).1 (D.f1 i1 (by simp))
    obtain ⟨P2, St2, D2, a2, b2, v2⟩ := Src.draws hh I hqy (hf i2 (by simp)).1 (D.f2 i2 (by simp))
    have hzl : z < s.heap.objs.size := Heap.lt_size hz
    refine wpAny_pyNext_zipD2_item D.sep D1 D2 hz hTI hTO (a1 i h1) (a2 i h2) (List.getElem?_eq_some_iff.mp hx).1 (List.getElem?_eq_some_iff.mp hy).1 fun u u2 h' tk p1 p2 z' TO' s1 s2 hT hsz hk => ?_
    obtain ⟨x', ex, ru⟩ := v1 i u p1
    obtain ⟨y', ey, ru2⟩ := v2 i u2 p2
    rw [hx] at ex
    cases ex
    rw [hy] at ey
    cases ey
    refine ⟨_, rfl, wpAny_letOwnedTupleGo_zip (s := { s with heap := h', toks := tk }) z' fun h'' z'' sb => ?_⟩
    have hT2 : h''.get? s.heap.objs.size = some { cls := .type "tuple", data := .seq #[u, u2] } := (sb.2 _ (Nat.ne_of_gt hzl)).trans hT
    have new : ObjOk X.prog X.w (upd H s.heap.objs.size (.tup [x, y])) h'' s.heap.objs.size (.tup [x, y]) :=
      ⟨by show 2 ≤ sizeLine; decide, [u, u2], .cons ru (.cons ru2 .nil), ⟨_, hT2, rfl, _, rfl⟩⟩
    have I1 : L2.Inv X pins σ (upd H s.heap.objs.size (.tup [x, y])) { s with heap := h'', toks := tk } :=
      I.turnedNew (t' := tk) (ch := [z, TI, TO, i1, i2]) (fun c o hb q => (sb.2 c (fun q' => hb (by simp [q']))).trans (hk c o (fun q' => hb (by simp [q'])) (fun q' => hb (by simp [q'])) (fun q' => hb (by simp [q'])) (fun q' => hb (by simp [q'])) q)) hf (Nat.le_refl _) new
    refine ⟨.ref s.heap.objs.size, _, I1, rfl, ⟨_, x, y, rfl, I.hok.fresh (Nat.le_refl _), rfl, fun l hl => by rw [Src.items_inj I hl hqx]; exact hx, fun l hl => by rw [Src.items_inj I hl hqy]; exact hy⟩, ⟨z'', ?_, ⟨u, u2, ?_⟩, ?_, ?_⟩, fun c hcm => ?_⟩
    · exact (sb.2 _ D.TIz).trans (hk _ _ D.TIz D.TITO D.TIi1 D.TIi2 hTI)
    · exact (sb.2 _ D.TOz).trans TO'
    · exact Src.it_keep (b1 _ _ s1) fun o q => (sb.2 _ D.i1z).trans q
    · exact Src.it_keep (b2 _ _ s2) fun o q => (sb.2 _ D.i2z).trans q
    · have hlt : c < s.heap.objs.size := by
        have e' : c = z ∨ c = TI ∨ c = TO ∨ c = i1 ∨ c = i2 := by simpa using hcm
        rcases e' with q | q | q | q | q
        · rw [q]; exact hzl
        · rw [q]; exact Heap.lt_size hTI
        · rw [q]; exact Heap.lt_size hTO
        · rw [q]; obtain ⟨_, e1, _⟩ := Src.it_live h1; exact Heap.lt_size e1
        · rw [q]; obtain ⟨_, e2, _⟩ := Src.it_live h2; exact Heap.lt_size e2
      rw [upd_ne (Nat.ne_of_lt hlt)]
      exact (hf c hcm).1
  done := by
    intro X hP hw hK hc i pins s σ H E I hf st hg
    subst hP hw hK
    obtain ⟨hz, hTI, ⟨x0, y0, hTO⟩, h1, h2⟩ := st
    obtain ⟨xs, ys, hqx, hqy, l1, l2, hend⟩ := hg
    have hh : X.A.in1.handled = none := I.ok.hd hc
    obtain ⟨P1, St1, D1, a1, b1, v1⟩ := Src.draws hh I hqx (hf i1 (by simp)).1 (D.f1 i1 (by simp))
    obtain ⟨P2, St2, D2, a2, b2, v2⟩ := Src.draws hh I hqy (hf i2 (by simp)).1 (D.f2 i2 (by simp))
    exact wpAny_pyNext_zipD2_end D.sep D1 D2 hz hTI hTO (a1 i h1) (a2 i h2) l1 l2 hend fun h' tk hk => ⟨rfl, I.turnedL (t' := tk) (ch := [z, TI, TO, i1, i2]) (fun c o hb q =>
      hk c o (fun q' => hb (by simp [q'])) (fun q' => hb (by simp [q'])) (fun q' => hb (by simp [q'])) (fun q' => hb (by simp [q'])) q) hf⟩
  self := fun A i s Q E st h => wpAny_pyIter_zip st.1 h
end EV

set_option maxRecDepth 100000
set_option maxHeartbeats 1000000
/-! Iterators begin; what an inner form walks. -/
namespace EV
open PySem PySem.Spec PyProof.Rows L2 LamX
def Src.v : Src → V
  | .l a => .ref a
  | .t a => .ref a
  | .s x _ => .str x
theorem Src.fix {c : Src} {u : Value} (r : RelV c.v u) : ∃ c' : Src, c'.val = u ∧ ∀ K H xs, c'.items K H xs = c.items K H xs := by
  cases c with
  | l a => cases (show u = Value.ref a from r); exact ⟨.l a, rfl, fun _ _ _ => rfl⟩
  | t a => cases (show u = Value.ref a from r); exact ⟨.t a, rfl, fun _ _ _ => rfl⟩
  | s x u0 => obtain ⟨t, rfl⟩ := (show ∃ t, u = Value.str x t from r); exact ⟨.s x t, rfl, fun _ _ _ => rfl⟩
theorem itZ_eq {K : PySem.W.Frag} {c1 c2 d1 d2 : Src} (h1 : ∀ K H xs, d1.items K H xs = c1.items K H xs) (h2 : ∀ K H xs, d2.items K H xs = c2.items K H xs) : ItZ K d1 d2 = ItZ K c1 c2 := by
  unfold ItZ
  simp only [h1, h2]
section
variable {X : Cx} {pins : List (Addr × Obj)} {σ : L2.St} {H : Hp} {s : Shared}
theorem Src.far_of {c : Src} {xs : List V} (I : L2.Inv X pins σ H s) (h : c.items X.K H xs) {b : Addr} (hb : s.heap.objs.size ≤ b) : c.far b := by
  cases c with
  | l a =>
    obtain ⟨its, rv, p, hz⟩ := I.list h
    exact Nat.ne_of_lt (Nat.lt_of_lt_of_le p.lt hb)
  | t a =>
    obtain ⟨its, rv, p, hz⟩ := I.tuple h
    obtain ⟨o, ho, _⟩ := id p
    exact Nat.ne_of_lt (Nat.lt_of_lt_of_le (Heap.lt_size ho) hb)
  | s x u => trivial
end
/-- zip(a, b) -/
def iZipG (K : PySem.W.Frag) (ta : TA) : TI := fun σ H R => ta σ H fun vs H1 => ∃ c1 c2 xs ys, vs = [Src.v c1, Src.v c2] ∧ Src.items K H1 c1 xs ∧ Src.items K H1 c2 ys ∧ R (ItZ K c1 c2) H1
theorem pi_zipG {X : Cx} {e e2 : Expr} {ta : TA} {p pos tpos : Pos} {elts : List Expr} {kk : Nat} (hg : Gl X "zip") (hm : X.mg "zip" = none) (ha : PA X [e, e2] ta)
    (hs : starEach [e, e2] X.env = (false, eval e X.env) :: starEach [e2] X.env) (hpl : (backTo pos (starEach [e2] X.env)).any (·.1) = false) :
    PI X (.Tuple elts kk tpos) (.Call (.Name "zip" p) [e, e2] [] pos) (iZipG X.K ta) := by
  refine ⟨fun pins s σ H R I h => ?_⟩
  refine Call_ (ld_blt I hg hm PyProof.Rows.boot_zip (PyProof.Rows.callWith_type1 (thn (ha.run pos pins s σ H _ I h) fun us s1 ⟨vs, H1, I1, r1, q1⟩ => ?_) hs hpl))
  obtain ⟨c1, c2, xs, ys, ex, hqx, hqy, q⟩ := q1
  subst ex
  cases r1 with
  | cons r rr =>
    cases rr with
    | cons r' rr =>
      cases rr
      obtain ⟨d1, hv1, hd1⟩ := Src.fix r
      obtain ⟨d2, hv2, hd2⟩ := Src.fix r'
      subst hv1
      subst hv2
      rw [← hd1] at hqx
      rw [← hd2] at hqy
      rw [← itZ_eq hd1 hd2] at q
      obtain ⟨P1, b1, p1⟩ := Src.begins I1 hqx
      obtain ⟨P2, b2, p2⟩ := Src.begins I1 hqy
      have fresh5 : ∀ c, c ∈ [s1.heap.objs.size + 4, s1.heap.objs.size + 2, s1.heap.objs.size + 3, s1.heap.objs.size, s1.heap.objs.size + 1] → s1.heap.objs.size ≤ c := fun c hcm => by
        have e' : c = s1.heap.objs.size + 4 ∨ c = s1.heap.objs.size + 2 ∨ c = s1.heap.objs.size + 3 ∨ c = s1.heap.objs.size ∨ c = s1.heap.objs.size + 1 := by simpa using hcm
        rcases e' with z | z | z | z | z <;> rw [z] <;> first | exact Nat.le_refl _ | exact Nat.le_add_right _ _
      refine zip_begins2 b1 b2 p1 p2 fun h' hz hTI hTO h1 h2 hsz hk => wpAny_pyIter_zip hz ?_
      have I2 : L2.Inv X pins σ H1 { s1 with heap := h' } := I1.kept (t' := s1.toks) hk
      have far : ∀ {c : Src} {xs : List V}, c.items X.K H1 xs → ∀ b ∈ [s1.heap.objs.size + 4, s1.heap.objs.size + 3, s1.heap.objs.size, s1.heap.objs.size + 1], c.far b := fun {c xs} hc b hb =>
        Src.far_of I1 hc (fresh5 b (by simp only [List.mem_cons, List.not_mem_nil, or_false] at hb ⊢; omega))
      have S : ZSep d1 d2 (s1.heap.objs.size + 4) (s1.heap.objs.size + 2) (s1.heap.objs.size + 3) s1.heap.objs.size (s1.heap.objs.size + 1) :=
        ⟨by simp, by simp, by simp, by simp, by simp, by simp, by simp, by simp, by simp, by simp, far hqx, far hqy⟩
      exact ⟨s1.heap.objs.size + 4, [s1.heap.objs.size + 4, s1.heap.objs.size + 2, s1.heap.objs.size + 3, s1.heap.objs.size, s1.heap.objs.size + 1], _, _, H1, rfl, I2, turn_zipG S, ⟨hz, hTI, ⟨_, _, hTO⟩, Src.it0 h1, Src.it0 h2⟩, fun c hc => I1.fpOk (fresh5 c hc) (I1.hok.fresh (fresh5 c hc)), q⟩
/-- a list, a tuple or a text -/
def iAny (K : PySem.W.Frag) (te : TE) : TI := fun σ H R => te σ H fun x H1 => (∃ a xs, x = .ref a ∧ SqL K H1 a xs ∧ R (Itl K a) H1) ∨ (∃ a xs, x = .ref a ∧ SqT K H1 a xs ∧ R (Itt K a) H1) ∨ ∃ z, x = .str z ∧ R (Its z) H1
theorem pi_any {X : Cx} {tg e : Expr} {te : TE} (he : PE X e te) : PI X tg e (iAny X.K te) := by
  refine ⟨fun pins s σ H R I h => ?_⟩
  refine thn (he.run pins s σ H _ I h) fun v s1 ⟨y, H1, I1, r1, q⟩ => ?_
  rcases q with ⟨a, xs, rfl, hq, q⟩ | ⟨a, xs, rfl, hq, q⟩ | ⟨z, rfl, q⟩
  · cases r1
    obtain ⟨its, rv, p, hz⟩ := I1.list hq
    exact wpAny_pyIter_list p.isList (pi_one (tk := s1.toks) I1 _ (turn_list a _) ⟨_, Heap.get?_push_size _ rfl, rfl, rfl⟩ q)
  · cases r1
    obtain ⟨its, rv, p, hz⟩ := I1.tuple hq
    exact wpAny_pyIter_tuple (show s1.heap.IsTuple a its.toArray from p) (pi_one (tk := s1.toks) I1 _ (turn_tuple a _) ⟨_, Heap.get?_push_size _ rfl, rfl, rfl⟩ q)
  · obtain ⟨t, rfl⟩ := r1
    cases ha : z.cps.all (· < 128)
    · exact wpAny_pyIter_wide ha (pi_one (tk := s1.toks) I1 _ (turn_str _ z t "str_iterator" (.inr rfl)) ⟨_, Heap.get?_push_size _ rfl, rfl, rfl⟩ q)
    · exact wpAny_pyIter_ascii ha (pi_one (tk := s1.toks) I1 _ (turn_str _ z t "str_ascii_iterator" (.inl rfl)) ⟨_, Heap.get?_push_size _ rfl, rfl, rfl⟩ q)
/-! ### readings -/
/-- what is walked draws the data ds, from G on -/
def ItOk (p : Pt) (B : Bs) (G0 : Hp) (J : It) (ds : List D) : Prop := ∀ (G : Hp) (σ : L2.St) (H : Hp) (env : Env) (tmp : List (V × S)), ExtN G0 G → Link p.W B p.C p.n p.σp G σ H env tmp →
  J.stop ds.length H ∧ ∀ (i : Nat) (d : D), ds[i]? = some d → J.go i H ∧ ∀ x H', J.yld i H x H' → ∃ G', ExtN G G' ∧ Link p.W B p.C p.n p.σp G' σ H' env tmp ∧ Rep p.W G' d x
/-- what is locked is unlocked -/
def LkOk (p : Pt) (B B' : Bs) (ps : List Plc) (env' : Env) : Prop := ∀ (G : Hp) (σ : L2.St) (H : Hp) (env : Env) (tmp : List (V × S)), Link p.W B' p.C p.n p.σp G σ H env tmp → Link p.W B p.C p.n p.σp G σ H (unlockE ps env' env) tmp
def tIt (p : Pt) (f : Env → R (List D)) (ps : List Plc) : TI := fun σ H K => ∃ B G env tmp, Link p.W B p.C p.n p.σp G σ H env tmp ∧
  Got (f env) (fun ds env' => ∀ J B' G' H', ExtN G G' → LkOk p B B' ps env' → Link p.W B' p.C p.n p.σp G' σ H' (lockE ps env') tmp → ItOk p B' G' J ds → K J H') fun c env' => ∀ G' H', ExtN G G' → Link p.W B p.C p.n p.σp G' σ H' env' tmp → p.Wx (.ref (p.W.exc c)) none σ H'
theorem pi_imp {X : Cx} {tg e : Expr} {t t' : TI} (h : PI X tg e t) (i : ∀ σ H R, t' σ H R → t σ H R) : PI X tg e t' := ⟨fun pins s σ H R I q => h.run pins s σ H R I (i σ H R q)⟩
def AI (X : Cx) (p : Pt) (cx : CX) (tg e : Expr) (src : IT) : Prop := ∀ n, PI X tg e (tIt p (evT (evN cx n) src) (srcP src))
section
variable {p : Pt} {B : Bs} {G0 : Hp}
theorem LkOk.nil {env' : Env} : LkOk p B B [] env' := fun _ _ _ _ _ L => L
theorem reps_at {W : Wd} {G : Hp} {ds : List D} {vs : List V} {i : Nat} {d : D} (r : Reps W G ds vs) (h : ds[i]? = some d) : ∃ v, vs[i]? = some v ∧ Rep W G d v := r.get h
end
end EV

set_option maxRecDepth 100000
set_option maxHeartbeats 1000000
/-! What stays readable; iteration of the inner form. -/
namespace EV
open PySem PySem.Spec PyProof.Rows L2 LamX
/-- readable from now on -/
def RRst (p : Pt) (B : Bs) (G0 : Hp) (d : D) (v : V) : Prop := ∀ (G : Hp) (σ : L2.St) (H : Hp) (env : Env) (tmp : List (V × S)), ExtN G0 G → Link p.W B p.C p.n p.σp G σ H env tmp → RR p.W p.C G H d v
section
variable {p : Pt} {B B' B1 : Bs} {G0 : Hp}
theorem RRst.of_rep {d : D} {v : V} (h : Rep p.W G0 d v) : RRst p B G0 d v := fun G σ H env tmp x L => .inl (h.ext x)
theorem RRst.lk {ps : List Plc} {env' : Env} {d : D} {v : V} (h : RRst p B G0 d v) (k : LkOk p B B' ps env') : RRst p B' G0 d v := fun G σ H env tmp x L => h G σ H _ tmp x (k G σ H env tmp L)
theorem RRst.mono {G1 : Hp} {d : D} {v : V} (h : RRst p B G0 d v) (e : ExtN G0 G1) : RRst p B G1 d v := fun G σ H env tmp x L => h G σ H env tmp (e.trans x) L
theorem lockE_two {q1 q2 : Plc} {env : Env} : lockE [q1, q2] env = lockE [q2] (lockE [q1] env) := rfl
theorem LkOk.two {q1 q2 : Plc} {env : Env} (h1 : LkOk p B B1 [q1] env) (h2 : LkOk p B1 B' [q2] (lockE [q1] env)) : LkOk p B B' [q1, q2] env := fun G σ H e tmp L => h1 G σ H _ tmp (h2 G σ H e tmp L)
theorem peek_lock {q : Plc} {i : Nat} {env : Env} : peekS q (lock1 i env) = peekS q env := by
  unfold lock1
  cases h : env[i]? with
  | none => rfl
  | some o =>
    cases o with
    | none => rfl
    | some s =>
      simp only
      split
      · have hlt := (List.getElem?_eq_some_iff.mp h).1
        cases q with
        | s j =>
          simp only [peekS]
          by_cases e : i = j
          · subst e
            rw [List.getElem?_set_self hlt, h]
            cases s <;> first | rfl | (rename_i ho; cases ho)
          · rw [List.getElem?_set_ne e]
        | f j c k =>
          simp only [peekS]
          by_cases e : i = j
          · subst e
            rw [List.getElem?_set_self hlt, h]
            cases s <;> first | rfl | (rename_i ho; cases ho)
          · rw [List.getElem?_set_ne e]
      · rfl
/-- a slot is locked where it must be: its content is readable from now on -/
theorem lockV {G : Hp} {σ : L2.St} {H : Hp} {env : Env} {tmp : List (V × S)} {i : Nat} {t : S} {d : D} {v : V} (L : Link p.W B p.C p.n p.σp G σ H env tmp) (hi : i < p.n) (h : peekS (.s i) env = some t) (hd : t.toD = some d) (hv : σ[i]? = some (some v)) :
    ∃ B', LkOk p B B' [.s i] env ∧ Link p.W B' p.C p.n p.σp G σ H (lockE [.s i] env) tmp ∧ RRst p B' G d v := by
  cases e : env[i]? with
  | none => simp only [peekS, e] at h; cases h
  | some o =>
    cases o with
    | none => simp only [peekS, e] at h; cases h
    | some s =>
      simp only [peekS, e] at h
      cases h
      by_cases ho : owned s = true
      · obtain ⟨v', A0, A1, nd, hv', hr, L1, hu⟩ := L.lock e ho hi
        rw [hv] at hv'
        cases hv'
        refine ⟨⟨H, A1, G, (i, v) :: B.pl, lkAt B.lk i s v A0⟩, fun G2 σ2 H2 e2 tmp2 L2 => ?_, ?_, fun G2 σ2 H2 e2 tmp2 x L2 => ?_⟩
        · rw [unlock_eq (q := .s i) e ho]
          exact Link.unlk nd (hu G2 σ2 H2 e2 tmp2 L2)
        · rw [lock_eq (q := .s i) e ho]; exact L1
        · refine .inr ⟨s, A0, (hu G2 σ2 H2 e2 tmp2 L2).1, ?_⟩
          cases s <;> first | exact hd | cases ho
      · have hl : lockE [.s i] env = env := by
          simp only [lockE, lock1, slotP, e]
          rw [if_neg ho]
        have hul : ∀ e2, unlockE [.s i] env e2 = e2 := fun e2 => by
          simp only [unlockE, unlock1, slotP, e]
          rw [if_neg ho]
        refine ⟨B, fun G2 σ2 H2 e2 tmp2 L2 => by rw [hul]; exact L2, by rw [hl]; exact L, ?_⟩
        cases s with
        | d x =>
          cases hd
          obtain ⟨v', A0, h1, h2⟩ := L.getU e hi
          rw [hv] at h1
          cases h1
          cases h2 with
          | d h2 => exact .of_rep h2
        | clo j => cases hd
        | lk s' =>
          obtain ⟨A, T, h1, _⟩ := L.reps
          have key : ∀ {j : Nat} {σ : L2.St} {env : Env} {A : List Addr} {i : Nat}, RepE p.W ⟨p.C, B.lk⟩ G H j σ env A → env[i]? = some (some (.lk s')) → ∃ v A0, σ[i]? = some (some v) ∧ B.lk (j + i) = some (s', v, A0) := by
            intro j σ env A i r
            induction r generalizing i with
            | nil => intro h; simp at h
            | no r ih =>
              intro h
              cases i with
              | zero => simp at h
              | succ i =>
                obtain ⟨v, A0, q1, q2⟩ := ih (i := i) (by simpa using h)
                exact ⟨v, A0, by simpa using q1, by rw [← q2]; congr 1; omega⟩
            | yes hs r ih =>
              intro h
              cases i with
              | zero => simp at h; subst h; cases hs
              | succ i =>
                obtain ⟨v, A0, q1, q2⟩ := ih (i := i) (by simpa using h)
                exact ⟨v, A0, by simpa using q1, by rw [← q2]; congr 1; omega⟩
            | lk h0 r ih =>
              intro h
              cases i with
              | zero => simp at h; subst h; exact ⟨_, _, rfl, h0⟩
              | succ i =>
                obtain ⟨v, A0, q1, q2⟩ := ih (i := i) (by simpa using h)
                exact ⟨v, A0, by simpa using q1, by rw [← q2]; congr 1; omega⟩
          obtain ⟨v', A0, q1, q2⟩ := key h1 e
          rw [List.getElem?_append_left (by rw [L.len]; exact hi), hv] at q1
          cases q1
          rw [Nat.zero_add] at q2
          exact fun G2 σ2 H2 e2 tmp2 x L2 => .inr ⟨s', A0, L2.lkd q2, hd⟩
        | _ => exact absurd rfl ho
end
/-! ### what is walked -/
section
variable {p : Pt} {B : Bs} {G0 : Hp} {K : PySem.W.Frag}
theorem itOk_lst {ds : List D} {v : V} (h : RRst p B G0 (.lst ds) v) {G : Hp} {σ : L2.St} {H : Hp} {env : Env} {tmp : List (V × S)} (x : ExtN G0 G) (L : Link p.W B p.C p.n p.σp G σ H env tmp) : ∃ a xs, v = .ref a ∧ SqL K H a xs ∧ ItOk p B G0 (Itl K a) ds := by
  obtain ⟨a, vs, rfl, h1, h2⟩ := (h G σ H env tmp x L).lst L.sub
  refine ⟨a, vs, rfl, .of h1, fun G σ H env tmp x L => ?_⟩
  obtain ⟨a', vs, e, h1, h2⟩ := (h G σ H env tmp x L).lst L.sub
  cases e
  refine ⟨⟨vs, .of h1, by rw [h2.length]; exact Nat.le_refl _⟩, fun i d hd => ?_⟩
  obtain ⟨w, hw, hr⟩ := h2.get hd
  refine ⟨⟨vs, w, .of h1, hw⟩, fun y H' ⟨e, hy⟩ => ?_⟩
  subst e
  have := hy vs (.of h1)
  rw [hw] at this
  cases this
  exact ⟨G, ExtN.refl G, L, hr⟩
theorem itOk_tup {ds : List D} {v : V} (h : RRst p B G0 (.tup ds) v) {G : Hp} {σ : L2.St} {H : Hp} {env : Env} {tmp : List (V × S)} (x : ExtN G0 G) (L : Link p.W B p.C p.n p.σp G σ H env tmp) : ∃ a xs, v = .ref a ∧ SqT K H a xs ∧ ItOk p B G0 (Itt K a) ds := by
  obtain ⟨a, vs, rfl, h1, h2⟩ := (h G σ H env tmp x L).tup L.sub
  refine ⟨a, vs, rfl, .of h1, fun G σ H env tmp x L => ?_⟩
  obtain ⟨a', vs, e, h1, h2⟩ := (h G σ H env tmp x L).tup L.sub
  cases e
  refine ⟨⟨vs, .of h1, by rw [h2.length]; exact Nat.le_refl _⟩, fun i d hd => ?_⟩
  obtain ⟨w, hw, hr⟩ := h2.get hd
  refine ⟨⟨vs, w, .of h1, hw⟩, fun y H' ⟨e, hy⟩ => ?_⟩
  subst e
  have := hy vs (.of h1)
  rw [hw] at this
  cases this
  exact ⟨G, ExtN.refl G, L, hr⟩
theorem itOk_str {z : List Nat} : ItOk p B G0 (Its ⟨z.toArray⟩) (z.map fun c => .str [c]) := fun G σ H env tmp x L => by
  refine ⟨by show z.toArray.size ≤ _; simp, fun i d hd => ?_⟩
  rw [List.getElem?_map] at hd
  cases q : z[i]? with
  | none => rw [q] at hd; cases hd
  | some c =>
    rw [q] at hd
    cases hd
    refine ⟨by show i < z.toArray.size; simpa using (List.getElem?_eq_some_iff.mp q).1, fun y H' ⟨e, c', hc, hy⟩ => ?_⟩
    subst e
    have hc : z[i]? = some c' := by simpa using hc
    rw [q] at hc
    cases hc
    exact ⟨G, ExtN.refl G, L, by rw [hy]; exact .str [c]⟩
theorem itOk_any {d : D} {ds : List D} {v : V} (hi : itemsOf d = some ds) (hn : ∀ ks vs, d ≠ .dct ks vs) (h : RRst p B G0 d v) {G : Hp} {σ : L2.St} {H : Hp} {env : Env} {tmp : List (V × S)} (x : ExtN G0 G) (L : Link p.W B p.C p.n p.σp G σ H env tmp) {R : It → Hp → Prop} (q : ∀ J, ItOk p B G0 J ds → R J H) :
    (∃ a xs, v = .ref a ∧ SqL K H a xs ∧ R (Itl K a) H) ∨ (∃ a xs, v = .ref a ∧ SqT K H a xs ∧ R (Itt K a) H) ∨ ∃ z, v = .str z ∧ R (Its z) H := by
  cases d with
  | lst xs =>
    cases hi
    obtain ⟨a, xs, e, h1, h2⟩ := itOk_lst (K := K) h x L
    exact .inl ⟨a, xs, e, h1, q _ h2⟩
  | tup xs =>
    cases hi
    obtain ⟨a, xs, e, h1, h2⟩ := itOk_tup (K := K) h x L
    exact .inr (.inl ⟨a, xs, e, h1, q _ h2⟩)
  | str z =>
    cases hi
    exact .inr (.inr ⟨_, (h G σ H env tmp x L).str, q _ itOk_str⟩)
  | dct ks vs => exact absurd rfl (hn ks vs)
  | _ => cases hi
end
end EV

set_option maxRecDepth 100000
set_option maxHeartbeats 1000000
/-! What the inner form walks. -/
namespace EV
open PySem PySem.Spec PyProof.Rows L2 LamX
theorem Got.impE {α : Type} {x : R α} {k k' : α → Env → Prop} {ke ke' : Nat → Env → Prop} (h : Got x k ke) (h1 : ∀ a e, x = some (.ok a e) → k a e → k' a e) (h2 : ∀ c e, ke c e → ke' c e) : Got x k' ke' := by
  cases x with
  | none => exact h
  | some o => cases o with
    | ok a e => exact h1 a e rfl h
    | exn c e => exact h2 c e h
/-- the places of operands -/
def plc1 : Sum D Plc → List Plc
  | .inl _ => []
  | .inr q => [q]
def plcs : List (Sum D Plc) → List Plc
  | [] => []
  | d :: r => plc1 d ++ plcs r
theorem evP_plc {r : EvR} {a : Opd} {env env' : Env} {d : Sum D Plc} (h : evP r a env = some (.ok d env')) : plc1 d = opdP a := by
  cases a with
  | e x =>
    simp only [evP] at h
    cases q : evD r x env with
    | none => rw [q] at h; cases h
    | some o =>
      cases o with
      | ok a e => rw [q] at h; simp only [R.bind] at h; cases h; rfl
      | exn c e => rw [q] at h; cases h
  | p q =>
    simp only [evP] at h
    split at h
    · cases h; rfl
    · cases h
/-- values that stay readable -/
inductive RRsts (p : Pt) (B : Bs) (G0 : Hp) : List D → List V → Prop
  | nil : RRsts p B G0 [] []
  | cons {d : D} {v : V} {ds : List D} {vs : List V} : RRst p B G0 d v → RRsts p B G0 ds vs → RRsts p B G0 (d :: ds) (v :: vs)
section
variable {p : Pt} {B B' B1 : Bs} {G0 G : Hp} {σ : L2.St} {H : Hp} {env : Env} {tmp : List (V × S)}
theorem LkOk.cons {q1 : Plc} {ps : List Plc} {env : Env} (h1 : LkOk p B B1 [q1] env) (h2 : LkOk p B1 B' ps (lockE [q1] env)) : LkOk p B B' (q1 :: ps) env := fun G σ H e tmp L => h1 G σ H _ tmp (h2 G σ H e tmp L)
theorem fill_lock {i : Nat} : ∀ {l : List (Sum D Plc)}, fillO (lock1 i env) l = fillO env l
  | [] => rfl
  | .inl d :: l => by simp only [fillO, fill_lock (l := l)]
  | .inr q :: l => by simp only [fillO, fill_lock (l := l), peek_lock]
theorem lock_all : ∀ {l : List (Sum D Plc)} {vs : List V} {ds : List D} {B : Bs} {env : Env}, Link p.W B p.C p.n p.σp G σ H env tmp → Rels1 p.W σ G l vs → fillO env l = some ds →
    ∃ B', LkOk p B B' (plcs l) env ∧ Link p.W B' p.C p.n p.σp G σ H (lockE (plcs l) env) tmp ∧ RRsts p B' G ds vs
  | _, _, _, B, env, L, .nil, h => by
    simp only [fillO, Option.some.injEq] at h
    subst h
    exact ⟨B, LkOk.nil, L, .nil⟩
  | .inl d :: l, _, _, B, env, L, .cons h1 h2, h => by
    simp only [fillO] at h
    cases q : fillO env l with
    | none => rw [q] at h; cases h
    | some ds' =>
      rw [q] at h
      simp only [Option.some.injEq] at h
      subst h
      obtain ⟨B', k, L', r⟩ := lock_all L h2 q
      exact ⟨B', k, L', .cons (.of_rep h1) r⟩
  | .inr (.s i) :: l, v :: _, _, B, env, L, .cons h1 h2, h => by
    simp only [fillO] at h
    have h1 : σ[i]? = some (some v) := h1
    cases q1 : peekS (.s i) env with
    | none => rw [q1] at h; cases h
    | some s =>
      cases q2 : s.toD with
      | none => rw [q1] at h; simp only [q2] at h; cases h
      | some d =>
        cases q3 : fillO env l with
        | none => rw [q1] at h; simp only [q2, q3] at h; cases h
        | some ds' =>
          rw [q1] at h
          simp only [q2, q3, Option.some.injEq] at h
          subst h
          have hi : i < p.n := by rw [← L.len]; exact (List.getElem?_eq_some_iff.mp h1).1
          obtain ⟨B1, k1, L1, r1⟩ := lockV L hi q1 q2 h1
          obtain ⟨B', k, L', r⟩ := lock_all (env := lock1 i env) L1 h2 (fill_lock.trans q3)
          exact ⟨B', k1.cons k, L', .cons (r1.lk k) r⟩
  | .inr (.f _ _ _) :: l, _, _, B, env, L, .cons h1 h2, h => h1.elim
end
section
variable {p : Pt} {X : Cx} {cx : CX} {g : GX} {k : Nat} {e e2 tg : Expr}
theorem ai_it {a : Opd} (ha : AO X p cx e a) : AI X p cx tg e (.it a) := fun n => pi_imp (pi_any (ha n)) fun σ H R q => by
  obtain ⟨B, G, env, tmp, L, q⟩ := q
  refine ⟨B, G, env, tmp, L, ?_⟩
  have q := Got.bind (show Got ((evOs (evN cx n) [a] env).bind _) _ _ from q)
  have q := Got.bind (show Got ((evO1 (evN cx n) [a] env).bind _) _ _ from q)
  have q := Got.bind (show Got ((evP (evN cx n) a env).bind _) _ _ from q)
  refine q.impE (fun d env' he q v G' H' e1 L1 r1 => ?_) fun c env' q => q
  have q := got_rest (os := []) (rel1_f r1) q
  have q : Got (match fillO env' [d] with | some ds => some (.ok ds env') | none => none) _ _ := q
  cases t : fillO env' [d] with
  | none => rw [t] at q; exact q.elim
  | some ds =>
    rw [t] at q
    have hp : srcP (.it a) = plcs [d] := by show opdP a = plc1 d ++ []; rw [evP_plc he, List.append_nil]
    obtain ⟨B', lk, L2, rr⟩ := lock_all L1 (.cons r1 .nil) t
    cases rr with
    | cons rr rr' =>
      cases rr'
      rename_i d0
      have q : Got ((itemsOf d0).map fun l => .ok l env') _ _ := q
      cases hi : itemsOf d0 with
      | none => rw [hi] at q; exact q.elim
      | some l =>
        rw [hi] at q
        refine itOk_any hi (fun ks vs z => by subst z; cases hi) rr (ExtN.refl _) L2 fun J hJ => ?_
        exact q J B' G' H' e1 (by rw [hp]; exact lk) (by rw [hp]; exact L2) hJ
end
end EV

set_option maxRecDepth 100000
set_option maxHeartbeats 1000000
/-! range, zip, enumerate walked. -/
namespace EV
open PySem PySem.Spec PyProof.Rows L2 LamX
theorem evO_plc {r : EvR} : ∀ {os : List Opd} {env env' : Env} {l : List (Sum D Plc)}, evO1 r os env = some (.ok l env') → plcs l = (os.map opdP).flatten
  | [], _, _, _, h => by simp only [evO1] at h; cases h; rfl
  | a :: os, env, env', l, h => by
    simp only [evO1] at h
    cases q : evP r a env with
    | none => rw [q] at h; cases h
    | some o =>
      cases o with
      | exn c e => rw [q] at h; cases h
      | ok d e =>
        rw [q] at h
        simp only [R.bind] at h
        cases q2 : evO1 r os (lockE (fPlc d) e) with
        | none => rw [q2] at h; cases h
        | some o =>
          cases o with
          | exn c e => rw [q2] at h; cases h
          | ok ds e2 =>
            rw [q2] at h
            simp only [unlockR] at h
            cases h
            show plc1 d ++ plcs ds = _
            rw [evP_plc q, evO_plc q2]
            rfl
theorem range_up {a b : Int} : ∀ {n : Nat}, n = (b - a).toNat → (rangeL a b 1 n).length = n ∧ ∀ (i : Nat) (d : D), (rangeL a b 1 n)[i]? = some d → d = .int (a + (i : Nat))
  | 0, h => ⟨rfl, fun i d q => by simp [rangeL] at q⟩
  | n + 1, h => by
    have c : a < b := by omega
    have e : rangeL a b 1 (n + 1) = .int a :: rangeL (a + 1) b 1 n := by
      show (if (0 < (1 : Int) ∧ a < b) ∨ _ then _ else _) = _
      rw [if_pos (.inl ⟨by decide, c⟩)]
    rw [e]
    obtain ⟨h1, h2⟩ := range_up (a := a + 1) (b := b) (n := n) (by omega)
    refine ⟨by simp [h1], fun i d q => ?_⟩
    cases i with
    | zero => simp at q; rw [← q]; simp
    | succ i =>
      have := h2 i d (by simpa using q)
      rw [this]
      congr 1
      omega
theorem range_dn {a b : Int} : ∀ {n : Nat}, n = (a - b).toNat → (rangeL a b (-1) n).length = n ∧ ∀ (i : Nat) (d : D), (rangeL a b (-1) n)[i]? = some d → d = .int (a + (i : Nat) * (-1))
  | 0, h => ⟨rfl, fun i d q => by simp [rangeL] at q⟩
  | n + 1, h => by
    have c : b < a := by omega
    have e : rangeL a b (-1) (n + 1) = .int a :: rangeL (a + -1) b (-1) n := by
      show (if _ ∨ ((-1 : Int) < 0 ∧ b < a) then _ else _) = _
      rw [if_pos (.inr ⟨by decide, c⟩)]
    rw [e]
    obtain ⟨h1, h2⟩ := range_dn (a := a + -1) (b := b) (n := n) (by omega)
    refine ⟨by simp [h1], fun i d q => ?_⟩
    cases i with
    | zero => simp at q; rw [← q]; simp
    | succ i =>
      have := h2 i d (by simpa using q)
      rw [this]
      congr 1
      omega
section
variable {p : Pt} {B : Bs} {G0 : Hp}
theorem itOk_rng {lo : Int} {n : Nat} {ds : List D} (h : ds.length = n ∧ ∀ (i : Nat) (d : D), ds[i]? = some d → d = .int (lo + (i : Nat))) : ItOk p B G0 (Itr lo n) ds := fun G σ H env tmp x L => by
  refine ⟨by show n ≤ ds.length; omega, fun i d hd => ⟨by show i < n; rw [← h.1]; exact (List.getElem?_eq_some_iff.mp hd).1, fun y H' ⟨e, hy⟩ => ?_⟩⟩
  subst e
  rw [hy, h.2 i d hd]
  exact ⟨G, ExtN.refl G, L, .int _⟩
theorem itOk_rgc {lo : Int} {n : Nat} {ds : List D} (h : ds.length = n ∧ ∀ (i : Nat) (d : D), ds[i]? = some d → d = .int (lo + (i : Nat) * (-1))) : ItOk p B G0 (Itc lo (-1) n) ds := fun G σ H env tmp x L => by
  refine ⟨by show n ≤ ds.length; omega, fun i d hd => ⟨by show i < n; rw [← h.1]; exact (List.getElem?_eq_some_iff.mp hd).1, fun y H' ⟨e, hy⟩ => ?_⟩⟩
  subst e
  rw [hy, h.2 i d hd]
  exact ⟨G, ExtN.refl G, L, .int _⟩
theorem enumL_get : ∀ {xs : List D} {n i : Nat} {d : D}, (enumL n xs)[i]? = some d → ∃ x, xs[i]? = some x ∧ d = .tup [.int ((n + i : Nat) : Int), x]
  | [], _, _, _, h => by simp [enumL] at h
  | x :: xs, n, 0, d, h => by simp [enumL] at h; exact ⟨x, rfl, by rw [← h]; rfl⟩
  | x :: xs, n, i + 1, d, h => by
    obtain ⟨y, h1, h2⟩ := enumL_get (xs := xs) (n := n + 1) (i := i) (by simpa [enumL] using h)
    refine ⟨y, by simpa using h1, ?_⟩
    rw [h2]
    congr 4
    omega
theorem enumL_len : ∀ {xs : List D} {n : Nat}, (enumL n xs).length = xs.length
  | [], _ => rfl
  | x :: xs, n => by simp [enumL, enumL_len]
theorem itOk_enum {K : PySem.W.Frag} {ds : List D} {a : Addr} (h : RRst p B G0 (.lst ds) (.ref a)) : ItOk p B G0 (Ite K a) (enumL 0 ds) := fun G σ H env tmp x L => by
  obtain ⟨a', vs, e, h1, h2⟩ := (h G σ H env tmp x L).lst L.sub
  cases e
  refine ⟨⟨vs, .of h1, by rw [enumL_len, h2.length]; exact Nat.le_refl _⟩, fun i d hd => ?_⟩
  obtain ⟨d0, hd0, rfl⟩ := enumL_get hd
  obtain ⟨w, hw, hr⟩ := h2.get hd0
  refine ⟨⟨vs, w, .of h1, hw⟩, fun y H' ⟨T, x', e, hn, hH, hy⟩ => ?_⟩
  have := hy vs (.of h1)
  rw [hw] at this
  cases this
  subst e hH
  obtain ⟨L2, e2⟩ := L.newG (o := .tup [.int ((i : Nat) : Int), w]) hn fun _ z => by cases z
  exact ⟨_, e2, L2, .tup upd_same (.cons (by simpa using Rep.int (W := p.W) (i : Int)) (.cons (hr.ext e2) .nil))⟩
/-- a source with its data -/
def SrcOk (p : Pt) (B : Bs) (G0 : Hp) (K : PySem.W.Frag) (c : Src) (l : List D) : Prop := ∀ (G : Hp) (σ : L2.St) (H : Hp) (env : Env) (tmp : List (V × S)), ExtN G0 G → Link p.W B p.C p.n p.σp G σ H env tmp → ∃ xs, c.items K H xs ∧ Reps p.W G l xs
theorem reps_str {W : Wd} {G : Hp} : ∀ {z : List Nat}, Reps W G (z.map fun c => .str [c]) (z.map fun c => V.str ⟨#[c]⟩)
  | [] => .nil
  | c :: z => .cons (.str [c]) reps_str
theorem srcOk_any {K : PySem.W.Frag} {d : D} {l : List D} {v : V} (hi : itemsOf d = some l) (h : RRst p B G0 d v) {G : Hp} {σ : L2.St} {H : Hp} {env : Env} {tmp : List (V × S)} (x : ExtN G0 G) (L : Link p.W B p.C p.n p.σp G σ H env tmp) : ∃ c : Src, v = c.v ∧ SrcOk p B G0 K c l := by
  cases d with
  | lst xs =>
    cases hi
    obtain ⟨a, vs, rfl, _⟩ := (h G σ H env tmp x L).lst L.sub
    refine ⟨.l a, rfl, fun G σ H env tmp x L => ?_⟩
    obtain ⟨a', vs, e, h1, h2⟩ := (h G σ H env tmp x L).lst L.sub
    cases e
    exact ⟨vs, .of h1, h2⟩
  | tup xs =>
    cases hi
    obtain ⟨a, vs, rfl, _⟩ := (h G σ H env tmp x L).tup L.sub
    refine ⟨.t a, rfl, fun G σ H env tmp x L => ?_⟩
    obtain ⟨a', vs, e, h1, h2⟩ := (h G σ H env tmp x L).tup L.sub
    cases e
    exact ⟨vs, .of h1, h2⟩
  | str z =>
    cases hi
    refine ⟨.s ⟨z.toArray⟩ default, (h G σ H env tmp x L).str, fun G σ H env tmp x L => ⟨_, rfl, ?_⟩⟩
    simpa using reps_str
  | _ => cases hi
theorem zipT_get : ∀ {xs ys : List D} {i : Nat} {d : D}, (zipT xs ys)[i]? = some d → ∃ x y, xs[i]? = some x ∧ ys[i]? = some y ∧ d = .tup [x, y]
  | [], ys, _, _, h => by simp [zipT] at h
  | x :: xs, [], _, _, h => by simp [zipT] at h
  | x :: xs, y :: ys, 0, d, h => by simp [zipT] at h; exact ⟨x, y, rfl, rfl, h.symm⟩
  | x :: xs, y :: ys, i + 1, d, h => by
    obtain ⟨a, b, h1, h2, h3⟩ := zipT_get (xs := xs) (ys := ys) (i := i) (by simpa [zipT] using h)
    exact ⟨a, b, by simpa using h1, by simpa using h2, h3⟩
theorem zipT_len : ∀ {xs ys : List D}, (zipT xs ys).length ≤ xs.length ∧ (zipT xs ys).length ≤ ys.length ∧ ((zipT xs ys).length = xs.length ∨ (zipT xs ys).length = ys.length)
  | [], ys => by simp [zipT]
  | x :: xs, [] => by simp [zipT]
  | x :: xs, y :: ys => by
    have := zipT_len (xs := xs) (ys := ys)
    simp only [zipT, List.length_cons]
    omega
theorem itOk_zip {K : PySem.W.Frag} {c1 c2 : Src} {l1 l2 : List D} (h1 : SrcOk p B G0 K c1 l1) (h2 : SrcOk p B G0 K c2 l2) : ItOk p B G0 (ItZ K c1 c2) (zipT l1 l2) := fun G σ H env tmp x L => by
  obtain ⟨xs, q1, r1⟩ := h1 G σ H env tmp x L
  obtain ⟨ys, q2, r2⟩ := h2 G σ H env tmp x L
  refine ⟨⟨xs, ys, q1, q2, ?_⟩, fun i d hd => ?_⟩
  · have e1 := r1.length
    have e2 := r2.length
    have := zipT_len (xs := l1) (ys := l2)
    rw [← e1, ← e2]
    exact this
  · obtain ⟨a, b, ha, hb, rfl⟩ := zipT_get hd
    obtain ⟨v, hv, rv⟩ := r1.get ha
    obtain ⟨w, hw, rw'⟩ := r2.get hb
    refine ⟨⟨xs, ys, v, w, q1, q2, hv, hw⟩, fun y H' ⟨T, v', w', e, hn, hH, g1, g2⟩ => ?_⟩
    have e1 := g1 xs q1
    have e2 := g2 ys q2
    rw [hv] at e1
    rw [hw] at e2
    cases e1
    cases e2
    subst e hH
    obtain ⟨L2, e2⟩ := L.newG (o := .tup [v, w]) hn fun _ z => by cases z
    exact ⟨_, e2, L2, .tup upd_same (.cons (rv.ext e2) (.cons (rw'.ext e2) .nil))⟩
end
section
variable {p : Pt} {X : Cx} {cx : CX} {g : GX} {k : Nat} {e e1 e2 e3 tg : Expr} {pos pos2 tpos : Pos}
theorem ai_range1 (h : Ctx g X p k) {i : Nat} {a : IE} (hg : g.gt[i]? = some (("range" : Str), GK.bi)) (hx : glB g.sc "range" = true) (ha : ADs X p cx [e] [a]) (hst : noStar e = true := by rfl) : AI X p cx tg (.Call (.Name "range" pos2) [e] [] pos) (.range [a]) := fun n =>
  pi_imp (pi_range1 (h.gl hx) (h.mg _ (List.mem_of_getElem? hg)) (ha n) (star_cons hst)) fun σ H R q => by
    obtain ⟨B, G, env, tmp, L, q⟩ := q
    refine ⟨B, G, env, tmp, L, ?_⟩
    have q := Got.bind (show Got ((evDs (evN cx n) [a] env).bind _) _ _ from q)
    refine q.impE (fun ds env' he q vs G' H' e1 L1 r1 => ?_) fun c env' q => q
    split at q
    · rename_i b
      split at q
      · rename_i hb
        cases r1 with
        | cons r rr =>
          cases rr
          cases r
          simp only [intB, Bool.and_eq_true, decide_eq_true_eq] at hb
          exact ⟨b, rfl, by omega, by omega, q _ B G' H' e1 LkOk.nil L1 (itOk_rng (by have := range_up (a := 0) (b := b) (n := b.toNat) (by omega); exact this))⟩
      · exact q.elim
    · have := ds_len he
      simp at this
    · have := ds_len he
      simp at this
    · exact q.elim
theorem ai_range2 (h : Ctx g X p k) {i : Nat} {a b : IE} (hg : g.gt[i]? = some (("range" : Str), GK.bi)) (hx : glB g.sc "range" = true) (ha : ADs X p cx [e, e2] [a, b]) (hst : noStar e = true := by rfl) (hst2 : noStar e2 = true := by rfl) : AI X p cx tg (.Call (.Name "range" pos2) [e, e2] [] pos) (.range [a, b]) := fun n =>
  pi_imp (pi_range2 (h.gl hx) (h.mg _ (List.mem_of_getElem? hg)) (ha n) ((star_cons hst).trans (by rw [star_cons hst2]; rfl)) (star_cons hst2)) fun σ H R q => by
    obtain ⟨B, G, env, tmp, L, q⟩ := q
    refine ⟨B, G, env, tmp, L, ?_⟩
    have q := Got.bind (show Got ((evDs (evN cx n) [a, b] env).bind _) _ _ from q)
    refine q.impE (fun ds env' he q vs G' H' e1 L1 r1 => ?_) fun c env' q => q
    split at q
    · have := ds_len he
      simp at this
    · rename_i b c
      split at q
      · rename_i hb
        cases r1 with
        | cons r rr =>
          cases rr with
          | cons r' rr =>
            cases rr
            cases r
            cases r'
            simp only [intB, Bool.and_eq_true, decide_eq_true_eq] at hb
            exact ⟨b, c, rfl, by omega, q _ B G' H' e1 LkOk.nil L1 (itOk_rng (range_up rfl))⟩
      · exact q.elim
    · have := ds_len he
      simp at this
    · exact q.elim
theorem ai_range3 (h : Ctx g X p k) {i : Nat} {a b c : IE} (hg : g.gt[i]? = some (("range" : Str), GK.bi)) (hx : glB g.sc "range" = true) (ha : ADs X p cx [e, e2, e3] [a, b, c]) (hst : noStar e = true := by rfl) (hss : [e2, e3].all noStar = true := by rfl) : AI X p cx tg (.Call (.Name "range" pos2) [e, e2, e3] [] pos) (.range [a, b, c]) := fun n =>
  pi_imp (pi_range3 (h.gl hx) (h.mg _ (List.mem_of_getElem? hg)) (ha n) (star_cons hst) (star_none hss)) fun σ H R q => by
    obtain ⟨B, G, env, tmp, L, q⟩ := q
    refine ⟨B, G, env, tmp, L, ?_⟩
    have q := Got.bind (show Got ((evDs (evN cx n) [a, b, c] env).bind _) _ _ from q)
    refine q.impE (fun ds env' he q vs G' H' e1 L1 r1 => ?_) fun c env' q => q
    split at q
    · have := ds_len he
      simp at this
    · have := ds_len he
      simp at this
    · rename_i a b c
      split at q
      · rename_i hb
        cases r1 with
        | cons r rr =>
          cases rr with
          | cons r' rr =>
            cases rr with
            | cons r2 rr =>
              cases rr
              cases r
              cases r'
              cases r2
              simp only [intB, Bool.and_eq_true, decide_eq_true_eq] at hb
              obtain ⟨hb, rfl⟩ := hb
              exact ⟨a, b, -1, _, rfl, .neg (by omega) (by omega) (by omega) (by omega), q _ B G' H' e1 LkOk.nil L1 (itOk_rgc (range_dn rfl))⟩
      · exact q.elim
    · exact q.elim
theorem ai_zip (h : Ctx g X p k) {i : Nat} {a b : Opd} {elts : List Expr} {kk : Nat} (hg : g.gt[i]? = some (("zip" : Str), GK.bi)) (hx : glB g.sc "zip" = true) (ha : AO X p cx e a) (hb : AO X p cx e2 b) (hst : noStar e = true := by rfl) (hst2 : noStar e2 = true := by rfl) :
    AI X p cx (.Tuple elts kk tpos) (.Call (.Name "zip" pos2) [e, e2] [] pos) (.zip a b) := fun n =>
  pi_imp (pi_zipG (h.gl hx) (h.mg _ (List.mem_of_getElem? hg)) (ap1_cons ha (ap1_cons hb ap1_nil hst2) hst n) (star_cons hst) (star_none (by simp [hst2]))) fun σ H R q => by
    obtain ⟨B, G, env, tmp, L, q⟩ := q
    refine ⟨B, G, env, tmp, L, ?_⟩
    have q := Got.bind (show Got ((evOs (evN cx n) [a, b] env).bind _) _ _ from q)
    have q := Got.bind (show Got ((evO1 (evN cx n) [a, b] env).bind _) _ _ from q)
    refine q.impE (fun l env' he q vs G' H' e1 L1 r1 => ?_) fun c env' q => q
    cases t : fillO env' l with
    | none => rw [t] at q; exact q.elim
    | some ds =>
      rw [t] at q
      have hp : srcP (.zip a b) = plcs l := by rw [evO_plc he]; simp [srcP]
      obtain ⟨B', lk, L2, rr⟩ := lock_all L1 r1 t
      have q : Got (match ds with | [x, y] => (match itemsOf x, itemsOf y with | some l, some l' => some (.ok (zipT l l') env') | _, _ => none) | _ => none) _ _ := q
      cases rr with
      | nil => exact q.elim
      | @cons d0 v0 _ _ rr rr' =>
        cases rr' with
        | nil => exact q.elim
        | @cons d1 v1 _ _ rr2 rr' =>
          cases rr' with
          | cons _ _ => exact q.elim
          | nil =>
            simp only at q
            cases hi : itemsOf d0 with
            | none => rw [hi] at q; exact q.elim
            | some l0 =>
              cases hi1 : itemsOf d1 with
              | none => rw [hi, hi1] at q; exact q.elim
              | some l1 =>
                rw [hi, hi1] at q
                obtain ⟨c1, rfl, s1⟩ := srcOk_any (K := X.K) hi rr (ExtN.refl _) L2
                obtain ⟨c2, rfl, s2⟩ := srcOk_any (K := X.K) hi1 rr2 (ExtN.refl _) L2
                obtain ⟨xs, i1, _⟩ := s1 _ _ _ _ _ (ExtN.refl _) L2
                obtain ⟨ys, i2, _⟩ := s2 _ _ _ _ _ (ExtN.refl _) L2
                exact ⟨c1, c2, xs, ys, rfl, i1, i2, q _ B' G' H' e1 (by rw [hp]; exact lk) (by rw [hp]; exact L2) (itOk_zip s1 s2)⟩
theorem ai_enum (h : Ctx g X p k) {i : Nat} {a : Opd} {elts : List Expr} {kk : Nat} (hg : g.gt[i]? = some (("enumerate" : Str), GK.bi)) (hx : glB g.sc "enumerate" = true) (ha : AO X p cx e a) (hst : noStar e = true := by rfl) :
    AI X p cx (.Tuple elts kk tpos) (.Call (.Name "enumerate" pos2) [e] [] pos) (.enum a) := fun n =>
  pi_imp (pi_enum (h.gl hx) (h.mg _ (List.mem_of_getElem? hg)) (ap1_cons ha ap1_nil hst n) (star_cons hst)) fun σ H R q => by
    obtain ⟨B, G, env, tmp, L, q⟩ := q
    refine ⟨B, G, env, tmp, L, ?_⟩
    have q := Got.bind (show Got ((evOs (evN cx n) [a] env).bind _) _ _ from q)
    have q := Got.bind (show Got ((evO1 (evN cx n) [a] env).bind _) _ _ from q)
    refine q.impE (fun l env' he q vs G' H' e1 L1 r1 => ?_) fun c env' q => q
    cases t : fillO env' l with
    | none => rw [t] at q; exact q.elim
    | some ds =>
      rw [t] at q
      have hp : srcP (.enum a) = plcs l := by rw [evO_plc he]; exact (List.append_nil _).symm
      obtain ⟨B', lk, L2, rr⟩ := lock_all L1 r1 t
      have q : Got (match ds with | [.lst l] => some (.ok (enumL 0 l) env') | _ => none) _ _ := q
      cases rr with
      | nil => exact q.elim
      | cons rr rr' =>
        cases rr' with
        | cons _ _ => exact (by split at q <;> first | exact q.elim | (rename_i z; cases z))
        | nil =>
          split at q
          · rename_i l z
            cases z
            obtain ⟨a', vs, rfl, h1, h2⟩ := (rr _ _ _ _ _ (ExtN.refl _) L2).lst L2.sub
            exact ⟨a', vs, rfl, .of h1, q _ B' G' H' e1 (by rw [hp]; exact lk) (by rw [hp]; exact L2) (itOk_enum rr)⟩
          · exact q.elim
end
end EV

set_option maxRecDepth 100000
set_option maxHeartbeats 1000000
/-! Targets; for. -/
namespace EV
open PySem PySem.Spec PyProof.Rows L2 LamX
/-- but for these slots -/
def SameB (vs : List Nat) (σ σ' : L2.St) : Prop := σ'.length = σ.length ∧ ∀ i, i ∉ vs → σ'[i]? = σ[i]?
theorem SameB.refl {vs : List Nat} {σ : L2.St} : SameB vs σ σ := ⟨rfl, fun _ _ => rfl⟩
theorem SameB.app {vs us : List Nat} {σ σ1 σ2 : L2.St} (h1 : SameB vs σ σ1) (h2 : SameB us σ1 σ2) : SameB (vs ++ us) σ σ2 :=
  ⟨h2.1.trans h1.1, fun i hi => (h2.2 i fun z => hi (List.mem_append_right _ z)).trans (h1.2 i fun z => hi (List.mem_append_left _ z))⟩
/-- d is set at the target -/
def tG (p : Pt) (us : List Nat) (f : D → Env → Option Env) : TG := fun v σ H Q => ∃ B G env tmp d env', Link p.W B p.C p.n p.σp G σ H env tmp ∧ Rep p.W G d v ∧ f d env = some env' ∧ ∀ σ', SameB us σ σ' → Link p.W B p.C p.n p.σp G σ' H env' tmp → Q σ' H
def tGs (p : Pt) (us : List Nat) (f : List D → Env → Option Env) : TGs := fun vs σ H Q => ∃ B G env tmp ds env', Link p.W B p.C p.n p.σp G σ H env tmp ∧ Reps p.W G ds vs ∧ f ds env = some env' ∧ ∀ σ', SameB us σ σ' → Link p.W B p.C p.n p.σp G σ' H env' tmp → Q σ' H
def AG (X : Cx) (p : Pt) (tg : Expr) (g : IG) : Prop := PG X tg (tG p (ownG g) (setG g))
def AGs (X : Cx) (p : Pt) (tg : List Expr) (g : List IG) : Prop := PGs X tg (tGs p (ownG.ownGs g) (setGs g))
theorem pg_imp {X : Cx} {tg : Expr} {t t' : TG} (h : PG X tg t) (i : ∀ v σ H Q, t' v σ H Q → t v σ H Q) : PG X tg t' := ⟨fun pins s σ H v u Q I r q => h.run pins s σ H v u Q I r (i v σ H Q q)⟩
theorem pgs_imp {X : Cx} {tg : List Expr} {t t' : TGs} (h : PGs X tg t) (i : ∀ v σ H Q, t' v σ H Q → t v σ H Q) : PGs X tg t' := ⟨fun pins s σ H v u Q I r q => h.run pins s σ H v u Q I r (i v σ H Q q)⟩
section
variable {g : GX} {X : Cx} {p : Pt} {k : Nat} {cx : CX} {pos pos2 : Pos} {tg : Expr} {tgs : List Expr}
theorem ag_nm (h : Ctx g X p k) {i : Nat} {y : Str} (hN : g.N[i]? = some y) (hv : StB X g y) : AG X p (.Name y pos) (.nm i) := by
  have hi : i < p.n := by rw [h.n]; exact (List.getElem?_eq_some_iff.mp hN).1
  refine pg_imp (pg_name (by rw [h.N]; exact h.nd) (by rw [h.N]; exact hN) (hv.loc h) (hv.fn h)) fun v σ H Q q => ?_
  obtain ⟨B, G, env, tmp, d, env', L, r, e, q⟩ := q
  have e : setSlot i (.d d) env = some env' := by simpa [setG] using e
  obtain ⟨rfl, o, ho, hp⟩ := setSlot_inv e
  exact q _ ⟨List.length_set, fun j hj => List.getElem?_set_ne fun z => hj (by simp [ownG, z])⟩ ((L.push r).store ho hp hi fun A hr => hr)
theorem ags_nil : AGs X p [] [] := pgs_imp pgs_nil fun v σ H Q q => by
  obtain ⟨B, G, env, tmp, d, env', L, r, e, q⟩ := q
  cases r with
  | nil => simp [setGs] at e; subst e; exact ⟨rfl, q _ .refl L⟩
  | cons _ _ => simp [setGs] at e
theorem asg_cons {e : Expr} {es : List Expr} {env : PySem.Env} (h : noStar e = true) : assignEach (e :: es) env = (false, assign e env) :: assignEach es env := by
  cases e <;> first | rfl | (simp [noStar] at h; done)
theorem ags_cons {g1 : IG} {gs : List IG} (h1 : AG X p tg g1) (h2 : AGs X p tgs gs) (hst : noStar tg = true := by rfl) : AGs X p (tg :: tgs) (g1 :: gs) := by
  refine pgs_imp (pgs_cons h1 h2 (by rw [asg_cons hst]; rfl)) fun v σ H Q q => ?_
  obtain ⟨B, G, env, tmp, d, env', L, r, e, q⟩ := q
  cases r with
  | nil => simp [setGs] at e
  | cons r rr =>
    simp only [setGs] at e
    split at e
    · rename_i env1 e1
      exact ⟨_, _, rfl, B, G, env, tmp, _, env1, L, r, e1, fun σ1 s1 L1 => ⟨B, G, env1, tmp, _, env', L1, rr, e, fun σ2 s2 L2 => q σ2 (s1.app s2) L2⟩⟩
    · cases e
theorem setGs_len : ∀ {gs : List IG} {ds : List D} {env env' : Env}, setGs gs ds env = some env' → ds.length = gs.length
  | [], [], _, _, _ => rfl
  | [], _ :: _, _, _, h => by simp [setGs] at h
  | _ :: _, [], _, _, h => by simp [setGs] at h
  | g :: gs, d :: ds, env, env', h => by
    simp only [setGs] at h
    split at h
    · simp [setGs_len h]
    · cases h
theorem ag_tup (h : Ctx g X p k) {gs : List IG} {kk : Nat} (h2 : AGs X p tgs gs) (hn : (assignEach tgs X.env).length = gs.length := by rfl) (hst : (assignEach tgs X.env).findIdx? (·.1) = none := by rfl) : AG X p (.Tuple tgs kk pos) (.tup gs) := by
  refine pg_imp (pg_tup h.calm h2 hn hst) fun v σ H Q q => ?_
  obtain ⟨B, G, env, tmp, d, env', L, r, e, q⟩ := q
  cases d with
  | tup ds =>
    have e : setGs gs ds env = some env' := by simpa [setG] using e
    cases r with
    | tup h1 rr =>
      refine ⟨_, _, rfl, .inl (.inl (L.sub _ _ h1 fun _ z => by cases z)), ?_, B, G, env, tmp, ds, env', L, rr, e, q⟩
      rw [← rr.length, setGs_len e]
  | _ => simp [setG] at e
/-! ### for -/
theorem got_unlk {α : Type} {ps : List Plc} {e0 : Env} {x : R α} {k : α → Env → Prop} {ke : Nat → Env → Prop} (h : Got (unlockR ps e0 x) k ke) : Got x (fun a e => k a (unlockE ps e0 e)) fun c e => ke c (unlockE ps e0 e) := by
  cases x with
  | none => exact h
  | some o => cases o <;> exact h
def forW (p : Pt) (D : Ends) (B B' : Bs) (G0 : Hp) (tmp : List (V × S)) (U : Env → Env) (g : IG) (body : Env → R Fl) (ds : List EV.D) (i m : Nat) (σ : L2.St) (H : Hp) : Prop :=
  (m = ds.length - i ∧ i ≤ ds.length) ∧ ∃ G env, ExtN G0 G ∧ Link p.W B' p.C p.n p.σp G σ H env tmp ∧ Got (forL g body (ds.drop i) env) (fun fl e => AftS p D B G tmp fl (U e)) fun c e => AftX p B G tmp c (U e)
theorem as1_for (hp : PassesOwn (model X.prog X.w) X.A X.env X.xe) (h : Ctx g X p k) {it : Expr} {src : IT} {ig : IG} {sts : List Stmt} {xs : List IS} (hi : AI X p cx tg it src) (hg : AG X p tg ig) (hb : AS X p cx sts xs)
    (hs : ∀ x, foldedSetIterable it X.env x = pure x := by intro _; rfl) : AS1 X p cx (.For tg it sts [] pos) (.for_ src ig xs) := fun n => ps_imp (ps_for hp h.calm (hi n) hg (hb n) hs) fun D σ H q => by
  obtain ⟨B, G, env, tmp, L, q⟩ := q
  refine ⟨B, G, env, tmp, L, (Got.bind (show Got ((evT (evN cx n) src env).bind _) _ _ from q)).imp (fun ds env' q J B' G1 H1 x1 lk L1 ok => ?_) fun c env' q => q.ex⟩
  have q := got_unlk q
  refine ⟨forW p D B B' G1 tmp (unlockE (srcP src) env') ig ((evN cx n).s xs) ds, ⟨_, ⟨rfl, Nat.zero_le _⟩, G1, _, ExtN.refl _, L1, q.imp (fun fl e q => q.mono x1) fun c e q => q.mono x1⟩, fun i m σ2 H2 w => ?_⟩
  obtain ⟨⟨hm, hle⟩, G2, env2, x2, L2, q2⟩ := w
  obtain ⟨hstop, hgo⟩ := ok G2 σ2 H2 env2 tmp x2 L2
  by_cases hlt : i < ds.length
  · have hd : ds[i]? = some ds[i] := List.getElem?_eq_getElem hlt
    rw [List.drop_eq_getElem_cons hlt] at q2
    obtain ⟨go, yl⟩ := hgo i _ hd
    refine .inr ⟨go, forW p D B B' G1 tmp (unlockE (srcP src) env') ig ((evN cx n).s xs) ds (i + 1) (ds.length - (i + 1)), fun σ' H' w => ⟨_, by omega, w⟩, fun x H3 hy => ?_⟩
    obtain ⟨G3, x3, L3, r3⟩ := yl x H3 hy
    simp only [forL] at q2
    split at q2
    · rename_i env3 e3
      refine ⟨B', G3, env2, tmp, _, env3, L3, r3, e3, fun σ3 _ L4 => ⟨B', G3, env3, tmp, L4, ?_⟩⟩
      cases t : (evN cx n).s xs env3 with
      | none => rw [t] at q2; exact q2.elim
      | some o =>
        rw [t] at q2
        cases o with
        | exn c e => exact fun G4 σ4 H4 x4 L5 => (show AftX p B G2 tmp c (unlockE (srcP src) env' e) from q2) G4 σ4 H4 (x3.trans x4) (lk G4 σ4 H4 e tmp L5)
        | ok fl e =>
          cases fl with
          | nx => exact fun G4 σ4 H4 x4 L5 => ⟨⟨rfl, hlt⟩, G4, e, (x2.trans x3).trans x4, L5, (show Got (forL ig ((evN cx n).s xs) (ds.drop (i + 1)) e) _ _ from q2).imp (fun fl e q => AftS.mono (x3.trans x4) q) fun c e q => AftX.mono (x3.trans x4) q⟩
          | bk => exact fun G4 σ4 H4 x4 L5 => (show AftS p D B G2 tmp .nx (unlockE (srcP src) env' e) from q2) G4 σ4 H4 (x3.trans x4) (lk G4 σ4 H4 e tmp L5)
          | rt s => exact fun v G4 σ4 H4 x4 L5 => (show AftS p D B G2 tmp (.rt s) (unlockE (srcP src) env' e) from q2) v G4 σ4 H4 (x3.trans x4) (lk G4 σ4 H4 e _ L5)
    · exact q2.elim
  · have hd : ds.drop i = [] := List.drop_eq_nil_of_le (by omega)
    rw [hd] at q2
    refine .inl ⟨?_, (show AftS p D B G2 tmp .nx (unlockE (srcP src) env' env2) from q2) G2 σ2 H2 (ExtN.refl _) (lk G2 σ2 H2 env2 tmp L2)⟩
    have : ds.length = i := by omega
    rw [← this]
    exact hstop
end
end EV

set_option maxRecDepth 100000
set_option maxHeartbeats 1000000
/-! Comprehensions: the new list on top, the own slots wiped and put back. -/
namespace EV
open PySem PySem.Spec PyProof.Rows L2 LamX
section
variable {W : Wd} {B : Bs} {C : List V} {n : Nat} {σp : L2.St} {G : Hp} {σ : L2.St} {H : Hp} {env : Env} {tmp : List (V × S)}
/-- the list on top is written -/
theorem Link.topL {D : Addr} {b : Bool} {xs : List EV.D} (L : Link W B C n σp G σ H env ((.ref D, .l b xs) :: tmp)) :
    ∃ ws, H D = some (.lst ws) ∧ Reps W G xs ws ∧ ∀ xs' ws', Reps W G xs' ws' → Link W B C n σp G σ (upd H D (.lst ws')) env ((.ref D, .l b xs') :: tmp) := by
  obtain ⟨A, T, h1, h2, nd, gf, hb⟩ := L.reps
  have h2' := h2
  cases h2 with
  | @cons _ _ A0 T1 _ hs ht =>
    cases hs with
    | @l _ _ _ ws hD r =>
      refine ⟨ws, hD, r, fun xs' ws' r' => ?_⟩
      have hDm : D ∈ A ++ ([D] ++ T1) := by simp
      have gD := gf D hDm
      have neA : ∀ a ∈ A, a ≠ D := fun a ha e => by
        subst e
        rw [List.nodup_append] at nd
        exact nd.2.2 a ha a (by simp) rfl
      have neT : ∀ a ∈ T1, a ≠ D := fun a ha e => by
        subst e
        rw [List.nodup_append] at nd
        have := nd.2.1
        simp at this
        exact this.1 ha
      refine L.tr h1 h2' hb (h1.keep (ExtN.refl G) fun a ha => upd_ne (neA a ha)) (.cons (.l upd_same r') (ht.keep (ExtN.refl G) fun a ha => upd_ne (neT a ha))) nd gf (fun a ha => .inl ha) (fun b o e nt => ?_) ?_ (fun b o e nb => ?_) (fun b o e => .inl e) (ExtN.refl G) L.gnt L.len L.pins
      · have hn : b ≠ D := fun z => by rw [z, gD] at e; cases e
        rw [upd_ne hn]; exact L.sub b o e nt
      · refine tabs_turn L.tabs (fun b ps e => ?_) fun b c q e => ?_
        · have hn : b ≠ D := fun z => by rw [z, hD] at e; cases e
          rw [upd_ne hn]; exact e
        · have hn : b ≠ D := fun z => by rw [z, hD] at e; cases e
          rw [upd_ne hn]; exact e
      · have hn : b ≠ D := fun z => nb (by rw [z]; exact hDm)
        rw [upd_ne hn]; exact .inl e
/-- a slot that nothing is lost by -/
def FreeAt (env : Env) (i : Nat) : Prop := ∃ o : Option S, env[i]? = some o ∧ (o = none ∨ ∃ x, o = some (.d x))
theorem freeE_at {vs : List Nat} {env : Env} (h : freeE vs env = true) : ∀ i ∈ vs, FreeAt env i := fun i hi => by
  have := List.all_eq_true.mp h i hi
  split at this
  · rename_i d e; exact ⟨_, e, .inr ⟨_, rfl⟩⟩
  · rename_i e; exact ⟨_, e, .inl rfl⟩
  · cases this
theorem FreeAt.np {env : Env} {i : Nat} (h : FreeAt env i) : ∃ o, env[i]? = some o ∧ ∀ t, o = some t → pinned t = false := by
  obtain ⟨o, e, z | ⟨x, z⟩⟩ := h
  · exact ⟨o, e, fun t q => by rw [z] at q; cases q⟩
  · exact ⟨o, e, fun t q => by rw [z] at q; cases q; rfl⟩
theorem FreeAt.set {env : Env} {i j : Nat} {o : Option S} (h : FreeAt env i) (ho : o = none ∨ ∃ x, o = some (.d x)) : FreeAt (env.set j o) i := by
  obtain ⟨o', e, z⟩ := h
  by_cases hij : j = i
  · subst hij
    exact ⟨o, List.getElem?_set_self (List.getElem?_eq_some_iff.mp e).1, ho⟩
  · exact ⟨o', by rw [List.getElem?_set_ne hij]; exact e, z⟩
theorem wipe_get {σ : L2.St} {i : Nat} : ∀ {vs : List Nat}, (wipe σ vs)[i]? = if i ∈ vs then (σ[i]?).map fun _ => none else σ[i]?
  | [] => by simp [wipe]
  | v :: vs => by
    unfold wipe
    by_cases h : v = i
    · subst h
      rw [if_pos (by simp)]
      rw [List.getElem?_set_self']
      rw [wipe_get (vs := vs)]
      split <;> cases σ[v]? <;> rfl
    · rw [List.getElem?_set_ne h, wipe_get (vs := vs)]
      simp [List.mem_cons, Ne.symm h]
theorem sameB_wipe {vs : List Nat} {σ σ' : L2.St} (h : SameB vs σ σ') : wipe σ' vs = wipe σ vs := by
  apply List.ext_getElem?
  intro i
  rw [wipe_get, wipe_get]
  split
  · have e := h.1
    cases q : σ[i]? with
    | none => rw [List.getElem?_eq_none (by rw [e]; exact List.getElem?_eq_none_iff.mp q)]
    | some o =>
      have hlt := (List.getElem?_eq_some_iff.mp q).1
      rw [List.getElem?_eq_getElem (by rw [e]; exact hlt)]; rfl
  · exact h.2 i (by assumption)
def fw (σ : L2.St) (vs : List Nat) : L2.St := vs.foldl (fun s i => s.set i none) σ
theorem fw_get {i : Nat} : ∀ {vs : List Nat} {σ : L2.St}, (fw σ vs)[i]? = if i ∈ vs then (σ[i]?).map fun _ => none else σ[i]?
  | [], σ => by simp [fw]
  | v :: vs, σ => by
    show (fw (σ.set v none) vs)[i]? = _
    rw [fw_get]
    by_cases h : v = i
    · subst h
      rw [List.getElem?_set_self']
      simp only [List.mem_cons, true_or, if_true]
      split <;> cases σ[v]? <;> rfl
    · rw [List.getElem?_set_ne h]
      simp [List.mem_cons, Ne.symm h]
theorem fw_wipe {vs : List Nat} {σ : L2.St} : fw σ vs = wipe σ vs := by
  apply List.ext_getElem?
  intro i
  rw [wipe_get, fw_get]
theorem Link.fwL : ∀ {vs : List Nat} {σ : L2.St} {env : Env}, Link W B C n σp G σ H env tmp → (∀ i ∈ vs, i < n ∧ FreeAt env i) → Link W B C n σp G (fw σ vs) H (wipeE vs env) tmp
  | [], _, _, L, _ => L
  | v :: vs, σ, env, L, h => by
    obtain ⟨o, e, np⟩ := (h v (by simp)).2.np
    exact Link.fwL (vs := vs) (σ := σ.set v none) (env := env.set v none) (L.gone e np (h v (by simp)).1 none) fun i hi => ⟨(h i (by simp [hi])).1, (h i (by simp [hi])).2.set (.inl rfl)⟩
theorem Link.wipeL {vs : List Nat} (L : Link W B C n σp G σ H env tmp) (h : ∀ i ∈ vs, i < n ∧ FreeAt env i) : Link W B C n σp G (wipe σ vs) H (wipeE vs env) tmp := fw_wipe ▸ L.fwL h
theorem free_wipe {i : Nat} : ∀ {vs : List Nat} {env : Env}, FreeAt env i → FreeAt (wipeE vs env) i
  | [], _, h => h
  | v :: vs, env, h => free_wipe (vs := vs) (env := env.set v none) (h.set (.inl rfl))
/-- put back -/
def fr (σ0 : L2.St) (σ : L2.St) (vs : List Nat) : L2.St := vs.foldl (fun s i => s.set i (σ0.getD i none)) σ
theorem fr_get {σ0 : L2.St} {i : Nat} : ∀ {vs : List Nat} {σ : L2.St}, (fr σ0 σ vs)[i]? = if i ∈ vs then (σ[i]?).map fun _ => σ0.getD i none else σ[i]?
  | [], σ => by simp [fr]
  | v :: vs, σ => by
    show (fr σ0 (σ.set v (σ0.getD v none)) vs)[i]? = _
    rw [fr_get]
    by_cases h : v = i
    · subst h
      rw [List.getElem?_set_self']
      simp only [List.mem_cons, true_or, if_true]
      split <;> cases σ[v]? <;> rfl
    · rw [List.getElem?_set_ne h]
      simp [List.mem_cons, Ne.symm h]
theorem fr_wipe {vs : List Nat} {σ : L2.St} : fr σ (wipe σ vs) vs = σ := by
  apply List.ext_getElem?
  intro i
  rw [fr_get, wipe_get]
  split
  · cases q : σ[i]? with
    | none => rfl
    | some o => simp [List.getD_eq_getElem?_getD, q]
  · rfl
theorem Link.frL {σ0 : L2.St} {e0 : Env} : ∀ {vs : List Nat} {σ : L2.St} {env : Env}, Link W B C n σp G σ H env tmp → (∀ i ∈ vs, i < n ∧ FreeAt env i ∧ (e0[i]? = some none ∨ ∃ x v, e0[i]? = some (some (.d x)) ∧ σ0[i]? = some (some v) ∧ Rep W G x v)) → Link W B C n σp G (fr σ0 σ vs) H (restE vs e0 env) tmp
  | [], _, _, L, _ => L
  | v :: vs, σ, env, L, h => by
    obtain ⟨hn, hf, hc⟩ := h v (by simp)
    obtain ⟨o, e, np⟩ := hf.np
    rcases hc with hc | ⟨x, w, hc, hw, hr⟩
    · refine Link.frL (vs := vs) (σ := σ.set v (σ0.getD v none)) (env := env.set v (e0.getD v none)) ?_ fun i hi => ⟨(h i (by simp [hi])).1, (h i (by simp [hi])).2.1.set ?_, (h i (by simp [hi])).2.2⟩
      · rw [show e0.getD v none = none by rw [List.getD_eq_getElem?_getD, hc]; rfl]
        exact L.gone e np hn _
      · rw [show e0.getD v none = none by rw [List.getD_eq_getElem?_getD, hc]; rfl]
        exact .inl rfl
    · have q1 : e0.getD v none = some (.d x) := by rw [List.getD_eq_getElem?_getD, hc]; rfl
      have q2 : σ0.getD v none = some w := by rw [List.getD_eq_getElem?_getD, hw]; rfl
      refine Link.frL (vs := vs) (σ := σ.set v (σ0.getD v none)) (env := env.set v (e0.getD v none)) ?_ fun i hi => ⟨(h i (by simp [hi])).1, (h i (by simp [hi])).2.1.set ?_, (h i (by simp [hi])).2.2⟩
      · rw [q1, q2]
        exact (L.push hr).store e np hn fun A hr => hr
      · rw [q1]
        exact .inr ⟨x, rfl⟩
/-- what the slots held is put back -/
theorem Link.restL {G1 G2 : Hp} {H2 : Hp} {e0 e2 : Env} {tmp2 : List (V × S)} {B2 : Bs} {vs : List Nat} (L : Link W B C n σp G1 σ H e0 tmp) (x : ExtN G1 G2) (L2 : Link W B2 C n σp G2 (wipe σ vs) H2 e2 tmp2) (hn : ∀ i ∈ vs, i < n) (h0 : ∀ i ∈ vs, FreeAt e0 i) (h2 : ∀ i ∈ vs, FreeAt e2 i) :
    Link W B2 C n σp G2 σ H2 (restE vs e0 e2) tmp2 := by
  have z := L2.frL (σ0 := σ) (e0 := e0) (vs := vs) fun i hi => ⟨hn i hi, h2 i hi, ?_⟩
  · rw [fr_wipe] at z; exact z
  · obtain ⟨o, e, z | ⟨d, z⟩⟩ := h0 i hi
    · rw [z] at e; exact .inl e
    · rw [z] at e
      obtain ⟨v, A0, q1, q2⟩ := L.getU e (hn i hi)
      cases q2 with
      | d q2 => exact .inr ⟨d, v, e, q1, q2.ext x⟩
end
end EV

set_option maxRecDepth 100000
set_option maxHeartbeats 1000000
/-! List comprehensions. -/
namespace EV
open PySem PySem.Spec PyProof.Rows L2 LamX
theorem Got.okV {α : Type} {a : α} {e : Env} {k : α → Env → Prop} {ke : Nat → Env → Prop} (h : Got (some (.ok a e)) k ke) : k a e := h
/-- inside a comprehension: no exception is let out -/
def Pt.shut (p : Pt) : Pt := { p with Wx := fun _ _ _ _ => False }
section
variable {g : GX} {X : Cx} {p : Pt} {k : Nat} {cx : CX} {e elt tg it : Expr} {ifs : List Expr} {pos pos2 : Pos} {scope : Scope}
/-- the inner context -/
theorem Ctx.blk (h : Ctx g X p k) (s : Shared) (H : Hp) (C : Addr) (cl : List (Str × Addr)) (fp : List Addr) : Ctx (g.blk scope) (X.blk s H scope (compEnvC scope cl C X.env) fp) p.shut k where
  prog := h.prog
  w := h.w
  K := h.K
  N := h.N
  n := h.n
  nd := h.nd
  sc := by show relS scope X.env.scope = relS scope g.sc; rw [h.sc]
  calm := h.calm
  mg := h.mg
  room := h.room
  takes := fun u s' ⟨a, B, sI, pins, σ, H, cls, d, e, I, nb, up, sky, na, os, ag, w⟩ => w.elim
  wok := h.wok
/-- the tests -/
def AIf (X : Cx) (p : Pt) (cx : CX) (ifs : List Expr) (c : Option IE) : Prop := ∀ n, PTs X ifs (tBl p (cndOf (evN cx n) c))
theorem pts_imp {X : Cx} {ifs : List Expr} {t t' : TT} (h : PTs X ifs t) (i : ∀ σ H Q, t' σ H Q → t σ H Q) : PTs X ifs t' := ⟨fun pins s σ H Q I q => h.run pins s σ H Q I (i σ H Q q)⟩
theorem aif_no : AIf X p cx [] none := fun n => pts_imp pts_nil fun σ H Q q => by
  obtain ⟨B, G, env, tmp, L, q⟩ := q
  exact q G H (ExtN.refl G) L
theorem aif_one {c : IE} (h : AB X p cx e c) : AIf X p cx [e] (some c) := fun n => pts_one (h n)
/-- in the inner contexts -/
def InB (X : Cx) (scope : Scope) (f : Cx → Prop) : Prop := ∀ (s : Shared) (H : Hp) (C : Addr) (cl : List (Str × Addr)) (fp : List Addr), f (X.blk s H scope (compEnvC scope cl C X.env) fp)
end
section
variable {g : GX} {X : Cx} {p : Pt} {k : Nat} {cx : CX} {e elt tg it : Expr} {ifs : List Expr} {pos pos2 : Pos} {scope : Scope} {r : EvR}
def lcW (p : Pt) (B' : Bs) (G0 : Hp) (σ : L2.St) (tmp : List (V × S)) (us : List Nat) (ds : List EV.D) (D : Addr) (Q : VK) (f : List EV.D → Env → R (List EV.D)) (i m : Nat) (H : Hp) : Prop :=
  (m = ds.length - i ∧ i ≤ ds.length) ∧ ∃ G env acc, ExtN G0 G ∧ Link p.W B' p.C p.n p.σp G (wipe σ us) H env ((.ref D, .l false acc) :: tmp) ∧ (∀ j ∈ us, FreeAt env j) ∧ ∃ ys eF, f (ds.drop i) env = some (.ok ys eF) ∧ (acc ++ ys).length ≤ 1000000 ∧
    ∀ G' H', ExtN G G' → Link p.W B' p.C p.n p.σp G' (wipe σ us) H' eF ((.ref D, .l false (acc ++ ys)) :: tmp) → (∀ j ∈ us, FreeAt eF j) → Q (.ref D) H'
theorem wipe_idem {us : List Nat} {σ : L2.St} : wipe (wipe σ us) us = wipe σ us := by
  apply List.ext_getElem?
  intro i
  rw [wipe_get, wipe_get]
  split
  · cases σ[i]? <;> rfl
  · rfl
theorem lcL_ok {ig : IG} {cnd : Env → R Bool} {el : Env → R EV.D} : ∀ {ds : List EV.D} {env : Env} (c : Nat) (e : Env), lcL ig cnd el ds env ≠ some (.exn c e)
  | [], env, c, e => by simp [lcL]
  | d :: ds, env, c, e => by
    simp only [lcL]
    split
    · split
      · split
        · split
          · split <;> simp
          · simp
        · simp
      · split
        · exact lcL_ok c e
        · simp
      · simp
    · simp
/-- a turn of the comprehension -/
theorem lc_turn {B' : Bs} {G0 : Hp} {σ : L2.St} {H : Hp} {tmp : List (V × S)} {ds : List EV.D} {D : Addr} {Q : VK} {ig : IG} {cnd : Option IE} {el : IE} {J : It} {i m : Nat} (hlt : ∀ i ∈ ownG ig, i < p.n) (iok : ItOk p B' G0 J ds)
    (w : lcW p B' G0 σ tmp (ownG ig) ds D Q (lcL ig (cndOf r cnd) (evD r el)) i m H) :
    (J.stop i H ∧ Q (.ref D) H) ∨ (J.go i H ∧ ∃ Nx : Hp → Prop, (∀ H', Nx H' → ∃ m', m' < m ∧ lcW p B' G0 σ tmp (ownG ig) ds D Q (lcL ig (cndOf r cnd) (evD r el)) (i + 1) m' H') ∧ ∀ x H', J.yld i H x H' → tG p.shut (ownG ig) (setG ig) x (wipe σ (ownG ig)) H' fun σ2 H2 => wipe σ2 (ownG ig) = wipe σ (ownG ig) ∧ tBl p.shut (cndOf r cnd) σ2 H2 fun b H3 =>
      if b = true then tD p.shut (evD r el) σ2 H3 fun y H4 => ∃ acc, H4 D = some (.lst acc) ∧ acc.length < sizeLine ∧ Nx (upd H4 D (.lst (acc ++ [y]))) else Nx H3) := by
  obtain ⟨⟨hm, hle⟩, G2, env2, acc, x2, L2, fr2, ys, eF, hF, hlen, hQ⟩ := w
  obtain ⟨hstop, hgo⟩ := iok G2 _ H env2 _ x2 L2
  by_cases hi : i < ds.length
  · have hd : ds[i]? = some ds[i] := List.getElem?_eq_getElem hi
    rw [List.drop_eq_getElem_cons hi] at hF
    obtain ⟨go, yl⟩ := hgo i _ hd
    refine .inr ⟨go, lcW p B' G0 σ tmp (ownG ig) ds D Q (lcL ig (cndOf r cnd) (evD r el)) (i + 1) (ds.length - (i + 1)), fun H' w => ⟨_, by omega, w⟩, fun x H3 hy => ?_⟩
    obtain ⟨G3, x3, L3, r3⟩ := yl x H3 hy
    simp only [lcL] at hF
    cases e3 : setG ig ds[i] env2 with
    | none => rw [e3] at hF; cases hF
    | some env3 =>
      rw [e3] at hF
      simp only at hF
      refine ⟨B', G3, env2, _, _, env3, L3, r3, e3, fun σ3 sb L4 => ⟨(sameB_wipe sb).trans wipe_idem, B', G3, env3, _, L4, ?_⟩⟩
      have hw3 : wipe σ3 (ownG ig) = wipe σ (ownG ig) := (sameB_wipe sb).trans wipe_idem
      cases t : cndOf r cnd env3 with
      | none => rw [t] at hF; cases hF
      | some o =>
        rw [t] at hF
        cases o with
        | exn c e => cases hF
        | ok b e4 =>
          intro G4 H4 x4 L5
          cases b with
          | false =>
            rw [if_neg (by decide)]
            simp only at hF
            by_cases hfr : freeE (ownG ig) e4 = true
            · rw [if_pos hfr] at hF
              have L6 := L5.wipeL (vs := ownG ig) fun j hj => ⟨hlt j hj, freeE_at hfr j hj⟩
              have L6 : Link p.W B' p.C p.n p.σp G4 (wipe σ3 (ownG ig)) H4 _ _ := L6
              rw [hw3] at L6
              exact ⟨⟨rfl, hi⟩, G4, _, acc, (x2.trans x3).trans x4, L6, fun j hj => free_wipe (freeE_at hfr j hj), ys, eF, hF, hlen, fun G' H' x' L' f' => hQ G' H' ((x3.trans x4).trans x') L' f'⟩
            · rw [if_neg hfr] at hF; cases hF
          | true =>
            rw [if_pos rfl]
            simp only at hF
            refine ⟨B', G4, e4, _, L5, ?_⟩
            cases t5 : evD r el e4 with
            | none => rw [t5] at hF; cases hF
            | some o =>
              rw [t5] at hF
              cases o with
              | exn c e => cases hF
              | ok y e5 =>
                intro v G5 H5 x5 L6 r6
                simp only at hF
                by_cases hfr : freeE (ownG ig) e5 = true
                · rw [if_pos hfr] at hF
                  cases t7 : lcL ig (cndOf r cnd) (evD r el) (ds.drop (i + 1)) (wipeE (ownG ig) e5) with
                  | none => rw [t7] at hF; cases hF
                  | some o =>
                    rw [t7] at hF
                    cases o with
                    | exn c e => cases hF
                    | ok ys' e8 =>
                      simp only [Option.some.injEq, Out.ok.injEq] at hF
                      obtain ⟨rfl, rfl⟩ := hF
                      obtain ⟨ws, hD, rr, up⟩ := L6.topL
                      refine ⟨ws, hD, ?_, ⟨rfl, hi⟩, G5, _, acc ++ [y], ((x2.trans x3).trans x4).trans x5, ?_, fun j hj => free_wipe (freeE_at hfr j hj), ys', _, t7, by simpa using hlen, fun G' H' x' L' f' => ?_⟩
                      · rw [← rr.length]
                        have : acc.length ≤ 1000000 := by rw [List.length_append] at hlen; omega
                        exact Nat.lt_of_le_of_lt this (by decide)
                      · have L7 := (up (acc ++ [y]) (ws ++ [v]) (rr.append (.cons r6 .nil))).wipeL (vs := ownG ig) fun j hj => ⟨hlt j hj, freeE_at hfr j hj⟩
                        have L7 : Link p.W B' p.C p.n p.σp G5 (wipe σ3 (ownG ig)) _ _ _ := L7
                        rw [hw3] at L7
                        exact L7
                      · exact hQ G' H' (((x3.trans x4).trans x5).trans x') (by simpa using L') f'
                · rw [if_neg hfr] at hF; cases hF
  · have e : i = ds.length := by omega
    rw [List.drop_eq_nil_of_le (by omega)] at hF
    simp only [lcL, Option.some.injEq, Out.ok.injEq] at hF
    obtain ⟨rfl, rfl⟩ := hF
    refine .inl ⟨by rw [e]; exact hstop, hQ G2 H (ExtN.refl _) (by simpa using L2) fr2⟩
theorem ae_lc (h : Ctx g X p k) {src : IT} {ig : IG} {cnd : Option IE} {el : IE} {own : List (Str × Nat)} (hi : AI X p cx tg it src) (ok : blkC g.N g.sc scope own = true) (ho : own.map (·.2) = ownG ig)
    (hg : InB X scope fun X' => AG X' p.shut tg ig) (ht : InB X scope fun X' => AIf X' p.shut cx ifs cnd) (he : InB X scope fun X' => AE X' p.shut cx elt el) (hs : ∀ x, foldedSetIterable it X.env x = pure x := by intro _; rfl) :
    AE X p cx (.ListComp elt [⟨tg, it, ifs, 0⟩] scope pos) (.lc src ig cnd el) := by
  have hok : BlkOk X.N X.env.scope scope own := by rw [h.N, h.sc]; exact blkOk_by ok
  have hlt : ∀ i ∈ ownG ig, i < p.n := fun i hi => by
    rw [← ho] at hi
    obtain ⟨q, hq, rfl⟩ := List.mem_map.mp hi
    have := hok.ix q hq
    rw [h.n, ← h.N]
    exact (List.getElem?_eq_some_iff.mp this).1
  refine ae_step fun n => pe_imp (pe_lc h.calm (by rw [h.N]; exact h.nd) (hi n) hok hg (fun s H C cl fp => ht s H C cl fp n) (fun s H C cl fp => pe_D (he s H C cl fp n)) hs) fun σ H Q q => ?_
  rw [ho]
  obtain ⟨B, G, env, tmp, L, q⟩ := q
  refine ⟨B, G, env, tmp, L, (Got.bind (show Got ((evT (evN cx n) src env).bind _) _ _ from q)).imp (fun ds env' q J B' G1 H1 x1 lk L1 iok D hD => ?_) fun c env' q => q⟩
  have q := (show Got (if freeE (ownG ig) (lockE (srcP src) env') = true then _ else _) _ _ from q)
  by_cases hfr : freeE (ownG ig) (lockE (srcP src) env') = true
  · rw [if_pos hfr] at q
    have q := Got.bind q
    have q := Got.bind (show Got ((lcL ig (cndOf (evN cx n) cnd) (evD (evN cx n) el) ds (wipeE (ownG ig) (lockE (srcP src) env'))).bind _) _ _ from q)
    cases t : lcL ig (cndOf (evN cx n) cnd) (evD (evN cx n) el) ds (wipeE (ownG ig) (lockE (srcP src) env')) with
    | none => rw [t] at q; exact q.elim
    | some o =>
      rw [t] at q
      cases o with
      | exn c e => exact absurd t (lcL_ok _ _)
      | ok ys eF =>
        have q := Got.okV q
        by_cases hlen : ys.length ≤ 1000000
        · rw [if_pos hlen] at q
          refine ⟨lcW p B' G1 σ tmp (ownG ig) ds D Q (lcL ig (cndOf (evN cx n) cnd) (evD (evN cx n) el)), ⟨ds.length, ⟨rfl, Nat.zero_le _⟩, G1, _, [], ExtN.refl _, (L1.newS hD (.l upd_same .nil)).wipeL fun j hj => ⟨hlt j hj, freeE_at hfr j hj⟩, fun j hj => free_wipe (freeE_at hfr j hj), ys, eF, t, hlen, fun G' H' x' L' f' => ?_⟩, fun i m H w => lc_turn hlt iok w⟩
          exact q (.ref D) G' H' (x1.trans x') (lk G' σ H' _ _ (L1.restL x' L' hlt (fun j hj => freeE_at hfr j hj) f'))
        · rw [if_neg hlen] at q; exact q.elim
  · rw [if_neg hfr] at q; exact q.elim
end
end EV

set_option maxRecDepth 100000
set_option maxHeartbeats 1000000
/-! x = [.. for ..] on one line. -/
namespace EV
open PySem PySem.Spec PyProof.Rows L2 LamX
section
variable {g : GX} {X : Cx} {p : Pt} {k : Nat} {cx : CX} {e elt tg it : Expr} {ifs : List Expr} {pos pos2 pos3 : Pos} {scope : Scope} {r : EvR}
theorem im_set {i : Nat} {b : Bool} {x : IE} {D : Ends} {σ : L2.St} {H : Hp} (hi : i < p.n) (q : tS p (stepS1 cx r (.asg i b x)) D σ H) : tE p (r.e x) σ H fun v H1 => D.nx (σ.set i (some v)) H1 := by
  obtain ⟨B, G, env, tmp, L, q⟩ := q
  refine ⟨B, G, env, tmp, L, (Got.bind (show Got ((r.e x env).bind _) _ _ from q)).imp (fun s env' q v G' H' x1 L1 => ?_) fun c env' q => q.ex⟩
  cases t : ownS b s with
  | none => rw [t] at q; exact q.elim
  | some s' =>
    rw [t] at q
    have q2 : Got ((setSlot i s' env').map fun e => Out.ok Fl.nx e) (AftS p D B G tmp) (AftX p B G tmp) := q
    clear q
    cases t2 : setSlot i s' env' with
    | none => rw [t2] at q2; exact q2.elim
    | some env2 =>
      rw [t2] at q2
      have q9 : AftS p D B G tmp .nx env2 := q2
      obtain ⟨rfl, o, ho, hp⟩ := setSlot_inv t2
      show D.nx (σ.set i (some v)) H'
      cases b with
      | true => exact q9 G' _ H' x1 (L1.store ho hp hi fun A hr => own_rep t hr rfl)
      | false =>
        have t3 : s.toD.map S.d = some s' := t
        obtain ⟨d, t4, rfl⟩ := Option.map_eq_some_iff.mp t3
        obtain ⟨G2, x2, L2, r2⟩ := L1.frz t4
        exact q9 G2 _ H' (x1.trans x2) ((L2.push r2).store ho hp hi fun A hr => hr)
theorem im_lc {σ : L2.St} {H : Hp} {Q : VK} {src : IT} {ig : IG} {cnd : Option IE} {el : IE} (hlt : ∀ i ∈ ownG ig, i < p.n) (q : tE p (stepE cx r (.lc src ig cnd el)) σ H Q) :
    tLc (tIt p (evT r src) (srcP src)) (tG p.shut (ownG ig) (setG ig)) (tBl p.shut (cndOf r cnd)) (tD p.shut (evD r el)) (ownG ig) σ H Q := by
  obtain ⟨B, G, env, tmp, L, q⟩ := q
  refine ⟨B, G, env, tmp, L, (Got.bind (show Got ((evT r src env).bind _) _ _ from q)).imp (fun ds env' q J B' G1 H1 x1 lk L1 iok D hD => ?_) fun c env' q => q⟩
  have q := (show Got (if freeE (ownG ig) (lockE (srcP src) env') = true then _ else _) _ _ from q)
  by_cases hfr : freeE (ownG ig) (lockE (srcP src) env') = true
  · rw [if_pos hfr] at q
    have q := Got.bind q
    have q := Got.bind (show Got ((lcL ig (cndOf r cnd) (evD r el) ds (wipeE (ownG ig) (lockE (srcP src) env'))).bind _) _ _ from q)
    cases t : lcL ig (cndOf r cnd) (evD r el) ds (wipeE (ownG ig) (lockE (srcP src) env')) with
    | none => rw [t] at q; exact q.elim
    | some o =>
      rw [t] at q
      cases o with
      | exn c e => exact absurd t (lcL_ok _ _)
      | ok ys eF =>
        have q := Got.okV q
        by_cases hlen : ys.length ≤ 1000000
        · rw [if_pos hlen] at q
          refine ⟨lcW p B' G1 σ tmp (ownG ig) ds D Q (lcL ig (cndOf r cnd) (evD r el)), ⟨ds.length, ⟨rfl, Nat.zero_le _⟩, G1, _, [], ExtN.refl _, (L1.newS hD (.l upd_same .nil)).wipeL fun j hj => ⟨hlt j hj, freeE_at hfr j hj⟩, fun j hj => free_wipe (freeE_at hfr j hj), ys, eF, t, hlen, fun G' H' x' L' f' => ?_⟩, fun i m H w => lc_turn hlt iok w⟩
          exact q (.ref D) G' H' (x1.trans x') (lk G' σ H' _ _ (L1.restL x' L' hlt (fun j hj => freeE_at hfr j hj) f'))
        · rw [if_neg hlen] at q; exact q.elim
  · rw [if_neg hfr] at q; exact q.elim
theorem as1_setLc (h : Ctx g X p k) {i : Nat} {y : Str} {b : Bool} {src : IT} {ig : IG} {cnd : Option IE} {el : IE} {own : List (Str × Nat)} (hN : g.N[i]? = some y) (hv : locB g.sc y = true) (hi : AI X p cx tg it src) (ok : blkC g.N g.sc scope own = true) (ho : own.map (·.2) = ownG ig)
    (hg : InB X scope fun X' => AG X' p.shut tg ig) (ht : InB X scope fun X' => AIf X' p.shut cx ifs cnd) (he : InB X scope fun X' => AE X' p.shut cx elt el)
    (hsw : swapsWith (.ListComp elt [⟨tg, it, ifs, 0⟩] scope pos) (some (.Name y pos2)) pos3.line X.env = pure true := by rfl) (hs : ∀ x, foldedSetIterable it X.env x = pure x := by intro _; rfl) :
    AS1 X p cx (.Assign [.Name y pos2] (.ListComp elt [⟨tg, it, ifs, 0⟩] scope pos) pos3) (.asg i b (.lc src ig cnd el)) := fun n => by
  have hl : X.env.scope.names.lookup y = some .local := by rw [h.sc]; exact loc_of hv
  have hok : BlkOk X.N X.env.scope scope own := by rw [h.N, h.sc]; exact blkOk_by ok
  have hin : i < p.n := by rw [h.n]; exact (List.getElem?_eq_some_iff.mp hN).1
  have hlt : ∀ i ∈ ownG ig, i < p.n := fun i hi => by
    rw [← ho] at hi
    obtain ⟨q, hq, rfl⟩ := List.mem_map.mp hi
    have := hok.ix q hq
    rw [h.n, ← h.N]
    exact (List.getElem?_eq_some_iff.mp this).1
  match n with
  | 0 =>
    refine ⟨fun pins s σ H D I q => ?_⟩
    obtain ⟨B, G, env, tmp, L, q⟩ := im_set hin q
    exact q.elim
  | n + 1 =>
    refine ps_imp (ps_setLc h.calm (by rw [h.N]; exact h.nd) (by rw [h.N]; exact hN) hl hsw (hi n) hok hg (fun s H C cl fp => ht s H C cl fp n) (fun s H C cl fp => pe_D (he s H C cl fp n)) hs) fun D σ H q => ?_
    rw [ho]
    exact im_lc (cx := cx) hlt (im_set hin q)
end
end EV

set_option maxRecDepth 100000
set_option maxHeartbeats 1000000
/-! (a, b) = e; a, b = x, y. -/
namespace EV
open PySem PySem.Spec PyProof.Rows L2 LamX
section
variable {g : GX} {X : Cx} {p : Pt} {k : Nat} {cx : CX} {e e1 e2 e3 tg : Expr} {pos pos2 pos3 : Pos} {r : EvR}
theorem got_e {x : IE} {env : Env} {kk : List EV.D → Env → Prop} {ke : Nat → Env → Prop} (q : Got (evOs r [.e x] env) kk ke) : Got (evD r x env) (fun d e => kk [d] e) ke := by
  have q := Got.bind (show Got ((evO1 r [.e x] env).bind _) _ _ from q)
  have q := Got.bind (show Got ((evP r (.e x) env).bind _) _ _ from q)
  have q := Got.bind (show Got ((evD r x env).bind _) _ _ from q)
  exact q.imp (fun d e q => (show Got (evO1 r [] e) _ _ from got_rest (os := []) (d := .inl d) rfl (Got.okV q))) fun c e q => q
theorem as1_unp {ig : IG} {x : IE} (he : AE X p cx e x) (hg : AG X p tg ig) (hs : swapsWithSole [tg] e pos.line X.env = pure false := by rfl) (hw : swappedStores [tg] e X.env = pure none := by rfl) (h1 : (assignEach [tg] X.env).map (·.2) = [assign tg X.env] := by rfl) :
    AS1 X p cx (.Assign [tg] e pos) (.unp ig (.e x)) := fun n => ps_imp (ps_asg (pe_D (he n)) hg hs hw h1) fun D σ H q => by
  obtain ⟨B, G, env, tmp, L, q⟩ := q
  have q := Got.bind (show Got ((evOs (evN cx n) [.e x] env).bind _) _ _ from q)
  refine ⟨B, G, env, tmp, L, (got_e q).imp (fun d env' q v G' H' x1 L1 r1 => ?_) fun c env' q => q.ex⟩
  have q : Got ((setG ig d env').map fun e => Out.ok Fl.nx e) (AftS p D B G tmp) (AftX p B G tmp) := q
  cases t : setG ig d env' with
  | none => rw [t] at q; exact q.elim
  | some env2 =>
    rw [t] at q
    exact ⟨B, G', env', tmp, d, env2, L1, r1, t, fun σ' sb L2 => (show AftS p D B G tmp .nx env2 from q) G' σ' H' x1 L2⟩
theorem Link.storeB {W : Wd} {B : Bs} {C : List V} {n : Nat} {σp : L2.St} {G : Hp} {σ : L2.St} {H : Hp} {env : Env} {tmp : List (V × S)} {v : V} {s s' : S} {b : Bool} {i : Nat} {o : Option S} (L : Link W B C n σp G σ H env ((v, s) :: tmp)) (t : ownS b s = some s') (ho : env[i]? = some o) (hp : ∀ t, o = some t → pinned t = false) (hi : i < n) :
    ∃ G2, ExtN G G2 ∧ Link W B C n σp G2 (σ.set i (some v)) H (env.set i (some s')) tmp := by
  cases b with
  | true => exact ⟨G, ExtN.refl G, L.store ho hp hi fun A hr => own_rep t hr rfl⟩
  | false =>
    have t3 : s.toD.map S.d = some s' := t
    obtain ⟨d, t4, rfl⟩ := Option.map_eq_some_iff.mp t3
    obtain ⟨G2, x2, L2, r2⟩ := L.frz t4
    exact ⟨G2, x2, (L2.push r2).store ho hp hi fun A hr => hr⟩
/-- several values on top -/
def onTop : List V → List S → List (V × S) → Option (List (V × S))
  | [], [], t => some t
  | v :: vs, s :: ss, t => onTop vs ss ((v, s) :: t)
  | _, _, _ => none
def tSs (p : Pt) (f : Env → R (List S)) : TA := fun σ H Q => ∃ B G env tmp, Link p.W B p.C p.n p.σp G σ H env tmp ∧
  Got (f env) (fun ss env' => ∀ vs G' H' t, ExtN G G' → onTop vs ss tmp = some t → Link p.W B p.C p.n p.σp G' σ H' env' t → Q vs H') fun c env' => ∀ G' H' pre, ExtN G G' → Link p.W B p.C p.n p.σp G' σ H' env' (pre ++ tmp) → p.Wx (.ref (p.W.exc c)) none σ H'
theorem pa_Snil : PA X [] (tSs p (evSs r [])) := by
  refine pa_imp pa_nil fun σ H Q q => ?_
  obtain ⟨B, G, env, tmp, L, q⟩ := q
  exact q [] G H tmp (ExtN.refl G) rfl L
theorem pa_Scons {es : List Expr} {x : IE} {xs : List IE} (h : PE X e (tE p (r.e x))) (hs : PA X es (tSs p (evSs r xs))) (hst : starEach (e :: es) X.env = (false, eval e X.env) :: starEach es X.env) : PA X (e :: es) (tSs p (evSs r (x :: xs))) := by
  refine pa_imp (pa_cons h hs hst) fun σ H Q q => ?_
  obtain ⟨B, G, env, tmp, L, q⟩ := q
  refine ⟨B, G, env, tmp, L, ?_⟩
  have q := Got.bind (show Got ((r.e x env).bind _) _ _ from q)
  refine q.imp (fun s env' q v G' H' e1 L1 => ?_) fun c env' q G' H' x1 L1 => q G' H' [] x1 L1
  refine ⟨B, G', env', _, L1, ?_⟩
  refine (Got.bind (show Got ((evSs r xs env').bind _) _ _ from q)).imp (fun ss env2 q vs G2 H2 t e2 ht L2 => ?_) fun c env2 q G2 H2 pre e2 L2 => q G2 H2 (pre ++ [(v, s)]) (e1.trans e2) (by rw [List.append_assoc]; exact L2)
  exact q (v :: vs) G2 H2 t (e1.trans e2) ht L2
theorem Link.drops {W : Wd} {B : Bs} {C : List V} {n : Nat} {σp : L2.St} {G : Hp} {σ : L2.St} {H : Hp} {env : Env} {tmp : List (V × S)} : ∀ {pre : List (V × S)}, Link W B C n σp G σ H env (pre ++ tmp) → Link W B C n σp G σ H env tmp
  | [], L => L
  | _ :: pre, L => Link.drops (pre := pre) L.drop
def ASs (X : Cx) (p : Pt) (cx : CX) (es : List Expr) (xs : List IE) : Prop := ∀ n, PA X es (tSs p (evSs (evN cx n) xs))
theorem ass_nil : ASs X p cx [] [] := fun n => pa_Snil
theorem ass_cons {es : List Expr} {x : IE} {xs : List IE} (h : AE X p cx e x) (hs : ASs X p cx es xs) (hst : noStar e = true := by rfl) : ASs X p cx (e :: es) (x :: xs) := fun n => pa_Scons (h n) (hs n) (star_cons hst)
theorem setPar_cons {i : Nat} {b : Bool} {gs : List (Nat × Bool)} {s : S} {ss : List S} {env env' : Env} (h : setPar ((i, b) :: gs) (s :: ss) env = some env') : ∃ s' o, ownS b s = some s' ∧ env[i]? = some o ∧ (∀ t, o = some t → pinned t = false) ∧ setPar gs ss (env.set i (some s')) = some env' := by
  simp only [setPar] at h
  cases t : ownS b s with
  | none => rw [t] at h; cases h
  | some s' =>
    rw [t] at h
    simp only at h
    cases t2 : setSlot i s' env with
    | none => rw [t2] at h; cases h
    | some e2 =>
      rw [t2] at h
      obtain ⟨rfl, o, ho, hp⟩ := setSlot_inv t2
      exact ⟨s', o, rfl, ho, hp, h⟩
theorem evSs_len {r : EvR} : ∀ {xs : List IE} {env env' : Env} {ss : List S}, evSs r xs env = some (.ok ss env') → ss.length = xs.length
  | [], _, _, _, h => by simp only [evSs] at h; cases h; rfl
  | x :: xs, env, env', ss, h => by
    simp only [evSs] at h
    cases q : r.e x env with
    | none => rw [q] at h; cases h
    | some o => cases o with
      | exn c e => rw [q] at h; cases h
      | ok s e =>
        rw [q] at h
        simp only [R.bind] at h
        cases q2 : evSs r xs e with
        | none => rw [q2] at h; cases h
        | some o => cases o with
          | exn c e => rw [q2] at h; cases h
          | ok ss e2 =>
            rw [q2] at h
            cases h
            simp [evSs_len q2]
theorem as1_par2 (h : Ctx g X p k) {i j : Nat} {x y : Str} {a b : IE} {ba bb : Bool} {px py pt pt2 : Pos} {kt k2 : Nat} (hi : g.N[i]? = some x) (hj : g.N[j]? = some y) (hij : (i == j) = false) (hx : locB g.sc x = true) (hy : locB g.sc y = true) (ha : ASs X p cx [e1, e2] [a, b])
    (hw : swappedStores [.Tuple [.Name x px, .Name y py] kt pt] (.Tuple [e1, e2] k2 pt2) X.env = pure (some [x, y]) := by rfl) (hs : swapsWithSole [.Tuple [.Name x px, .Name y py] kt pt] (.Tuple [e1, e2] k2 pt2) pos.line X.env = pure false := by rfl) :
    AS1 X p cx (.Assign [.Tuple [.Name x px, .Name y py] kt pt] (.Tuple [e1, e2] k2 pt2) pos) (.par [(i, ba), (j, bb)] [a, b]) := fun n => by
  have hij : i ≠ j := by simpa using hij
  have li : i < p.n := by rw [h.n]; exact (List.getElem?_eq_some_iff.mp hi).1
  have lj : j < p.n := by rw [h.n]; exact (List.getElem?_eq_some_iff.mp hj).1
  refine ps_imp (ps_par h.calm (by rw [h.N]; exact h.nd) (by rw [h.N]; exact hi) (by rw [h.N]; exact hj) hij (by rw [h.sc]; exact loc_of hx) (by rw [h.sc]; exact loc_of hy) (ha n) hw hs) fun D σ H q => ?_
  obtain ⟨B, G, env, tmp, L, q⟩ := q
  refine ⟨B, G, env, tmp, L, (Got.bind (show Got ((evSs (evN cx n) [a, b] env).bind _) _ _ from q)).impE (fun ss env' he q vs G' H' t x1 ht L1 => ?_) fun c env' q G' H' pre x1 L1 => (AftX.ex q) G' H' x1 L1.drops⟩
  have hl := evSs_len he
  match ss, hl with
  | [s1, s2], _ =>
    match vs, ht with
    | [v1, v2], ht =>
      have ht : some ((v2, s2) :: (v1, s1) :: tmp) = some t := ht
      cases ht
      have q : Got ((setPar [(i, ba), (j, bb)] [s1, s2] env').map fun e => Out.ok Fl.nx e) (AftS p D B G tmp) (AftX p B G tmp) := q
      cases t : setPar [(i, ba), (j, bb)] [s1, s2] env' with
      | none => rw [t] at q; exact q.elim
      | some env2 =>
        rw [t] at q
        obtain ⟨s1', o1, t1, g1, n1, t⟩ := setPar_cons t
        obtain ⟨s2', o2, t2, g2, n2, t⟩ := setPar_cons t
        simp only [setPar, Option.some.injEq] at t
        subst t
        rw [List.getElem?_set_ne hij] at g2
        obtain ⟨G2, x2, L2⟩ := L1.storeB t2 g2 n2 lj
        obtain ⟨G3, x3, L3⟩ := L2.storeB t1 (by rw [List.getElem?_set_ne (Ne.symm hij)]; exact g1) n1 li
        refine ⟨v1, v2, rfl, ?_⟩
        rw [List.set_comm _ _ (Ne.symm hij)] at L3
        rw [List.set_comm _ _ (Ne.symm hij)] at L3
        exact (show AftS p D B G tmp .nx _ from q) G3 _ H' ((x1.trans x2).trans x3) L3
    | [], ht => cases ht
    | [_], ht => cases ht
    | _ :: _ :: _ :: _, ht => cases ht
theorem as1_par3 (h : Ctx g X p k) {i j l : Nat} {x y z : Str} {a b c : IE} {ba bb bc : Bool} {px py pz pt pt2 : Pos} {kt k2 : Nat} (hi : g.N[i]? = some x) (hj : g.N[j]? = some y) (hk : g.N[l]? = some z) (hij : (i == j) = false) (hil : (i == l) = false) (hjl : (j == l) = false) (hx : locB g.sc x = true) (hy : locB g.sc y = true) (hz : locB g.sc z = true) (ha : ASs X p cx [e1, e2, e3] [a, b, c])
    (hw : swappedStores [.Tuple [.Name x px, .Name y py, .Name z pz] kt pt] (.Tuple [e1, e2, e3] k2 pt2) X.env = pure (some [x, y, z]) := by rfl) (hs : swapsWithSole [.Tuple [.Name x px, .Name y py, .Name z pz] kt pt] (.Tuple [e1, e2, e3] k2 pt2) pos.line X.env = pure false := by rfl) :
    AS1 X p cx (.Assign [.Tuple [.Name x px, .Name y py, .Name z pz] kt pt] (.Tuple [e1, e2, e3] k2 pt2) pos) (.par [(i, ba), (j, bb), (l, bc)] [a, b, c]) := fun n => by
  have hij : i ≠ j := by simpa using hij
  have hil : i ≠ l := by simpa using hil
  have hjl : j ≠ l := by simpa using hjl
  have li : i < p.n := by rw [h.n]; exact (List.getElem?_eq_some_iff.mp hi).1
  have lj : j < p.n := by rw [h.n]; exact (List.getElem?_eq_some_iff.mp hj).1
  have ll : l < p.n := by rw [h.n]; exact (List.getElem?_eq_some_iff.mp hk).1
  refine ps_imp (ps_par3 h.calm (by rw [h.N]; exact h.nd) (by rw [h.N]; exact hi) (by rw [h.N]; exact hj) (by rw [h.N]; exact hk) hij hil hjl (by rw [h.sc]; exact loc_of hx) (by rw [h.sc]; exact loc_of hy) (by rw [h.sc]; exact loc_of hz) (ha n) hw hs) fun D σ H q => ?_
  obtain ⟨B, G, env, tmp, L, q⟩ := q
  refine ⟨B, G, env, tmp, L, (Got.bind (show Got ((evSs (evN cx n) [a, b, c] env).bind _) _ _ from q)).impE (fun ss env' he q vs G' H' t x1 ht L1 => ?_) fun c env' q G' H' pre x1 L1 => (AftX.ex q) G' H' x1 L1.drops⟩
  have hl := evSs_len he
  match ss, hl with
  | [s1, s2, s3], _ =>
    match vs, ht with
    | [v1, v2, v3], ht =>
      have ht : some ((v3, s3) :: (v2, s2) :: (v1, s1) :: tmp) = some t := ht
      cases ht
      have q : Got ((setPar [(i, ba), (j, bb), (l, bc)] [s1, s2, s3] env').map fun e => Out.ok Fl.nx e) (AftS p D B G tmp) (AftX p B G tmp) := q
      cases t : setPar [(i, ba), (j, bb), (l, bc)] [s1, s2, s3] env' with
      | none => rw [t] at q; exact q.elim
      | some env2 =>
        rw [t] at q
        obtain ⟨s1', o1, t1, g1, n1, t⟩ := setPar_cons t
        obtain ⟨s2', o2, t2, g2, n2, t⟩ := setPar_cons t
        obtain ⟨s3', o3, t3, g3, n3, t⟩ := setPar_cons t
        simp only [setPar, Option.some.injEq] at t
        subst t
        rw [List.getElem?_set_ne hij] at g2
        rw [List.getElem?_set_ne hjl, List.getElem?_set_ne hil] at g3
        obtain ⟨G2, x2, L2⟩ := L1.storeB t3 g3 n3 ll
        obtain ⟨G3, x3, L3⟩ := L2.storeB t2 (by rw [List.getElem?_set_ne (Ne.symm hjl)]; exact g2) n2 lj
        obtain ⟨G4, x4, L4⟩ := L3.storeB t1 (by rw [List.getElem?_set_ne (Ne.symm hij), List.getElem?_set_ne (Ne.symm hil)]; exact g1) n1 li
        refine ⟨v1, v2, v3, rfl, ?_⟩
        have es : ((σ.set l (some v3)).set j (some v2)).set i (some v1) = ((σ.set i (some v1)).set j (some v2)).set l (some v3) := by
          rw [List.set_comm _ _ (Ne.symm hij), List.set_comm _ _ (Ne.symm hil), List.set_comm _ _ (Ne.symm hjl)]
        have ee : ((env'.set l (some s3')).set j (some s2')).set i (some s1') = ((env'.set i (some s1')).set j (some s2')).set l (some s3') := by
          rw [List.set_comm _ _ (Ne.symm hij), List.set_comm _ _ (Ne.symm hil), List.set_comm _ _ (Ne.symm hjl)]
        rw [es, ee] at L4
        exact (show AftS p D B G tmp .nx _ from q) G4 _ H' (((x1.trans x2).trans x3).trans x4) L4
    | [], ht => cases ht
    | [_], ht => cases ht
    | [_, _], ht => cases ht
    | _ :: _ :: _ :: _ :: _, ht => cases ht
end
end EV

set_option maxRecDepth 100000
set_option maxHeartbeats 1000000
/-! A slot is frozen (no statement of the program's). -/
namespace EV
open PySem PySem.Spec PyProof.Rows L2 LamX
section
variable {g : GX} {X : Cx} {p : Pt} {k : Nat} {cx : CX} {sts : List Stmt} {xs : List IS}
theorem Link.freeze {W : Wd} {B : Bs} {C : List V} {n : Nat} {σp : L2.St} {G : Hp} {σ : L2.St} {H : Hp} {env : Env} {tmp : List (V × S)} {i : Nat} {s : S} {d : D} (L : Link W B C n σp G σ H env tmp) (h : env[i]? = some (some s)) (hp : pinned s = false) (hd : s.toD = some d) (hi : i < n) :
    ∃ G2, ExtN G G2 ∧ Link W B C n σp G2 σ H (env.set i (some (.d d))) tmp := by
  obtain ⟨v, hv, L1⟩ := L.move h hp hi
  obtain ⟨G2, x2, L2, r2⟩ := L1.frz hd
  have hlt := (List.getElem?_eq_some_iff.mp h).1
  have L3 := (L2.push r2).store (o := none) (List.getElem?_set_self hlt) (fun t z => by cases z) hi (s' := .d d) fun A hr => hr
  rw [List.set_set] at L3
  have hs : σ.set i (some v) = σ := by
    apply List.ext_getElem?
    intro j
    by_cases e : i = j
    · subst e; rw [List.getElem?_set_self (List.getElem?_eq_some_iff.mp hv).1, hv]
    · rw [List.getElem?_set_ne e]
  rw [hs] at L3
  exact ⟨G2, x2, L3⟩
theorem as_frz {i : Nat} (hi : i < p.n) (h : AS X p cx sts xs) : AS X p cx sts (.frz i :: xs) := fun n => match n with
  | 0 => pss_no
  | n + 1 => pss_imp (h n) fun D σ H q => by
    obtain ⟨B, G, env, tmp, L, q⟩ := q
    have q := Got.bind (show Got ((stepS1 cx (evN cx n) (.frz i) env).bind _) _ _ from q)
    simp only [stepS1] at q
    cases e : env[i]? with
    | none => rw [e] at q; exact q.elim
    | some o =>
      cases o with
      | none => rw [e] at q; exact q.elim
      | some s =>
        rw [e] at q
        simp only at q
        by_cases hp : pinned s = true
        · rw [if_pos hp] at q; exact q.elim
        · rw [if_neg hp] at q
          cases t : s.toD with
          | none => rw [t] at q; exact q.elim
          | some d =>
            rw [t] at q
            obtain ⟨G2, x2, L2⟩ := L.freeze e (by simpa using hp) t hi
            have q : Got ((evN cx n).s xs (env.set i (some (.d d)))) (AftS p D B G tmp) (AftX p B G tmp) := q
            exact ⟨B, G2, _, tmp, L2, q.imp (fun fl e q => q.mono x2) fun c e q => q.mono x2⟩
end
end EV

set_option maxRecDepth 100000
set_option maxHeartbeats 1000000
/-! A field as an operand. -/
namespace EV
open PySem PySem.Spec PyProof.Rows L2 LamX
/-- at field j of the object at a stands v -/
def FldIs (W : Wd) (H : Hp) (a : Addr) (c j : Nat) (v : V) : Prop := ∃ dx vs, H a = some (.ins (W.cls c) dx ((W.fld c).zip vs)) ∧ vs.length ≤ (W.fld c).length ∧ vs[j]? = some v
/-- a field, read -/
def tF (p : Pt) (i c j : Nat) : TE := fun σ H Q => ∃ B G env tmp t, Link p.W B p.C p.n p.σp G σ H env tmp ∧ peekS (.f i c j) env = some t ∧
  ∀ a v A, σ[i]? = some (some (.ref a)) → FldIs p.W H a c j v → RepS p.W p.C G H t v A → Q v H
section
variable {g : GX} {X : Cx} {p : Pt} {k : Nat} {cx : CX} {pos pos2 : Pos} {f : Str} {c j : Nat}
theorem pe_F (h : Ctx g X p k) (ok : ClsOk p.W c) {i : Nat} {x : Str} (hf : (fldT c)[j]? = some f) (hN : g.N[i]? = some x) (hv : visB g.sc x = true) (hp : plainNm x = true)
    (hb : attributeBase (.Name x pos2) f X.env (eval (.Name x pos2) X.env) = eval (.Name x pos2) X.env := by rfl) : PE X (.Attribute (.Name x pos2) f pos) (tF p i c j) :=
  pe_imp (pe_fld (pe_var (by rw [h.N]; exact hN) (by rw [h.sc]; exact vis_of hv) (pn_d hp) (pn_c hp)) hb) fun σ H Q q => by
    have hi : i < p.n := by rw [h.n]; exact (List.getElem?_eq_some_iff.mp hN).1
    obtain ⟨B, G, env, tmp, t, L, hk, q⟩ := q
    cases e : env[i]? with
    | none => simp only [peekS, e] at hk; cases hk
    | some o =>
      cases o with
      | none => simp only [peekS, e] at hk; cases hk
      | some s =>
        obtain ⟨v, A0, h1, h2⟩ := L.getU e hi
        simp only [peekS, e] at hk
        refine ⟨v, h1, ?_⟩
        generalize s.un = su at hk h2
        cases h2 with
        | o k1 k2 k3 =>
          simp only at hk
          split at hk
          · rename_i hc
            have hc := eq_of_beq hc
            subst hc
            obtain ⟨w, Aj, hw, rw', _⟩ := k3.get hk
            exact obj_fld ok hf h.K k1 hw (q _ w Aj h1 ⟨_, _, k1, k2, hw⟩ rw')
          · cases hk
        | d r =>
          cases r with
          | obj k1 k2 k3 =>
            simp only at hk
            split at hk
            · rename_i hc
              have hc := eq_of_beq hc
              subst hc
              obtain ⟨d, hd, rfl⟩ := Option.map_eq_some_iff.mp hk
              obtain ⟨w, hw, rw'⟩ := k3.get hd
              have k1' := L.sub _ _ k1 fun _ z => by cases z
              exact obj_fld ok hf h.K k1' hw (q _ w [] h1 ⟨_, _, k1', k2, hw⟩ (.d rw'))
            · cases hk
          | _ => cases hk
        | _ => cases hk
theorem unlock_lock {i : Nat} {env : Env} : unlock1 i env (lock1 i env) = env := by
  unfold unlock1 lock1
  cases e : env[i]? with
  | none => rfl
  | some o =>
    cases o with
    | none => rfl
    | some s =>
      simp only
      by_cases ho : owned s = true
      · rw [if_pos ho, if_pos ho, List.set_set]
        apply List.ext_getElem?
        intro j
        by_cases h : i = j
        · subst h; rw [List.getElem?_set_self (List.getElem?_eq_some_iff.mp e).1, e]
        · rw [List.getElem?_set_ne h]
      · rw [if_neg ho, if_neg ho]
theorem pa_F1 {r : EvR} (h : Ctx g X p k) (ok : ClsOk p.W c) {i : Nat} {x : Str} (hf : (fldT c)[j]? = some f) (hN : g.N[i]? = some x) (hv : visB g.sc x = true) (hp : plainNm x = true)
    (hb : attributeBase (.Name x pos2) f X.env (eval (.Name x pos2) X.env) = eval (.Name x pos2) X.env := by rfl) : PA X [.Attribute (.Name x pos2) f pos] (tO p (evOs r [.p (.f i c j)])) :=
  pa_imp (pa_cons (pe_F h ok hf hN hv hp hb) pa_nil (star_cons rfl)) fun σ H Q q => by
    obtain ⟨B, G, env, tmp, L, q⟩ := q
    have q := Got.bind (show Got ((evO1 r [.p (.f i c j)] env).bind _) _ _ from q)
    have q := Got.bind (show Got ((evP r (.p (.f i c j)) env).bind _) _ _ from q)
    simp only [evP] at q
    cases t : peekS (.f i c j) env with
    | none => rw [t] at q; exact q.elim
    | some s =>
      rw [t] at q
      have q : Got (match fillO (unlock1 i env (lock1 i env)) [.inr (.f i c j)] with | some ds => some (.ok ds (unlock1 i env (lock1 i env))) | none => none) _ _ := q
      rw [unlock_lock] at q
      simp only [fillO, t] at q
      refine ⟨B, G, env, tmp, s, L, t, fun a v A h1 h2 h3 => ?_⟩
      cases td : s.toD with
      | none => rw [td] at q; exact q.elim
      | some d =>
        rw [td] at q
        exact q [v] G H (ExtN.refl G) L (.cons (.inr ⟨s, A, h3, td⟩) .nil)
/-- len(o.f) and its like -/
theorem ae_biF (h : Ctx g X p k) (ok : ClsOk p.W c) {i l : Nat} {x y : Str} {id : String} {o : Prim} {pos3 pos4 : Pos} (hc : CallR X (.builtin id) (rPs p o)) (hg : g.gt[l]? = some (y, .bi)) (hy : glB g.sc y = true) (hpy : plainNm y = true) (hvy : bootBuiltins y = some (.builtin id))
    (hf : (fldT c)[j]? = some f) (hN : g.N[i]? = some x) (hv : visB g.sc x = true) (hp : plainNm x = true)
    (hb : attributeBase (.Name x pos2) f X.env (eval (.Name x pos2) X.env) = eval (.Name x pos2) X.env := by rfl) : AE X p cx (.Call (.Name y pos3) [.Attribute (.Name x pos2) f pos] [] pos4) (.prim o [.p (.f i c j)]) :=
  ae_step fun n => pr_call (pe_callB hc (h.gl hy) (h.mg _ (List.mem_of_getElem? hg)) hvy (pa_F1 h ok hf hN hv hp hb) (pn_n hpy) (pn_d hpy) (star_cons rfl) (star_none rfl))
end
end EV

set_option maxRecDepth 100000
set_option maxHeartbeats 1000000
/-! A field as the second operand. -/
namespace EV
open PySem PySem.Spec PyProof.Rows L2 LamX
theorem fill_one {env : Env} {d : Sum D Plc} {l : List (Sum D Plc)} {ds : List D} (h : fillO env (d :: l) = some ds) : ∃ x xs, ds = x :: xs ∧ fillO env [d] = some [x] ∧ fillO env l = some xs := by
  cases d with
  | inl d =>
    simp only [fillO] at h
    split at h
    · rename_i xs e
      cases h
      exact ⟨d, xs, rfl, rfl, e⟩
    · cases h
  | inr q =>
    simp only [fillO] at h ⊢
    split at h
    · rename_i s e
      split at h
      · rename_i d xs e1 e2
        cases h
        exact ⟨d, xs, rfl, by simp only [e1], e2⟩
      · cases h
    · cases h
section
variable {p : Pt} {X : Cx} {g : GX} {k : Nat} {cx : CX} {r : EvR} {e1 : Expr} {pos pos2 pos3 : Pos} {f : Str} {c j i : Nat}
theorem two_OF2 {a : Opd} {R2' : V → V → Hp → Prop} {σ : L2.St} {H : Hp}
    (q : ∃ B G env tmp, Link p.W B p.C p.n p.σp G σ H env tmp ∧ Got (evOs r [a, .p (.f i c j)] env) (fun ds env' => ∀ x y G' H', ExtN G G' → Link p.W B p.C p.n p.σp G' σ H' env' tmp → RRs p.W p.C G' H' ds [x, y] → R2' x y H') fun c env' => ∀ G' H', ExtN G G' → Link p.W B p.C p.n p.σp G' σ H' env' tmp → p.Wx (.ref (p.W.exc c)) none σ H') :
    tP p (evP r a) σ H fun x H1 => tF p i c j σ H1 fun y H2 => R2' x y H2 := by
  obtain ⟨B, G, env, tmp, L, q⟩ := q
  refine ⟨B, G, env, tmp, L, ?_⟩
  have q := Got.bind (show Got ((evO1 r [a, .p (.f i c j)] env).bind _) _ _ from q)
  have q := Got.bind (show Got ((evP r a env).bind _) _ _ from q)
  refine q.imp (fun da env1 q x G1 H1 e1 L1 r1 => ?_) fun c env' q => q
  have q := got_rest (rel1_f r1) q
  have q := Got.bind (show Got ((evP r (.p (.f i c j)) env1).bind _) _ _ from q)
  simp only [evP] at q
  cases t : peekS (.f i c j) env1 with
  | none => rw [t] at q; exact q.elim
  | some s =>
    rw [t] at q
    have q : Got (match fillO (unlock1 i env1 (lock1 i env1)) [da, .inr (.f i c j)] with | some ds => some (.ok ds (unlock1 i env1 (lock1 i env1))) | none => none) _ _ := q
    rw [unlock_lock] at q
    refine ⟨B, G1, env1, tmp, s, L1, t, fun a v A h1 h2 h3 => ?_⟩
    cases td : fillO env1 [da, .inr (.f i c j)] with
    | none => rw [td] at q; exact q.elim
    | some ds =>
      rw [td] at q
      obtain ⟨d1, ds2, rfl, f1, f2⟩ := fill_one td
      simp only [fillO, t] at f2
      cases td2 : s.toD with
      | none => rw [td2] at f2; cases f2
      | some d2 =>
        rw [td2] at f2
        simp only [Option.some.injEq] at f2
        subst f2
        refine q x v G1 H1 e1 L1 ?_
        cases fill_ok L1 (.cons r1 .nil) f1 with
        | cons y1 y2 => exact .cons y1 (.cons (.inr ⟨s, A, h3, td2⟩) .nil)
theorem im_twoF2 {a : Opd} {o : Prim} {σ : L2.St} {H : Hp} {Q : VK} (q : tE p (stepE cx r (.prim o [a, .p (.f i c j)])) σ H Q) : tOp (rP p o) (tP p (evP r a)) (tF p i c j) σ H Q := by
  obtain ⟨B, G, env, tmp, L, q⟩ := q
  refine two_OF2 ⟨B, G, env, tmp, L, ?_⟩
  have q := Got.bind (show Got ((evOs r [a, .p (.f i c j)] env).bind _) _ _ from q)
  refine q.imp (fun ds env' q x y G' H' e1 L1 rr => ?_) fun c env' q => q
  cases ds with
  | nil => cases rr
  | cons d1 ds =>
    cases ds with
    | nil => cases rr with | cons h1 h2 => cases h2
    | cons d2 ds =>
      cases ds with
      | cons d3 ds => cases rr with | cons h1 h2 => cases h2 with | cons h2 h3 => cases h3
      | nil =>
        cases t : prim o [d1, d2] with
        | none => rw [t] at q; exact q.elim
        | some s =>
          rw [t] at q
          exact ⟨d1, d2, B, G', σ, env', tmp, s, L1, rr, t, fun v G2 H2 e2 L2 => q v G2 H2 (e1.trans e2) L2⟩
theorem ae_cmpF2 (h : Ctx g X p k) (ok : ClsOk p.W c) {op : CmpOp} {o : Prim} {a : Opd} {x : Str} {pos4 : Pos} (ho : OpR X (compareOp op) (rP p o)) (ha : AO X p cx e1 a) (hf : (fldT c)[j]? = some f) (hN : g.N[i]? = some x) (hv : visB g.sc x = true) (hp : plainNm x = true)
    (hb : attributeBase (.Name x pos2) f X.env (eval (.Name x pos2) X.env) = eval (.Name x pos2) X.env := by rfl) (hm : behindInMarks op (.Attribute (.Name x pos2) f pos) = false := by rfl) : AE X p cx (.Compare e1 [op] [.Attribute (.Name x pos2) f pos] pos4) (.prim o [a, .p (.f i c j)]) :=
  ae_step fun n => pe_imp (pe_cmpR ho (ha n) (pe_F h ok hf hN hv hp hb) hm) fun σ H Q q => im_twoF2 q
theorem ab_cmpF2 (h : Ctx g X p k) (ok : ClsOk p.W c) {op : CmpOp} {o : Prim} {a : Opd} {x : Str} {pos4 : Pos} (ho : OpR X (compareOp op) (rP p o)) (ha : AO X p cx e1 a) (hf : (fldT c)[j]? = some f) (hN : g.N[i]? = some x) (hv : visB g.sc x = true) (hp : plainNm x = true)
    (hb : attributeBase (.Name x pos2) f X.env (eval (.Name x pos2) X.env) = eval (.Name x pos2) X.env := by rfl) (hm : behindInMarks op (.Attribute (.Name x pos2) f pos) = false := by rfl) : AB X p cx (.Compare e1 [op] [.Attribute (.Name x pos2) f pos] pos4) (.prim o [a, .p (.f i c j)]) :=
  ab_step fun n => pt_imp (pt_cmpR ho (ha n) (pe_F h ok hf hN hv hp hb) hm) fun σ H Q q => im_twoF2 (cx := cx) (tBl_tE q)
end
end EV

set_option maxRecDepth 100000
set_option maxHeartbeats 1000000
/-! Calls: a def's promise told of the very state. -/
namespace EV
open PySem PySem.Spec PyProof.Rows L2 LamX
/-- a promise: around, frames, state, arguments, heap, what is wanted of the value, of an exception -/
abbrev SpS := Around → List PySem.Env → Shared → List V → Hp → VK → XK → Prop
structure FnS (P : Program) (w : World) (K : PySem.W.Frag) (mg : Str → Option Value) (base : Heap) (k : Nat) (f : Addr) (fd : FuncData) (ps : List Str) (sp : SpS) : Prop where
  len : ∀ A outer s vs H Q E, sp A outer s vs H Q E → vs.length = ps.length
  run : ∀ (A : Around) (outer : List PySem.Env) (s : Shared) (H : Hp) (args : Args) (us : List Value) (vs : List V) (Q : VK) (E : XK), Room k A → Env0 P w K mg base A outer s H → BindsTo s fd args (ps.zip us) → Vals vs us →
    sp A outer s vs H Q E → codeAny (model P w) A (.call (.ref f) args) (CR (L2.CX P w) outer P w H s Q E) s
theorem FnS.mono {P : Program} {w : World} {K : PySem.W.Frag} {mg : Str → Option Value} {base : Heap} {j k : Nat} {f : Addr} {fd : FuncData} {ps : List Str} {sp : SpS} (F : FnS P w K mg base j f fd ps sp) (h : j ≤ k) : FnS P w K mg base k f fd ps sp :=
  ⟨F.len, fun A outer s H args us vs Q E hr => F.run A outer s H args us vs Q E (hr.mono h)⟩
section
variable {X : Cx} {k : Nat} {f C : Addr} {fd : FuncData} {ps : List Str} {sp : SpS} {E : L2.St → XK} {x m : Str} {p pos apos : Pos} {e o : Expr} {es : List Expr} {ta : TE} {t : TA} {Wx : WX}
theorem res_of {pins : List (Addr × Obj)} {σ : L2.St} {H : Hp} {s : Shared} {Q : VK} {E : XK} {r : Result} {s' : Shared} (hx : PassesAt (L2.CX X.prog X.w) X σ E) (I : L2.Inv X pins σ H s) (hq : CR (L2.CX X.prog X.w) X.stack X.prog X.w H s Q E r s') :
    (match r with
      | .ok (.ret u) => EP X pins σ Q u s'
      | .ok _ => False
      | .error e => X.xe e s') := by
  cases r with
  | error e => exact hx pins H s e s' I hq
  | ok fl =>
    cases fl with
    | ret u => exact I.after hq
    | next => exact hq
    | brk => exact hq
    | cont => exact hq
theorem wp_res {pins : List (Addr × Obj)} {σ : L2.St} {H : Hp} {s : Shared} {Q : VK} {E : XK} {v : Value} {us : List Value} (hx : PassesAt (L2.CX X.prog X.w) X σ E) (I : L2.Inv X pins σ H s) (h : codeAny (model X.prog X.w) X.A (.call v ⟨us, []⟩) (CR (L2.CX X.prog X.w) X.stack X.prog X.w H s Q E) s) :
    wpAny (model X.prog X.w) X.A (call v us) (EP X pins σ Q) X.xe s := by
  refine wpAny_call (codeAny_mono h fun r s' hq => ?_)
  have z := res_of hx I hq
  cases r with
  | error e => exact z
  | ok fl => cases fl <;> exact z
theorem run_fnT {pins : List (Addr × Obj)} {σ : L2.St} {H : Hp} {s : Shared} {Q : VK} {us : List Value} {vs : List V} (F : FnS X.prog X.w X.K X.mg X.base k f fd ps sp) (hr : Room k X.A) (hb : Binds X.K fd ps []) (hx : PassesAt (L2.CX X.prog X.w) X σ (E σ))
    (I : L2.Inv X pins σ H s) (r : Vals vs us) (h : sp X.A X.stack s vs H Q (E σ)) : wpAny (model X.prog X.w) X.A (call (.ref f) us) (EP X pins σ Q) X.xe s := by
  have hl : us.length = ps.length := r.length ▸ F.len _ _ _ _ _ _ _ h
  have b := hb s us I.kIn (by simpa using hl)
  rw [List.append_nil] at b
  exact wp_res hx I (F.run X.A X.stack s H ⟨us, []⟩ us vs Q (E σ) hr I.env0 b r h)
/-- f(..) -/
def tCallT (sp : SpS) (E : L2.St → XK) (t : TA) : TE := fun σ H Q => t σ H fun vs H1 => ∀ A outer s, sp A outer s vs H1 Q (E σ)
theorem pe_callT (F : FnS X.prog X.w X.K X.mg X.base k f fd ps sp) (hr : Room k X.A) (hg : Gl X x) (hm : X.mg x = some (.ref f)) (hk : PySem.W.keepIn X.K (.ref f) = true) (hb : Binds X.K fd ps []) (tk : Takes X Wx)
    (ha : PA X (e :: es) t) (hdb : (x == ("__debug__" : Str)) = false) (he : starEach (e :: es) X.env = (false, eval e X.env) :: starEach es X.env) (hpl : (backTo pos (starEach es X.env)).any (·.1) = false) :
    PE X (.Call (.Name x p) (e :: es) [] pos) (tCallT sp (WE Wx) t) := ⟨fun pins s σ H Q I h =>
  wpAny_Call_Name_kw (ld_glob I hg hm (PySem.W.callWith_K (h₀ := X.base) I.ok.mod.kin hk (thn (ha.run pos pins s σ H _ I h) fun _ _ ⟨_, _, I1, r, q⟩ => ⟨I1.kIn, run_fnT (E := WE Wx) F hr hb (passAt tk σ) I1 r (q _ _ _)⟩) he hpl) hdb)⟩
theorem pe_callT0 (F : FnS X.prog X.w X.K X.mg X.base k f fd ps sp) (hr : Room k X.A) (hg : Gl X x) (hm : X.mg x = some (.ref f)) (hk : PySem.W.keepIn X.K (.ref f) = true) (hb : Binds X.K fd ps []) (tk : Takes X Wx) (hdb : (x == ("__debug__" : Str)) = false) :
    PE X (.Call (.Name x p) [] [] pos) (tCallT sp (WE Wx) tNil) := ⟨fun pins s σ H Q I h =>
  wpAny_Call_Name_kw (ld_glob I hg hm (PySem.W.callWith_K0 I.kIn hk (run_fnT (E := WE Wx) (us := []) F hr hb (passAt tk σ) I .nil (h _ _ _))) hdb)⟩
/-- o.m(..) -/
def tMethT (C : Addr) (m : Str) (sp : SpS) (E : L2.St → XK) (ta : TE) (t : TA) : TE := fun σ H Q => ta σ H fun x H1 => ∃ a dx fs, x = .ref a ∧ H1 a = some (.ins C dx fs) ∧ fs.lookup m = none ∧
  t σ H1 fun vs H2 => ∀ A outer s, sp A outer s (x :: vs) H2 Q (E σ)
def methEv (o : Expr) (m : Str) (es : List Expr) (apos pos : Pos) (env : PySem.Env) (pl : Sem Bool) : Sem Value := do
  let ov ← eval o env
  standAt apos.atName
  let (f, first) ← holding [ov] (getMethod ov m pl)
  callWith pos f first (backTo pos (starEach es env)) (backToKw pos (keywordEach [] env))
theorem pe_methT {pl : Sem Bool} (he : PE X o ta) (c : Cls X.K C) (hm : Meth X.K C m f) (F : FnS X.prog X.w X.K X.mg X.base k f fd ps sp) (hr : Room k X.A) (hb : Binds X.K fd ps []) (tk : Takes X Wx) (ha : PA X (e :: es) t)
    (hst : starEach (e :: es) X.env = (false, eval e X.env) :: starEach es X.env) (hpl : (backTo pos (starEach es X.env)).any (·.1) = false) (ht : eval (.Call (.Attribute o m apos) (e :: es) [] pos) X.env = methEv o m (e :: es) apos pos X.env pl) :
    PE X (.Call (.Attribute o m apos) (e :: es) [] pos) (tMethT C m sp (WE Wx) ta t) := ⟨fun pins s σ H Q I h => by
  refine PySem.W.methodCall_KW (pl := pl) (thn (he.run pins s σ H _ I h) fun u s1 ⟨x, H1, I1, rx, a, dx, fs, ex, ea, l, q⟩ => ?_) ht
  subst ex
  obtain rfl : u = Value.ref a := rx
  exact getmeth_ok I1 ea c hm l (PySem.W.callWith_K (first := [.ref a]) (h₀ := X.base) I.ok.mod.kin hm.kp (thn (ha.run pos pins s1 σ H1 _ I1 q) fun us _ ⟨vs, _, I2, r, q2⟩ =>
    ⟨I2.kIn, run_fnT (E := WE Wx) (us := .ref a :: us) (vs := .ref a :: vs) F hr hb (passAt tk σ) I2 (.cons rfl r) (q2 _ _ _)⟩) hst hpl)⟩
theorem pe_methT0 {pl : Sem Bool} (he : PE X o ta) (c : Cls X.K C) (hm : Meth X.K C m f) (F : FnS X.prog X.w X.K X.mg X.base k f fd ps sp) (hr : Room k X.A) (hb : Binds X.K fd ps []) (tk : Takes X Wx)
    (ht : eval (.Call (.Attribute o m apos) [] [] pos) X.env = methEv o m [] apos pos X.env pl) :
    PE X (.Call (.Attribute o m apos) [] [] pos) (tMethT C m sp (WE Wx) ta tNil) := ⟨fun pins s σ H Q I h => by
  refine PySem.W.methodCall_KW (pl := pl) (thn (he.run pins s σ H _ I h) fun u s1 ⟨x, H1, I1, rx, a, dx, fs, ex, ea, l, q⟩ => ?_) ht
  subst ex
  obtain rfl : u = Value.ref a := rx
  exact getmeth_ok I1 ea c hm l (PySem.W.callWith_K0 (first := [.ref a]) I1.kIn hm.kp (run_fnT (E := WE Wx) (us := [.ref a]) (vs := [.ref a]) F hr hb (passAt tk σ) I1 (.cons rfl .nil) (q _ _ _)))⟩
/-- C(..) -/
def tMakeT (C : Addr) (sp : SpS) (E : L2.St → XK) (t : TA) : TE := fun σ H Q => t σ H fun vs H1 => ∀ x dx, H1 x = none → H1 dx = none → dx ≠ x →
  ∀ A outer s, sp A outer s (.ref x :: vs) (upd (upd H1 dx (.own x)) x (.ins C dx [])) (fun v H2 => v = .non ∧ Q (.ref x) H2) (E σ)
theorem run_makeT {pins : List (Addr × Obj)} {σ : L2.St} {H : Hp} {s : Shared} {Q : VK} {us : List Value} {vs : List V} (M : Mk X.K C f) (F : FnS X.prog X.w X.K X.mg X.base k f fd ps sp) (hr : Room (k + 1) X.A) (hb : Binds X.K fd ps [])
    (hx : PassesAt (L2.CX X.prog X.w) X σ (E σ)) (I : L2.Inv X pins σ H s) (r : Vals vs us)
    (h : ∀ x dx, H x = none → H dx = none → dx ≠ x → ∀ A outer s, sp A outer s (.ref x :: vs) (upd (upd H dx (.own x)) x (.ins C dx [])) (fun v H2 => v = .non ∧ Q (.ref x) H2) (E σ)) :
    wpAny (model X.prog X.w) X.A (call (.ref C) us) (EP X pins σ Q) X.xe s := by
  have hq := h (s.heap.objs.size + 1) s.heap.objs.size (I.hok.fresh (Nat.le_succ _)) (I.hok.fresh (Nat.le_refl _)) (Nat.ne_of_lt (Nat.lt_succ_self _))
  have I2 := Inv.made (C := C) I
  have r2 : Vals (V.ref (s.heap.objs.size + 1) :: vs) (Value.ref (s.heap.objs.size + 1) :: us) := .cons rfl r
  have hl : (Value.ref (s.heap.objs.size + 1) :: us ++ []).length = ps.length := by
    have e := r2.length
    rw [F.len _ _ _ _ _ _ _ (hq X.A X.stack s)] at e
    rw [List.append_nil]
    exact e.symm
  have b := hb _ (Value.ref (s.heap.objs.size + 1) :: us) I2.kIn hl
  rw [List.append_nil] at b
  refine wpAny_call (make_map (f := f) I.kIn M.makes M.init (beq_iff_eq.mp M.fn) (codeAny_mono (F.run _ X.stack _ _ ⟨Value.ref (s.heap.objs.size + 1) :: us, []⟩ _ _ _ (E σ) (hr.make C us []) (I2.env0.make C us []) b r2 (hq _ _ _)) fun r s' hq' => ?_))
  have z := res_of hx I2 hq'
  cases r with
  | error e => exact z
  | ok fl =>
    cases fl with
    | ret u =>
      obtain ⟨v, H', I3, rv, ev, q3⟩ := z
      subst ev
      exact ⟨rv, ⟨V.ref (s.heap.objs.size + 1), H', I3, rfl, q3⟩⟩
    | next => exact z.elim
    | brk => exact z.elim
    | cont => exact z.elim
theorem pe_makeT (M : Mk X.K C f) (F : FnS X.prog X.w X.K X.mg X.base k f fd ps sp) (hr : Room (k + 1) X.A) (hg : Gl X x) (hm : X.mg x = some (.ref C)) (hb : Binds X.K fd ps []) (tk : Takes X Wx)
    (ha : PA X (e :: es) t) (hdb : (x == ("__debug__" : Str)) = false) (he : starEach (e :: es) X.env = (false, eval e X.env) :: starEach es X.env) (hpl : (backTo pos (starEach es X.env)).any (·.1) = false) :
    PE X (.Call (.Name x p) (e :: es) [] pos) (tMakeT C sp (WE Wx) t) := ⟨fun pins s σ H Q I h =>
  wpAny_Call_Name_kw (ld_glob I hg hm (PySem.W.callWith_K (h₀ := X.base) I.ok.mod.kin M.kp (thn (ha.run pos pins s σ H _ I h) fun _ _ ⟨_, _, I1, r, q⟩ => ⟨I1.kIn, run_makeT (E := WE Wx) M F hr hb (passAt tk σ) I1 r q⟩) he hpl) hdb)⟩
end
end EV

set_option maxRecDepth 100000
set_option maxHeartbeats 1000000
/-! The promise of a def: what the evaluator says of its call. -/
namespace EV
open PySem PySem.Spec PyProof.Rows L2 LamX
/-- the defs by number, the evaluator's bounds -/
structure FnI where
  N : List Str
  ps : List Str
structure Tb where
  tab : Nat → Option FD
  fi : Nat → Option FnI
  nf : Nat
  wl : Nat
abbrev Tb.ev (T : Tb) (k : Nat) : Call := evCall T.tab T.nf T.wl k
def EnvIn (n : Nat) (ss : List S) (pe : Env) : Env := ss.map some ++ List.replicate (n - ss.length) none ++ pe
def asOf (ss : List S) (env : Env) : List S := (List.range ss.length).map fun i => match ss[i]? with
  | some s => if pinned s then ((env[i]?).getD none).getD (.d .non) else s
  | none => .d .non
/-- slots set to values -/
def setσ (σ : L2.St) : List (Nat × V) → L2.St
  | [] => σ
  | p :: ps => setσ (σ.set p.1 (some p.2)) ps
/-- in a def that was called from that state -/
structure In (W : Wd) (mg : Str → Option Value) (base : Heap) (outer : List PySem.Env) (s : Shared) (H : Hp) (X : Cx) : Prop where
  prog : X.prog = W.P
  w : X.w = W.w
  K : X.K = W.K
  mg : X.mg = mg
  base : X.base = base
  outer : X.outer = outer
  ex : X.ex = []
  s0 : X.s_0 = s
  h0 : X.H_0 = H
/-- what a lambda lent does, wherever the def that got it calls it -/
structure CloAt (W : Wd) (mg : Str → Option Value) (base : Heap) (T : Tb) (k : Nat) (outer : List PySem.Env) (s : Shared) (H : Hp) (C : List V) (σm : L2.St) (f : Addr) (L : Lam) : Prop where
  fn : ∀ (X : Cx) (pins : List (Addr × Obj)) (σ : L2.St) (HZ : Hp) (s1 : Shared), In W mg base outer s H X → L2.Inv X pins σ HZ s1 → PySem.W.FnAt f s1.heap
  run : ∀ (X : Cx) (wx : WX) (cx : CX) (n : Nat) (pins : List (Addr × Obj)) (σ : L2.St) (HZ : Hp) (s1 : Shared) (us : List Value) (vs : List V) (Q : VK), In W mg base outer s H X →
    Takes X wx → Room (3 * k + 2) X.A → cx.call = T.ev k → L2.Inv X pins σ HZ s1 → Vals vs us → vs.length = L.ps.length → Tabs W.T HZ →
    tE ⟨W, C, σm.length, [], fun c d _ H => wx c d σ H⟩ ((evN cx n).e L.body) (setσ σm (L.ps.zip vs)) HZ Q → wpAny (model X.prog X.w) X.A (call (Value.ref f) us) (EP X pins σ Q) X.xe s1
def CloAll (W : Wd) (mg : Str → Option Value) (base : Heap) (T : Tb) (k : Nat) (outer : List PySem.Env) (s : Shared) (H : Hp) (C : List V) (σm : L2.St) (lams : List Lam) : Prop :=
  ∀ (j : Nat) (L : Lam), lams[j]? = some L → ∃ f : Addr, C[j]? = some (V.ref f) ∧ CloAt W mg base T k outer s H C σm f L
/-- behind a call -/
def FnEnd (W : Wd) (B : Bs) (C : List V) (n : Nat) (σp : L2.St) (G : Hp) (ss : List S) (Q : VK) (E : XK) : Option COut → Prop
  | some (.ok r as pe) => ∀ v G' σ' H' env', ExtN G G' → Link W B C n σp G' σ' H' env' [(v, r)] → as = asOf ss env' → pe = env'.drop n → Q v H'
  | some (.exn c as pe) => ∀ G' σ' H' env', ExtN G G' → Link W B C n σp G' σ' H' env' [] → as = asOf ss env' → pe = env'.drop n → E (.ref (W.exc c)) none H'
  | none => False
/-- the promise of the def f -/
def spF (W : Wd) (mg : Str → Option Value) (base : Heap) (T : Tb) (f : Nat) (i : FnI) : Nat → SpS
  | 0 => fun _ _ _ _ _ _ _ => False
  | k + 1 => fun A outer s vs H Q E => ∃ C σp B G ss lams pe, vs.length = i.ps.length ∧ ss.length = vs.length ∧ Link W B C i.N.length σp G (start i.N vs) H (EnvIn i.N.length ss pe) [] ∧ CloAll W mg base T k outer s H C σp lams ∧
    FnEnd W B C i.N.length σp G ss Q E (T.ev (k + 1) f ss lams pe)
/-- the def f keeps its promise, k calls deep -/
structure FnAt (W : Wd) (mg : Str → Option Value) (base : Heap) (T : Tb) (k : Nat) (f : Nat) (i : FnI) : Prop where
  np : ∀ ss lams pe r, T.ev k f ss lams pe = some r → ss.length = i.ps.length
  le : i.ps.length ≤ i.N.length
  ex : ∃ fd, FnS W.P W.w W.K mg base (3 * k) (W.fnA f) fd i.ps (spF W mg base T f i k) ∧ Binds W.K fd i.ps [] ∧ PySem.W.keepIn W.K (.ref (W.fnA f)) = true
def Sound (W : Wd) (mg : Str → Option Value) (base : Heap) (T : Tb) (k0 : Nat) : Prop := ∀ k, k ≤ k0 → ∀ f i, T.fi f = some i → FnAt W mg base T k f i
/-- where a def's body runs -/
structure Rd (T : Tb) (g : GX) (X : Cx) (p : Pt) (k : Nat) (cx : CX) : Prop where
  c : Ctx g X p (3 * k + 1)
  so : Sound p.W X.mg X.base T k
  hc : cx.call = T.ev k
structure Cl (T : Tb) (g : GX) (X : Cx) (p : Pt) (k : Nat) (cx : CX) : Prop extends Rd T g X p k cx where
  cl : ∃ outer s H, In p.W X.mg X.base outer s H X ∧ CloAll p.W X.mg X.base T k outer s H p.C p.σp cx.lams
  ns : cx.ns = p.n
  room2 : Room (3 * k + 2) X.A
  fnT : ∀ x, X.fn x = true
  po : PassesOwn (model X.prog X.w) X.A X.env X.xe
  stk : X.stack = X.env :: X.outer
  frm : X.env.frame = some X.env.locals
theorem ev_succ {T : Tb} {k f : Nat} {fd : FD} {ss : List S} {lams : List Lam} {pe : Env} (h : T.tab f = some fd) : T.ev (k + 1) f ss lams pe = bodyR ⟨T.ev k, lams, fd.ns, T.wl⟩ T.nf fd ss pe := by
  show (match T.tab f with | some fd => _ | none => none) = _
  rw [h]
/-- a def's body, as derived, keeps the promise -/
theorem fnS_of {W : Wd} {mg : Str → Option Value} {base : Heap} {T : Tb} {k f : Nat} {i : FnI} {fd : FD} {g : GX} {name qual : Str} {params : Arguments} {body : List Stmt} {scope : Scope} {dV kV doc pm cdv ct oc : Value} {an od : Option Addr} {osl : Array (Option Value)}
    (lk : W.K.lookup (W.fnA f) = some ⟨oc, od, .func (PySem.W.fnOf name qual params body scope dV kV doc pm an cdv ct), osl⟩) (hcd : PySem.W.codeIn W.K cdv qual = true) (S : FnScope i.N i.ps scope) (wok : Wok W)
    (hN : g.N = i.N) (hs : g.sc = scope) (hmg : ∀ q ∈ g.gt, MgOk W mg q) (so : Sound W mg base T k) (ht : T.tab f = some fd) (hns : fd.ns = i.N.length) (hnp : fd.np = i.ps.length) (hle : i.ps.length ≤ i.N.length)
    (hb : ∀ (X : Cx) (p : Pt) (cx : CX), Cl T g X p k cx → p.W = W → X.mg = mg → X.base = base → X.env.code = cdv → X.env.qual = qual ++ ".<locals>." → AS X p cx body fd.body) :
    FnS W.P W.w W.K mg base (3 * (k + 1)) (W.fnA f) (PySem.W.fnOf name qual params body scope dV kV doc pm an cdv ct) i.ps (spF W mg base T f i (k + 1)) := by
  refine ⟨fun A outer s vs H Q E q => q.choose_spec.choose_spec.choose_spec.choose_spec.choose_spec.choose_spec.choose_spec.1, fun A outer s H args us vs Q E hr e0 hbt r q => ?_⟩
  obtain ⟨C, σp, B, G, ss, lams, pe, h1, h2, L, hC, hq⟩ := q
  refine run_ofS (CX := L2.CX W.P W.w) (k := 3 * k + 2) lk hcd S hr e0 hbt r h1 fun hr' => ?_
  have cl : Cl T g (cxOf (L2.CX W.P W.w) W.P W.w W.K mg base i.N qual scope (W.fnA f) cdv A outer s H E) ⟨W, C, i.N.length, σp, fun c d _ H => E c d H⟩ k ⟨T.ev k, lams, fd.ns, T.wl⟩ := {
    c := { prog := rfl, w := rfl, K := rfl, N := hN.symm, n := by rw [hN], nd := by rw [hN]; exact S.nd, sc := hs.symm, calm := rfl, mg := hmg, room := hr'.mono (by omega), takes := takes_of rfl rfl rfl rfl, wok := wok }
    so := so
    hc := rfl
    cl := ⟨outer, s, H, ⟨rfl, rfl, rfl, rfl, rfl, rfl, rfl, rfl, rfl⟩, hC⟩
    ns := hns
    room2 := hr'
    fnT := fun _ => rfl
    po := passes_of rfl
    stk := rfl
    frm := rfl }
  refine ⟨_, hb _ _ _ cl rfl rfl rfl rfl rfl T.nf, B, G, EnvIn i.N.length ss pe, [], L, ?_⟩
  rw [ev_succ ht] at hq
  unfold bodyR at hq
  have e1 : (ss.length == fd.np && decide (fd.np ≤ fd.ns)) = true := by rw [h2, h1, hnp, hns]; simp [hle]
  rw [if_pos e1] at hq
  have e2 : ss.map some ++ List.replicate (fd.ns - fd.np) none ++ pe = EnvIn i.N.length ss pe := by unfold EnvIn; rw [hns, hnp, h2, h1]
  have e3 : fd.np = ss.length := by rw [h2, h1, hnp]
  rw [e2, e3, hns] at hq
  cases t : (evN { call := T.ev k, lams := lams, ns := i.N.length, wl := T.wl } T.nf).s fd.body (EnvIn i.N.length ss pe) with
  | none => rw [t] at hq; exact hq.elim
  | some o =>
    rw [t] at hq
    have e4 : (evN { call := T.ev k, lams := lams, ns := fd.ns, wl := T.wl } T.nf).s fd.body (EnvIn i.N.length ss pe) = some o := by rw [hns]; exact t
    show Got ((evN { call := T.ev k, lams := lams, ns := fd.ns, wl := T.wl } T.nf).s fd.body (EnvIn i.N.length ss pe)) _ _
    rw [e4]
    cases o with
    | exn c env => exact fun G' σ' H' x L' => hq G' σ' H' env x L' rfl rfl
    | ok fl env =>
      cases fl with
      | nx => exact fun G' σ' H' x L' => hq .non G' σ' H' env x (L'.push .non) rfl rfl
      | bk => exact hq.elim
      | rt s =>
        intro v G' σ' H' x L'
        simp only at hq
        by_cases hro : fd.ro = true
        · rw [if_pos hro] at hq
          refine hq v G' σ' H' env x ?_ rfl rfl
          obtain ⟨A1, T1, q1, q2, q3⟩ := L'.reps
          cases q2 with
          | cons q4 q5 => exact { L' with reps := ⟨A1, _, q1, .cons q4.flag q5, q3⟩ }
        · rw [if_neg hro] at hq
          cases td : s.toD with
          | none => rw [td] at hq; exact hq.elim
          | some d =>
            rw [td] at hq
            obtain ⟨G2, x2, L2, r2⟩ := L'.frz td
            exact hq v G2 σ' H' env (x.trans x2) (L2.push r2) rfl rfl
end EV

set_option maxRecDepth 100000
set_option maxHeartbeats 1000000
/-! What a call does to the caller's link. -/
namespace EV
open PySem PySem.Spec PyProof.Rows L2 LamX
/-- the arguments' values; o: the one thing that lies on top -/
inductive ArgsR (W : Wd) (σ : L2.St) (G : Hp) : List Av → List V → Option (V × S) → Prop
  | nil : ArgsR W σ G [] [] none
  | d {x : D} {v : V} {as : List Av} {vs : List V} {o : Option (V × S)} : Rep W G x v → ArgsR W σ G as vs o → ArgsR W σ G (.d x :: as) (v :: vs) o
  | bw {i : Nat} {v : V} {as : List Av} {vs : List V} {o : Option (V × S)} : σ[i]? = some (some v) → ArgsR W σ G as vs o → ArgsR W σ G (.bw i :: as) (v :: vs) o
  | ow {v : V} {s : S} {as : List Av} {vs : List V} : ArgsR W σ G as vs none → ArgsR W σ G (.ow s :: as) (v :: vs) (some (v, s))
theorem ArgsR.ext {W : Wd} {σ : L2.St} {G G' : Hp} (e : ExtN G G') {as : List Av} {vs : List V} {o : Option (V × S)} (h : ArgsR W σ G as vs o) : ArgsR W σ G' as vs o := by
  induction h with
  | nil => exact .nil
  | d r _ ih => exact .d (r.ext e) ih
  | bw r _ ih => exact .bw r ih
  | ow _ ih => exact .ow ih
theorem ArgsR.nolam {W : Wd} {σ : L2.St} {G : Hp} {as : List Av} {vs : List V} {o : Option (V × S)} (h : ArgsR W σ G as vs o) : lamsOf as = [] := by
  induction h with
  | nil => rfl
  | d _ _ ih => exact ih
  | bw _ _ ih => exact ih
  | ow _ ih => exact ih
theorem RepS.pin {W : Wd} {C : List V} {G H : Hp} {s : S} {v : V} {A : List Addr} (h : RepS W C G H s v A) : RepS W C G H (EV.pin s) v A := by
  cases h with
  | d h => exact .d h
  | l h r => exact .l h r
  | mK h k r => exact .mK h k r
  | mT h n k r1 r => exact .mT h n k r1 r
  | o h l r => exact .o h l r
  | clo h => exact .clo h
theorem RepS.reflag {W : Wd} {C : List V} {G H : Hp} {s : S} {v : V} {A : List Addr} {b : Bool} (h : RepS W C G H s v A) : RepS W C G H (EV.reflag b s) v A := by
  cases b with
  | true => exact h.pin
  | false => exact h.flag
theorem repT_app {W : Wd} {C : Cz} {G H : Hp} {t1 t2 : List (V × S)} {A1 A2 : List Addr} (h1 : RepT W C G H t1 A1) (h2 : RepT W C G H t2 A2) : RepT W C G H (t1 ++ t2) (A1 ++ A2) := by
  induction h1 with
  | nil => exact h2
  | cons hs _ ih => rw [List.cons_append, List.append_assoc]; exact .cons hs ih
theorem repT_lk {W : Wd} {C : List V} {lk lk' : Nat → Option (S × V × List Addr)} {G H : Hp} {t : List (V × S)} {T : List Addr} (r : RepT W ⟨C, lk⟩ G H t T) : RepT W ⟨C, lk'⟩ G H t T := by
  induction r with
  | nil => exact .nil
  | cons hs _ ih => exact .cons hs ih
/-- all arguments but one are data -/
theorem args_d {W : Wd} {C : Cz} {σ : L2.St} {G H : Hp} {env : Env} {as : List Av} {vs : List V} (h : ArgsR W σ G as vs none) (hb : bwsOf as = []) : ∀ {ss : List S} {n : Nat}, argS env as n = some ss →
    ss.length = vs.length ∧ RepT W C G H (vs.zip ss) [] ∧ (∀ ss' env', backS as ss' env = some env' → env' = env) := by
  generalize ho : (none : Option (V × S)) = o at h
  induction h with
  | nil => intro ss n e; simp only [argS, Option.some.injEq] at e; subst e; exact ⟨rfl, .nil, fun ss' env' e => by cases ss' with | nil => simp only [backS, Option.some.injEq] at e; exact e.symm | cons _ _ => simp [backS] at e⟩
  | d r _ ih =>
    intro ss n e
    simp only [argS, Option.map_eq_some_iff] at e
    obtain ⟨l, e1, rfl⟩ := e
    obtain ⟨q1, q2, q3⟩ := ih hb ho e1
    refine ⟨by simp [q1], by simpa using RepT.cons (.d r) q2, fun ss' env' e => ?_⟩
    cases ss' with
    | nil => simp [backS] at e
    | cons s ss' => simp only [backS] at e; exact q3 ss' env' e
  | bw r _ ih => simp [bwsOf] at hb
  | ow _ ih => cases ho
theorem args_o {W : Wd} {C : Cz} {σ : L2.St} {G H : Hp} {env : Env} {as : List Av} {vs : List V} {v : V} {s : S} {A0 : List Addr} (h : ArgsR W σ G as vs (some (v, s))) (hb : bwsOf as = []) (hs : RepS W C.cl G H s v A0) : ∀ {ss : List S} {n : Nat}, argS env as n = some ss →
    ss.length = vs.length ∧ RepT W C G H (vs.zip ss) A0 ∧ (∀ ss' env', backS as ss' env = some env' → env' = env) := by
  generalize ho : some (v, s) = o at h
  induction h with
  | nil => cases ho
  | d r _ ih =>
    intro ss n e
    simp only [argS, Option.map_eq_some_iff] at e
    obtain ⟨l, e1, rfl⟩ := e
    obtain ⟨q1, q2, q3⟩ := ih hb ho e1
    refine ⟨by simp [q1], by simpa using RepT.cons (.d r) q2, fun ss' env' e => ?_⟩
    cases ss' with
    | nil => simp [backS] at e
    | cons s ss' => simp only [backS] at e; exact q3 ss' env' e
  | bw r _ ih => simp [bwsOf] at hb
  | ow h2 ih =>
    intro ss n e
    cases ho
    simp only [argS, Option.map_eq_some_iff] at e
    obtain ⟨l, e1, rfl⟩ := e
    obtain ⟨q1, q2, q3⟩ := args_d (C := C) (H := H) h2 hb e1
    refine ⟨by simp [q1], by simpa using RepT.cons hs.pin q2, fun ss' env' e => ?_⟩
    cases ss' with
    | nil => simp [backS] at e
    | cons s ss' => simp only [backS] at e; exact q3 ss' env' e
theorem args_b {W : Wd} {σ : L2.St} {G : Hp} {env : Env} {i : Nat} {as : List Av} {vs : List V} (h : ArgsR W σ G as vs none) (hb : bwsOf as = [i]) : ∀ {ss : List S} {n : Nat}, argS env as n = some ss →
    ∃ (s : S) (v : V) (j : Nat), ss.length = vs.length ∧ env[i]? = some (some s) ∧ ((∀ t, s ≠ .lk t) ∧ ∀ t, s ≠ .clo t) ∧ σ[i]? = some (some v) ∧ vs[j]? = some v ∧ ss[j]? = some (EV.pin s) ∧ (∀ C H A0, RepS W C.cl G H s v A0 → RepT W C G H (vs.zip ss) A0) ∧
      (∀ ss' env', backS as ss' env = some env' → ∃ s', ss'[j]? = some s' ∧ env' = env.set i (some (EV.reflag (flagOf s) s'))) := by
  generalize ho : (none : Option (V × S)) = o at h
  induction h with
  | nil => simp [bwsOf] at hb
  | d r _ ih =>
    intro ss n e
    simp only [argS, Option.map_eq_some_iff] at e
    obtain ⟨l, e1, rfl⟩ := e
    obtain ⟨s, v, j, q1, q2, q2', q3, q4, q5, q6, q7⟩ := ih hb ho e1
    refine ⟨s, v, j + 1, by simp [q1], q2, q2', q3, by simpa using q4, by simpa using q5, fun C H A0 hs => by simpa using RepT.cons (.d r) (q6 C H A0 hs), fun ss' env' e => ?_⟩
    cases ss' with
    | nil => simp [backS] at e
    | cons s ss' => simp only [backS] at e; obtain ⟨s', z1, z2⟩ := q7 ss' env' e; exact ⟨s', by simpa using z1, z2⟩
  | bw r h2 ih =>
    rename_i i' v as vs o
    intro ss n e
    simp only [bwsOf, List.cons.injEq] at hb
    obtain ⟨rfl, hb⟩ := hb
    subst ho
    cases t : env[i']? with
    | none => simp only [argS, t] at e; cases e
    | some oo =>
      cases oo with
      | none => simp only [argS, t] at e; cases e
      | some s =>
        have e : (match (s : S) with | .lk _ => none | .clo _ => none | s => (argS env as n).map fun l => EV.pin s :: l) = some ss := by
          simp only [argS, t] at e
          cases s <;> simpa using e
        have hne : (∀ t, s ≠ .lk t) ∧ ∀ t, s ≠ .clo t := ⟨fun t z => (by subst z; cases e), fun t z => (by subst z; cases e)⟩
        have e : (argS env as n).map (fun l => EV.pin s :: l) = some ss := by
          cases s <;> first | exact e | exact absurd rfl (hne.1 _) | exact absurd rfl (hne.2 _)
        obtain ⟨l, e1, rfl⟩ := Option.map_eq_some_iff.mp e
        obtain ⟨q1, q2, q3⟩ := args_d (C := ⟨[], fun _ => none⟩) (H := G) h2 hb e1
        refine ⟨s, v, 0, by simp [q1], rfl, hne, r, rfl, rfl, fun C H A0 hs => ?_, fun ss' env' e => ?_⟩
        · obtain ⟨_, q2', _⟩ := args_d (C := C) (H := H) h2 hb e1
          simpa using RepT.cons hs.pin q2'
        · cases ss' with
          | nil => simp [backS] at e
          | cons s' ss' =>
            simp only [backS, t] at e
            refine ⟨s', rfl, ?_⟩
            have key : ∀ {as : List Av} {vs : List V} {o : Option (V × S)}, ArgsR W σ G as vs o → bwsOf as = [] → ∀ {ss' : List S} {e e' : Env}, backS as ss' e = some e' → e' = e := by
              intro as vs o h
              induction h with
              | nil => intro _ ss' e e' h; cases ss' with | nil => simp only [backS, Option.some.injEq] at h; exact h.symm | cons _ _ => simp [backS] at h
              | d _ _ ih => intro hb ss' e e' h; cases ss' with | nil => simp [backS] at h | cons _ _ => simp only [backS] at h; exact ih hb h
              | bw _ _ _ => intro hb; simp [bwsOf] at hb
              | ow _ ih => intro hb ss' e e' h; cases ss' with | nil => simp [backS] at h | cons _ _ => simp only [backS] at h; exact ih hb h
            exact key h2 hb e
  | ow _ ih => cases ho
section
variable {W : Wd} {B : Bs} {C : List V} {n : Nat} {σp : L2.St} {G G' : Hp} {σ σf σpf : L2.St} {H H' : Hp} {env envf : Env} {tmp tmpf : List (V × S)} {A T A0 : List Addr} {pl : List (Nat × V)} {lkf : Nat → Option (S × V × List Addr)} {Cf : List V} {nf : Nat}
/-- what was not lent is as it was -/
theorem Link.kept (h1 : RepE W ⟨C, B.lk⟩ G H 0 (σ ++ σp) env A) (h2 : RepT W ⟨C, B.lk⟩ G H tmp T) (gf : ∀ a ∈ A ++ T, G a = none) (Lf : Link W ⟨H, A0, G, pl, lkf⟩ Cf nf σpf G' σf H' envf tmpf) : ∀ a ∈ A ++ T, a ∉ A0 → H' a = H a ∧ G' a = none := fun a ha hn => by
  have ⟨o, e, nt⟩ : ∃ o, H a = some o ∧ ∀ ps, o ≠ .tbl ps := by
    rcases List.mem_append.mp ha with z | z
    · exact h1.tracked a z
    · exact h2.tracked a z
  refine ⟨?_, ?_⟩
  · rcases Lf.frm a o e hn with z | ⟨ps, _, z, _⟩
    · rw [z, e]
    · exact absurd z (nt ps)
  · cases q : G' a with
    | none => rfl
    | some o' =>
      rcases Lf.gnew a o' q with z | z | z
      · have z : G a = some o' := z
        rw [gf a ha] at z; cases z
      · have z : H a = none := z
        rw [e] at z; cases z
      · exact absurd z hn
theorem Link.fin (L : Link W B C n σp G σ H env tmp) (r1 : RepE W ⟨C, B.lk⟩ G H 0 (σ ++ σp) env A) (r2 : RepT W ⟨C, B.lk⟩ G H tmp T) (ho : ∀ a ∈ A ++ T, B.H0 a = none ∨ a ∈ B.A0) (sA : ∀ a ∈ A0, a ∈ A ++ T)
    (Lf : Link W ⟨H, A0, G, pl, lkf⟩ Cf nf σpf G' σf H' envf tmpf) {env' : Env} {A' : List Addr} {tmp' : List (V × S)} {T' : List Addr} (h1 : RepE W ⟨C, B.lk⟩ G' H' 0 (σ ++ σp) env' A') (h2 : RepT W ⟨C, B.lk⟩ G' H' tmp' T')
    (nd : (A' ++ T').Nodup) (gf : ∀ a ∈ A' ++ T', G' a = none) (hn : ∀ a ∈ A' ++ T', a ∈ A ++ T ∨ H a = none) (hp : ∀ q ∈ B.pl, (σ ++ σp)[q.1]? = some (some q.2) ∧ ∃ s, env'[q.1]? = some (some s) ∧ pinned s = true) : Link W B C n σp G' σ H' env' tmp' :=
  L.tr r1 r2 ho h1 h2 nd gf hn Lf.sub Lf.tabs (fun b o e nb => Lf.frm b o e fun z => nb (sA b z)) (fun b o e => (Lf.gnew b o e).imp id fun z => z.imp id fun z => sA b z) Lf.gold Lf.gnt L.len hp
/-- the callee's frame at its start -/
theorem repE_args {W : Wd} {Cz : Cz} {G H : Hp} : ∀ {vs : List V} {ss : List S} {A0 : List Addr} {i : Nat} {τ : L2.St} {e : Env} {A1 : List Addr}, ss.length = vs.length → RepT W Cz G H (vs.zip ss) A0 → RepE W Cz G H (i + vs.length) τ e A1 → RepE W Cz G H i (vs.map some ++ τ) (ss.map some ++ e) (A0 ++ A1)
  | [], [], _, _, _, _, _, _, .nil, r => r
  | [], _ :: _, _, _, _, _, _, hl, _, _ => by simp at hl
  | _ :: _, [], _, _, _, _, _, hl, _, _ => by simp at hl
  | v :: vs, s :: ss, _, i, τ, e, A1, hl, .cons hs ht, r => by
    rw [List.append_assoc]
    exact .yes hs (repE_args (i := i + 1) (by simpa using hl) ht (by rw [show i + 1 + vs.length = i + (v :: vs).length by simp; omega]; exact r))
theorem repE_nones {W : Wd} {Cz : Cz} {G H : Hp} {τ : L2.St} {e : Env} {A1 : List Addr} : ∀ {m i : Nat}, RepE W Cz G H (i + m) τ e A1 → RepE W Cz G H i (List.replicate m none ++ τ) (List.replicate m none ++ e) A1
  | 0, i, r => by simpa using r
  | m + 1, i, r => by
    rw [List.replicate_succ, List.replicate_succ]
    exact .no (repE_nones (i := i + 1) (by rw [show i + 1 + m = i + (m + 1) by omega]; exact r))
theorem Link.start0 {i : FnI} {vs : List V} {ss : List S} (L : Link W B C n σp G σ H env tmp) (hl : ss.length = vs.length) (hle : vs.length ≤ i.N.length) (r : RepT W ⟨C, fun _ => none⟩ G H (vs.zip ss) A0) (nd : A0.Nodup) (gf : ∀ a ∈ A0, G a = none)
    (hp : ∀ q ∈ pl, vs[q.1]? = some q.2 ∧ ∃ s, ss[q.1]? = some s ∧ pinned s = true) : Link W ⟨H, A0, G, pl, fun _ => none⟩ C i.N.length [] G (start i.N vs) H (EnvIn i.N.length ss []) [] where
  reps := ⟨A0, [], by
    have q := repE_args (i := 0) hl r (repE_nones (m := i.N.length - vs.length) (i := 0 + vs.length) (τ := []) (e := []) .nil)
    rw [List.append_nil] at q
    unfold L2.start EnvIn
    rw [hl]
    simpa using q, .nil, by simpa using nd, by simpa using gf, fun a ha => .inr (by simpa using ha)⟩
  sub := L.sub
  tabs := L.tabs
  frm := fun b o e _ => .inl e
  gnew := fun b o e => .inl e
  gold := ExtN.refl G
  gnt := L.gnt
  len := by unfold L2.start; simp; omega
  lcs := fun i s v A e => by cases e
  pins := fun q hq => by
    obtain ⟨h1, s, h2, h3⟩ := hp q hq
    have hlt := (List.getElem?_eq_some_iff.mp h1).1
    refine ⟨?_, s, ?_, h3⟩
    · unfold L2.start
      rw [List.append_nil, List.getElem?_append_left (by simpa using hlt), List.getElem?_map, h1]; rfl
    · unfold EnvIn
      have hlt2 := (List.getElem?_eq_some_iff.mp h2).1
      rw [List.append_assoc, List.getElem?_append_left (by simpa using hlt2), List.getElem?_map, h2]; rfl
end
end EV

set_option maxRecDepth 100000
set_option maxHeartbeats 1000000
/-! Lending to a callee and getting back. -/
namespace EV
open PySem PySem.Spec PyProof.Rows L2 LamX
section
variable {W : Wd} {B : Bs} {C : List V} {n : Nat} {σp : L2.St} {G : Hp} {σ : L2.St} {H : Hp} {env : Env} {tmp o : List (V × S)} {i : Nat} {s : S}
/-- what lies on top is lent, and used up -/
theorem Link.lendTop (L : Link W B C n σp G σ H env (o ++ tmp)) : ∃ A0, A0.Nodup ∧ (∀ a ∈ A0, G a = none) ∧ RepT W ⟨C, B.lk⟩ G H o A0 ∧
    ∀ {pl : List (Nat × V)} {lkf : Nat → Option (S × V × List Addr)} {nf : Nat} {σpf : L2.St} {G' : Hp} {σf : L2.St} {H' : Hp} {envf : Env} {res : List (V × S)}, Link W ⟨H, A0, G, pl, lkf⟩ C nf σpf G' σf H' envf res → Link W B C n σp G' σ H' env (res ++ tmp) := by
  obtain ⟨A, T, h1, h2, nd, gf, ho⟩ := L.reps
  obtain ⟨T0, T1, rfl, t0, t1⟩ := h2.split
  have n0 := nodup_swap nd
  have nd0 : T0.Nodup := (List.nodup_append.mp (List.nodup_append.mp nd).2.1).1
  refine ⟨T0, nd0, fun a ha => gf a (by simp only [List.mem_append]; exact .inr (.inl ha)), t0, fun {pl lkf nf σpf G' σf H' envf res} Lf => ?_⟩
  have kp := Link.kept (B := B) h1 h2 gf Lf
  have mm : ∀ a, a ∈ A ++ T1 → a ∈ A ++ (T0 ++ T1) := fun a ha => mem_mid ha
  have off : ∀ a, a ∈ A ++ T1 → a ∉ T0 := fun a ha z => n0.2 a z ha
  obtain ⟨A2, T2, k1, k2, knd, kgf, kb⟩ := Lf.reps
  have hld := L.held h1 h2
  have new2 : ∀ a ∈ T2, a ∉ A ++ T1 := fun a ha z => by
    rcases kb a (List.mem_append_right _ ha) with y | y
    · obtain ⟨u, e⟩ := hld a (mm a z)
      have y : H a = none := y
      rw [e] at y; cases y
    · exact off a z y
  refine L.fin h1 h2 ho (fun a ha => by simp only [List.mem_append]; exact .inr (.inl ha)) Lf (h1.keep Lf.gold fun a ha => (kp a (List.mem_append_left _ ha) (off a (List.mem_append_left _ ha))).1)
    (repT_app (repT_lk k2) (t1.keep Lf.gold fun a ha => (kp a (mm a (List.mem_append_right _ ha)) (off a (List.mem_append_right _ ha))).1)) ?_ (fun a ha => ?_) (fun a ha => ?_) L.pins
  · have p : (A ++ (T2 ++ T1)).Perm (T2 ++ (A ++ T1)) := by
      rw [List.perm_iff_count]; intro a; simp only [List.count_append]; omega
    rw [p.nodup_iff, List.nodup_append]
    exact ⟨(List.nodup_append.mp knd).2.1, n0.1, fun x hx y hy e => by subst e; exact new2 x hx hy⟩
  · simp only [List.mem_append] at ha
    rcases ha with z | z | z
    · exact (kp a (List.mem_append_left _ z) (off a (List.mem_append_left _ z))).2
    · exact kgf a (List.mem_append_right _ z)
    · exact (kp a (mm a (List.mem_append_right _ z)) (off a (List.mem_append_right _ z))).2
  · simp only [List.mem_append] at ha
    rcases ha with z | z | z
    · exact .inl (List.mem_append_left _ z)
    · rcases kb a (List.mem_append_right _ z) with y | y
      · exact .inr y
      · exact .inl (by simp only [List.mem_append]; exact .inr (.inl y))
    · exact .inl (mm a (List.mem_append_right _ z))
/-- a slot's thing is lent, and comes back -/
theorem Link.lendSlot (L : Link W B C n σp G σ H env tmp) (h : env[i]? = some (some s)) (ho : owned s = true) (hi : i < n) : ∃ v A0, σ[i]? = some (some v) ∧ A0.Nodup ∧ (∀ a ∈ A0, G a = none) ∧ RepS W C G H s v A0 ∧
    ∀ {pl : List (Nat × V)} {nf : Nat} {G' : Hp} {σf : L2.St} {H' : Hp} {envf : Env} {res : List (V × S)} {j : Nat} {s' : S}, (j, v) ∈ pl → Link W ⟨H, A0, G, pl, fun _ => none⟩ C nf [] G' σf H' envf res → envf[j]? = some (some s') →
      Link W B C n σp G' σ H' (env.set i (some (EV.reflag (flagOf s) s'))) (res ++ tmp) := by
  obtain ⟨A, T, h1, h2, nd, gf, hb⟩ := L.reps
  obtain ⟨X, A0, Y, e1, q1, _, _, q5, _, _⟩ := h1.part h
  obtain ⟨v, hv, hr⟩ := q1 s rfl
  have hr : RepS W C G H s v A0 := hr.resolve_right fun ⟨t, e⟩ => by subst e; cases ho
  have hv' := hv
  rw [List.getElem?_append_left (by rw [L.len]; exact hi)] at hv
  subst e1
  have n0 := nodup_swap (show (X ++ (A0 ++ (Y ++ T))).Nodup by simpa using nd)
  have ndA0 : A0.Nodup := (List.nodup_append.mp (List.nodup_append.mp (show (X ++ (A0 ++ (Y ++ T))).Nodup by simpa using nd)).2.1).1
  have memA0 : ∀ a ∈ A0, a ∈ (X ++ (A0 ++ Y)) ++ T := fun a ha => by simp only [List.mem_append]; exact .inl (.inr (.inl ha))
  refine ⟨v, A0, hv, ndA0, fun a ha => gf a (memA0 a ha), hr, fun {pl nf G' σf H' envf res j s'} hj Lf hs' => ?_⟩
  have kp := Link.kept (B := B) h1 h2 gf Lf
  have mm : ∀ a, a ∈ (X ++ Y) ++ T → a ∈ (X ++ (A0 ++ Y)) ++ T := fun a ha => by simp only [List.mem_append] at ha ⊢; grind
  have off : ∀ a, a ∈ (X ++ Y) ++ T → a ∉ A0 := fun a ha z => n0.2 a z (by simpa using ha)
  obtain ⟨A2, T2, k1, k2, knd, kgf, kb⟩ := Lf.reps
  obtain ⟨p1, t, p2, p3⟩ := Lf.pins (j, v) hj
  rw [hs'] at p2
  cases p2
  have hjn : j < σf.length := by
    have := (List.getElem?_eq_some_iff.mp p1).1
    simpa using this
  obtain ⟨X2, A3, Y2, f1, f2, _⟩ := k1.part hs'
  obtain ⟨v3, hv3, hr3⟩ := f2 s' rfl
  rw [p1] at hv3
  cases hv3
  have hr3 : RepS W C G' H' s' v A3 := by
    rcases hr3 with z | ⟨t, e⟩
    · exact z
    · subst e
      exfalso
      have lkno : ∀ {m : Nat} {σ : L2.St} {env : Env} {A : List Addr} {i : Nat} {t : S}, RepE W ⟨C, fun _ => none⟩ G' H' m σ env A → env[i]? = some (some (.lk t)) → False := by
        intro m σ env A i t r
        induction r generalizing i with
        | nil => intro h; simp at h
        | no _ ih => intro h; cases i with
          | zero => simp at h
          | succ i => exact ih (i := i) (by simpa using h)
        | yes hs _ ih => intro h; cases i with
          | zero => simp at h; subst h; cases hs
          | succ i => exact ih (i := i) (by simpa using h)
        | lk h1 _ ih => cases h1
      exact lkno k1 hs'
  subst f1
  have hld := L.held h1 h2
  have mem2 : ∀ a, a ∈ A3 → a ∈ (X2 ++ (A3 ++ Y2)) ++ T2 := fun a ha => by simp only [List.mem_append]; exact .inl (.inr (.inl ha))
  have newx : ∀ a, a ∈ (X2 ++ (A3 ++ Y2)) ++ T2 → a ∉ (X ++ Y) ++ T := fun a ha z => by
    rcases kb a ha with y | y
    · obtain ⟨u, e⟩ := hld a (mm a z)
      have y : H a = none := y
      rw [e] at y; cases y
    · exact off a z y
  have r5 : RepE W ⟨C, B.lk⟩ G' H' 0 (σ ++ σp) (env.set i none) (X ++ Y) := q5.keep Lf.gold fun a ha => (kp a (mm a (List.mem_append_left _ ha)) (off a (List.mem_append_left _ ha))).1
  have hlt := (List.getElem?_eq_some_iff.mp h).1
  obtain ⟨X4, A4, Y4, g1, _, g3, _, _, g6, _⟩ := r5.part (o := none) (List.getElem?_set_self hlt)
  have g3 := g3 rfl
  subst g3
  have ins := g6 (EV.reflag (flagOf s) s') v A3 hv' hr3.reflag
  rw [List.set_set] at ins
  have m4 : ∀ a, a ∈ X4 ++ (A3 ++ Y4) ↔ a ∈ A3 ∨ a ∈ X ++ Y := fun a => by
    rw [g1]; simp only [List.mem_append, List.nil_append]; grind
  refine L.fin h1 h2 hb memA0 Lf ins (repT_app (repT_lk k2) (RepT.keep (H' := H') Lf.gold h2 fun a ha => (kp a (List.mem_append_right _ ha) (off a (List.mem_append_right _ ha))).1)) ?_ (fun a ha => ?_) (fun a ha => ?_) ?_
  · have p : ((X4 ++ (A3 ++ Y4)) ++ (T2 ++ T)).Perm ((A3 ++ T2) ++ ((X4 ++ ([] ++ Y4)) ++ T)) := by
      rw [List.perm_iff_count]; intro a; simp only [List.count_append, List.count_nil]; omega
    rw [p.nodup_iff, ← g1, List.nodup_append]
    refine ⟨?_, by simpa using n0.1, fun x hx y hy e => ?_⟩
    · have n2 := nodup_swap (show (X2 ++ (A3 ++ (Y2 ++ T2))).Nodup by simpa using knd)
      rw [List.nodup_append]
      refine ⟨(List.nodup_append.mp (List.nodup_append.mp (show (X2 ++ (A3 ++ (Y2 ++ T2))).Nodup by simpa using knd)).2.1).1, (List.nodup_append.mp knd).2.1, fun x hx y hy e => ?_⟩
      subst e
      exact n2.2 x hx (by simp only [List.mem_append]; exact .inr (.inr hy))
    · subst e
      exact newx x (by simp only [List.mem_append] at hx ⊢; grind) hy
  · rcases List.mem_append.mp ha with z | z
    · rcases (m4 a).mp z with y | y
      · exact kgf a (mem2 a y)
      · exact (kp a (mm a (List.mem_append_left _ y)) (off a (List.mem_append_left _ y))).2
    · rcases List.mem_append.mp z with y | y
      · exact kgf a (List.mem_append_right _ y)
      · exact (kp a (mm a (List.mem_append_right _ y)) (off a (List.mem_append_right _ y))).2
  · have fromF : ∀ a, a ∈ (X2 ++ (A3 ++ Y2)) ++ T2 → a ∈ (X ++ (A0 ++ Y)) ++ T ∨ H a = none := fun a ha => by
      rcases kb a ha with y | y
      · exact .inr y
      · exact .inl (memA0 a y)
    rcases List.mem_append.mp ha with z | z
    · rcases (m4 a).mp z with y | y
      · exact fromF a (mem2 a y)
      · exact .inl (mm a (List.mem_append_left _ y))
    · rcases List.mem_append.mp z with y | y
      · exact fromF a (List.mem_append_right _ y)
      · exact .inl (mm a (List.mem_append_right _ y))
  · refine pins_same L.pins h fun hp => ?_
    cases s with
    | l b xs => cases b with
      | true => cases s' <;> first | rfl | exact p3
      | false => cases hp
    | m b ks xs => cases b with
      | true => cases s' <;> first | rfl | exact p3
      | false => cases hp
    | o b c xs => cases b with
      | true => cases s' <;> first | rfl | exact p3
      | false => cases hp
    | _ => cases ho
end
end EV

set_option maxRecDepth 100000
set_option maxHeartbeats 1000000
/-! Calls. -/
namespace EV
open PySem PySem.Spec PyProof.Rows L2 LamX
theorem specs_zero {as : List Av} : specs as = 0 → bwsOf as = [] := by
  induction as with
  | nil => intro _; rfl
  | cons a r ih => cases a <;> simp [specs, bwsOf] <;> exact ih
theorem specs_one {W : Wd} {σ : L2.St} {G : Hp} {as : List Av} {vs : List V} {o : Option (V × S)} (h : ArgsR W σ G as vs o) : specs as ≤ 1 → (bwsOf as = [] ∨ (o = none ∧ ∃ i, bwsOf as = [i])) := by
  induction h with
  | nil => exact fun _ => .inl rfl
  | d _ _ ih => exact ih
  | @bw i v as vs o _ h2 ih =>
    intro hs
    have hs : specs as + 1 ≤ 1 := hs
    have h0 : bwsOf as = [] := specs_zero (by omega)
    refine .inr ⟨?_, i, by simp only [bwsOf, h0]⟩
    clear ih
    have key : ∀ {as : List Av} {vs : List V} {o : Option (V × S)}, ArgsR W σ G as vs o → specs as = 0 → o = none := by
      intro as vs o h
      induction h with
      | nil => exact fun _ => rfl
      | d _ _ ih => exact ih
      | bw _ _ ih => intro h; simp [specs] at h
      | ow _ ih => intro h; simp [specs] at h
    exact key h2 (by omega)
  | @ow v s as vs h2 ih =>
    intro hs
    have hs : specs as + 1 ≤ 1 := hs
    exact .inl (specs_zero (as := as) (by omega))
theorem asOf_get {ss : List S} {env : Env} {j : Nat} {s s' : S} (h : ss[j]? = some s) (hp : pinned s = true) (he : env[j]? = some (some s')) : (asOf ss env)[j]? = some s' := by
  have hlt := (List.getElem?_eq_some_iff.mp h).1
  unfold asOf
  rw [List.getElem?_map, List.getElem?_range hlt]
  simp [h, hp, he]
theorem asOf_data {ss : List S} {env : Env} {j : Nat} {s : S} (h : ss[j]? = some s) (hp : pinned s = false) : (asOf ss env)[j]? = some s := by
  have hlt := (List.getElem?_eq_some_iff.mp h).1
  unfold asOf
  rw [List.getElem?_map, List.getElem?_range hlt]
  simp [h, hp]
section
variable {T : Tb} {g : GX} {X : Cx} {p : Pt} {k : Nat} {cx : CX}
theorem call_ok (h : Rd T g X p k cx) {f : Nat} {i : FnI} (hi : T.fi f = some i) {B : Bs} {G : Hp} {σ : L2.St} {H : Hp} {env : Env} {tmp : List (V × S)} {o : Option (V × S)} {as : List Av} {vs : List V} {Q : VK} {E : XK}
    (L : Link p.W B p.C p.n p.σp G σ H env (o.toList ++ tmp)) (ha : ArgsR p.W σ G as vs o)
    (q : Got (callR cx f as env) (fun s e => ∀ v G' H', ExtN G G' → Link p.W B p.C p.n p.σp G' σ H' e ((v, s) :: tmp) → Q v H') fun c e => ∀ G' H', ExtN G G' → Link p.W B p.C p.n p.σp G' σ H' e tmp → E (.ref (p.W.exc c)) none H') :
    ∀ A outer s, spF p.W X.mg X.base T f i k A outer s vs H Q E := by
  intro A outer sh
  unfold callR at q
  have hl := ha.nolam
  have hc : (decide (specs as ≤ 1) && ((bwsOf as).isEmpty || (lamsOf as).isEmpty) && ((lamsOf as).isEmpty || (noCloE env && decide (env.length = cx.ns)))) = true := by
    by_cases hc : (decide (specs as ≤ 1) && ((bwsOf as).isEmpty || (lamsOf as).isEmpty) && ((lamsOf as).isEmpty || (noCloE env && decide (env.length = cx.ns)))) = true
    · exact hc
    · rw [if_neg hc] at q; exact q.elim
  rw [if_pos hc] at q
  rw [Bool.and_eq_true, Bool.and_eq_true] at hc
  have hs : specs as ≤ 1 := by simpa using hc.1.1
  cases t : argS env as 0 with
  | none => rw [t] at q; exact q.elim
  | some ss =>
    rw [t, hl] at q
    simp only [List.isEmpty_nil, if_true] at q
    rw [h.hc] at q
    cases k with
    | zero => exact q.elim
    | succ k =>
      cases t2 : T.ev (k + 1) f ss [] [] with
      | none => rw [t2] at q; exact q.elim
      | some r =>
        rw [t2] at q
        obtain ⟨np, le, _⟩ := h.so (k + 1) (Nat.le_refl _) f i hi
        have hss := np _ _ _ _ t2
        rcases specs_one ha hs with hb | ⟨rfl, i0, hb⟩
        · -- data, or one thing on top
          obtain ⟨A0, nd, gf, rt, back⟩ := L.lendTop
          have ⟨e1, e2, e3⟩ : ss.length = vs.length ∧ RepT p.W ⟨p.C, fun _ => none⟩ G H (vs.zip ss) A0 ∧ (∀ ss' env', backS as ss' env = some env' → env' = env) := by
            cases o with
            | none =>
              cases rt
              exact args_d ha hb t
            | some vs0 =>
              have rt : RepT p.W ⟨p.C, B.lk⟩ G H [vs0] A0 := rt
              cases rt with
              | cons hs0 h0 =>
                cases h0
                rw [List.append_nil]
                exact args_o (C := ⟨p.C, fun _ => none⟩) ha hb hs0 t
          refine ⟨p.C, [], ⟨H, A0, G, [], fun _ => none⟩, G, ss, [], [], by rw [← e1]; exact hss, e1, L.start0 e1 (by rw [← e1, hss]; exact le) e2 nd gf (fun q hq => by cases hq), fun j l hj => by simp at hj, ?_⟩
          rw [t2]
          cases r with
          | ok r as' pe =>
            intro v G' σ' H' env' x Lf he hpe
            replace q := (show Got ((backS as as' env).map fun e => Out.ok r e) _ _ from q)
            cases t3 : backS as as' env with
            | none => rw [t3] at q; exact q.elim
            | some e4 =>
              rw [t3] at q
              obtain rfl := e3 _ _ t3
              exact (Got.okV q) v G' H' x (back Lf)
          | exn c as' pe =>
            intro G' σ' H' env' x Lf he hpe
            replace q := (show Got ((backS as as' env).map fun e => Out.exn c e) _ _ from q)
            cases t3 : backS as as' env with
            | none => rw [t3] at q; exact q.elim
            | some e4 =>
              rw [t3] at q
              obtain rfl := e3 _ _ t3
              exact (show ∀ G' H', ExtN G G' → Link p.W B p.C p.n p.σp G' σ H' e4 tmp → _ from q) G' H' x (back Lf)
        · obtain ⟨s, v0, j, e1, e2, ⟨ne1, ne2⟩, e3, e4, e5, e6, e7⟩ := args_b ha hb t
          have L : Link p.W B p.C p.n p.σp G σ H env tmp := L
          have hi0 : i0 < p.n := by rw [← L.len]; exact (List.getElem?_eq_some_iff.mp e3).1
          by_cases ho : owned s = true
          · obtain ⟨v, A0, hv, nd, gf, hr, back⟩ := L.lendSlot e2 ho hi0
            rw [e3] at hv
            cases hv
            have hpin : pinned (EV.pin s) = true := by cases s <;> first | rfl | cases ho
            refine ⟨p.C, [], ⟨H, A0, G, [(j, v0)], fun _ => none⟩, G, ss, [], [], by rw [← e1]; exact hss, e1, L.start0 e1 (by rw [← e1, hss]; exact le) (e6 ⟨p.C, fun _ => none⟩ H A0 hr) nd gf (fun q hq => ?_), fun j l hj => by simp at hj, ?_⟩
            · cases hq with
              | head => exact ⟨e4, _, e5, hpin⟩
              | tail _ z => cases z
            rw [t2]
            cases r with
            | ok r as' pe =>
              intro v G' σ' H' env' x Lf he hpe
              replace q := (show Got ((backS as as' env).map fun e => Out.ok r e) _ _ from q)
              obtain ⟨_, s', p2, _⟩ := Lf.pins (j, v0) (by simp)
              cases t3 : backS as as' env with
              | none => rw [t3] at q; exact q.elim
              | some e8 =>
                rw [t3] at q
                obtain ⟨s2, z1, rfl⟩ := e7 _ _ t3
                rw [he, asOf_get e5 hpin p2] at z1
                cases z1
                exact (Got.okV q) v G' H' x (back (by simp) Lf p2)
            | exn c as' pe =>
              intro G' σ' H' env' x Lf he hpe
              replace q := (show Got ((backS as as' env).map fun e => Out.exn c e) _ _ from q)
              obtain ⟨_, s', p2, _⟩ := Lf.pins (j, v0) (by simp)
              cases t3 : backS as as' env with
              | none => rw [t3] at q; exact q.elim
              | some e8 =>
                rw [t3] at q
                obtain ⟨s2, z1, rfl⟩ := e7 _ _ t3
                rw [he, asOf_get e5 hpin p2] at z1
                cases z1
                exact (show ∀ G' H', ExtN G G' → Link p.W B p.C p.n p.σp G' σ H' _ tmp → _ from q) G' H' x (back (by simp) Lf p2)
          · cases s with
            | d x =>
              obtain ⟨A0, nd, gf, rt, back⟩ := Link.lendTop (o := []) L
              cases rt
              obtain ⟨v', A1, hv', hr'⟩ := L.getU e2 hi0
              rw [e3] at hv'
              cases hv'
              have hr' : RepS p.W p.C G H (.d x) v0 A1 := hr'
              have hA : A1 = [] := by cases hr'; rfl
              subst hA
              refine ⟨p.C, [], ⟨H, [], G, [], fun _ => none⟩, G, ss, [], [], by rw [← e1]; exact hss, e1, L.start0 e1 (by rw [← e1, hss]; exact le) (e6 ⟨p.C, fun _ => none⟩ H [] hr') nd gf (fun q hq => by cases hq), fun j l hj => by simp at hj, ?_⟩
              rw [t2]
              have same : env.set i0 (some (EV.reflag (flagOf (S.d x)) (S.d x))) = env := by
                apply List.ext_getElem?
                intro m
                by_cases hm : i0 = m
                · subst hm
                  rw [List.getElem?_set_self (List.getElem?_eq_some_iff.mp e2).1, e2]; rfl
                · rw [List.getElem?_set_ne hm]
              cases r with
              | ok r as' pe =>
                intro v G' σ' H' env' x' Lf he hpe
                replace q := (show Got ((backS as as' env).map fun e => Out.ok r e) _ _ from q)
                cases t3 : backS as as' env with
                | none => rw [t3] at q; exact q.elim
                | some e8 =>
                  rw [t3] at q
                  obtain ⟨s2, z1, rfl⟩ := e7 _ _ t3
                  rw [he, asOf_data e5 rfl] at z1
                  cases z1
                  have q := (Got.okV q) v G' H' x'
                  rw [show EV.pin (S.d x) = S.d x from rfl, same] at q
                  exact q (back Lf)
              | exn c as' pe =>
                intro G' σ' H' env' x' Lf he hpe
                replace q := (show Got ((backS as as' env).map fun e => Out.exn c e) _ _ from q)
                cases t3 : backS as as' env with
                | none => rw [t3] at q; exact q.elim
                | some e8 =>
                  rw [t3] at q
                  obtain ⟨s2, z1, rfl⟩ := e7 _ _ t3
                  rw [he, asOf_data e5 rfl] at z1
                  cases z1
                  have q := (show ∀ G' H', ExtN G G' → Link p.W B p.C p.n p.σp G' σ H' _ tmp → _ from q) G' H' x'
                  rw [show EV.pin (S.d x) = S.d x from rfl, same] at q
                  exact q (back Lf)
            | l => exact absurd rfl ho
            | m => exact absurd rfl ho
            | o => exact absurd rfl ho
            | clo c => exact absurd rfl (ne2 c)
            | lk c => exact absurd rfl (ne1 c)
/-! ### arguments -/
def tAs (p : Pt) (f : Env → R (List Av)) : TA := fun σ H Q => ∃ B G env tmp, Link p.W B p.C p.n p.σp G σ H env tmp ∧
  Got (f env) (fun as env' => ∀ vs (o : Option (V × S)) G' H', ExtN G G' → Link p.W B p.C p.n p.σp G' σ H' env' (o.toList ++ tmp) → ArgsR p.W σ G' as vs o → Q vs H') fun c env' => ∀ G' H' pre, ExtN G G' → Link p.W B p.C p.n p.σp G' σ H' env' (pre ++ tmp) → p.Wx (.ref (p.W.exc c)) none σ H'
def AAs (X : Cx) (p : Pt) (cx : CX) (es : List Expr) (as : List IA) : Prop := ∀ n, PA X es (tAs p (evAs (evN cx n) as))
/-- only data from here on -/
def dataOnly : List IA → Bool
  | [] => true
  | .e _ :: r => dataOnly r
  | _ => false
theorem data_no {r : EvR} {W : Wd} {σ : L2.St} {G : Hp} : ∀ {xs : List IA} {env env' : Env} {as : List Av} {vs : List V} {o : Option (V × S)}, dataOnly xs = true → evAs r xs env = some (.ok as env') → ArgsR W σ G as vs o → o = none
  | [], _, _, _, _, _, _, h, a => by simp only [evAs] at h; cases h; cases a; rfl
  | .e x :: xs, env, env', as, vs, o, hd, h, a => by
    simp only [evAs] at h
    cases q : evD r x env with
    | none => rw [q] at h; cases h
    | some oo => cases oo with
      | exn c e => rw [q] at h; cases h
      | ok d e1 =>
        rw [q] at h
        have h : (evAs r xs e1).bind (fun ds env'' => some (.ok (.d d :: ds) env'')) = some (.ok as env') := h
        cases q2 : evAs r xs e1 with
        | none => rw [q2] at h; cases h
        | some oo => cases oo with
          | exn c e => rw [q2] at h; cases h
          | ok as2 e2 =>
            rw [q2] at h
            cases h
            cases a with
            | d _ a => exact data_no (xs := xs) hd q2 a
  | .ow _ :: _, _, _, _, _, _, hd, _, _ => by cases hd
  | .bw _ :: _, _, _, _, _, _, hd, _, _ => by cases hd
  | .lam _ _ :: _, _, _, _, _, _, hd, _, _ => by cases hd
variable {e e1 e2 : Expr} {es : List Expr} {pos pos2 pos3 : Pos}
theorem aas_nil : AAs X p cx [] [] := fun n => pa_imp pa_nil fun σ H Q q => by
  obtain ⟨B, G, env, tmp, L, q⟩ := q
  exact q [] none G H (ExtN.refl G) L .nil
theorem aas_e {x : IE} {xs : List IA} (he : AE X p cx e x) (hs : AAs X p cx es xs) (hst : noStar e = true := by rfl) : AAs X p cx (e :: es) (.e x :: xs) := fun n => pa_imp (pa_cons (pe_D (he n)) (hs n) (star_cons hst)) fun σ H Q q => by
  obtain ⟨B, G, env, tmp, L, q⟩ := q
  refine ⟨B, G, env, tmp, L, ?_⟩
  have q := Got.bind (show Got ((evD (evN cx n) x env).bind _) _ _ from q)
  refine q.imp (fun d env' q v G' H' x1 L1 r1 => ?_) fun c env' q G' H' x1 L1 => q G' H' [] x1 L1
  refine ⟨B, G', env', tmp, L1, ?_⟩
  exact q.bind.imp (fun as env2 q vs o G2 H2 x2 L2 a2 => q (v :: vs) o G2 H2 (x1.trans x2) L2 (.d (r1.ext x2) a2)) fun c env2 q G2 H2 pre x2 L2 => q G2 H2 pre (x1.trans x2) L2
theorem aas_bw (h : Ctx g X p k) {i : Nat} {x : Str} {xs : List IA} (hN : g.N[i]? = some x) (hv : visB g.sc x = true) (hp : plainNm x = true) (hs : AAs X p cx es xs) : AAs X p cx (.Name x pos :: es) (.bw i :: xs) := fun n =>
  pa_imp (pa_cons (pe_var (by rw [h.N]; exact hN) (by rw [h.sc]; exact vis_of hv) (pn_d hp) (pn_c hp)) (hs n) (star_cons rfl)) fun σ H Q q => by
  obtain ⟨B, G, env, tmp, L, q⟩ := q
  simp only [evAs] at q
  have hi : i < p.n := by rw [h.n]; exact (List.getElem?_eq_some_iff.mp hN).1
  split at q
  · rename_i s hs
    obtain ⟨v, A0, h1, _⟩ := L.getU hs hi
    refine ⟨v, h1, B, G, env, tmp, L, ?_⟩
    exact q.bind.imp (fun as env2 q vs o G2 H2 x2 L2 a2 => q (v :: vs) o G2 H2 x2 L2 (.bw h1 a2)) fun c env2 q => q
  · exact q.elim
theorem aas_ow {x : IE} {xs : List IA} (he : AE X p cx e x) (hs : AAs X p cx es xs) (hd : dataOnly xs = true) (hst : noStar e = true := by rfl) : AAs X p cx (e :: es) (.ow x :: xs) := fun n => pa_imp (pa_cons (he n) (hs n) (star_cons hst)) fun σ H Q q => by
  obtain ⟨B, G, env, tmp, L, q⟩ := q
  refine ⟨B, G, env, tmp, L, ?_⟩
  have q := Got.bind (show Got (((evN cx n).e x env).bind _) _ _ from q)
  refine q.imp (fun s env' q v G' H' x1 L1 => ?_) fun c env' q G' H' x1 L1 => q G' H' [] x1 L1
  refine ⟨B, G', env', (v, s) :: tmp, L1, ?_⟩
  refine q.bind.impE (fun as env2 he q vs o G2 H2 x2 L2 a2 => ?_) fun c env2 q G2 H2 pre x2 L2 => q G2 H2 (pre ++ [(v, s)]) (x1.trans x2) (by rw [List.append_assoc]; exact L2)
  obtain rfl := data_no hd he a2
  exact q (v :: vs) (some (v, s)) G2 H2 (x1.trans x2) L2 (.ow a2)
end
end EV

set_option maxRecDepth 100000
set_option maxHeartbeats 1000000
/-! Calls of defs, of methods; objects made. -/
namespace EV
open PySem PySem.Spec PyProof.Rows L2 LamX
section
variable {T : Tb} {g : GX} {X : Cx} {p : Pt} {k : Nat} {cx : CX} {e e1 e2 : Expr} {es : List Expr} {pos pos2 pos3 : Pos}
theorem Rd.fn (h : Rd T g X p k cx) {f : Nat} {i : FnI} (hi : T.fi f = some i) : ∃ fd, FnS X.prog X.w X.K X.mg X.base (3 * k) (p.W.fnA f) fd i.ps (spF p.W X.mg X.base T f i k) ∧ L2.Binds X.K fd i.ps [] ∧ PySem.W.keepIn X.K (.ref (p.W.fnA f)) = true := by
  obtain ⟨_, _, fd, h1, h2, h3⟩ := h.so k (Nat.le_refl k) f i hi
  rw [h.c.prog, h.c.w, h.c.K]
  exact ⟨fd, h1, h2, h3⟩
theorem wx_of {B : Bs} {G : Hp} {σ : L2.St} {tmp : List (V × S)} {c : Nat} {env' : Env} (q : ∀ G' H' pre, ExtN G G' → Link p.W B p.C p.n p.σp G' σ H' env' (pre ++ tmp) → p.Wx (.ref (p.W.exc c)) none σ H') : ∀ G' H' pre, ExtN G G' → Link p.W B p.C p.n p.σp G' σ H' env' (pre ++ tmp) → p.Wx (.ref (p.W.exc c)) none σ H' := q
theorem im_call (h : Rd T g X p k cx) {f : Nat} {i : FnI} (hi : T.fi f = some i) {r : EvR} {as : List IA} {σ : L2.St} {H : Hp} {Q : VK} (q : tE p (stepE cx r (.call .fn f as)) σ H Q) : tAs p (evAs r as) σ H fun vs H1 => ∀ A outer s, spF p.W X.mg X.base T f i k A outer s vs H1 Q (WE p.Wx σ) := by
  obtain ⟨B, G, env, tmp, L, q⟩ := q
  refine ⟨B, G, env, tmp, L, ?_⟩
  have q := Got.bind (show Got ((evAs r as env).bind _) _ _ from q)
  refine q.imp (fun l env' q vs o G1 H1 x1 L1 a1 => ?_) fun c env' q G' H' pre x1 L1 => q G' H' x1 L1.drops
  exact call_ok h hi L1 a1 (q.imp (fun s e q v G2 H2 x2 L2 => q v G2 H2 (x1.trans x2) L2) fun c e q G2 H2 x2 L2 => q G2 H2 (x1.trans x2) L2)
theorem ae_call (h : Rd T g X p k cx) {f j : Nat} {i : FnI} {x : Str} {as : List IA} (hi : T.fi f = some i) (hg : g.gt[j]? = some (x, .fn f)) (hx : glB g.sc x = true) (hp : plainNm x = true) (ha : AAs X p cx (e :: es) as)
    (hst : noStar e = true := by rfl) (hss : es.all noStar = true := by rfl) : AE X p cx (.Call (.Name x pos) (e :: es) [] pos2) (.call .fn f as) := by
  obtain ⟨fd, F, hb, hk⟩ := h.fn hi
  exact ae_step fun n => pe_imp (pe_callT F (h.c.room.mono (by omega)) (h.c.gl hx) (h.c.mg _ (List.mem_of_getElem? hg)) hk hb h.c.takes (ha n) (pn_d hp) (star_cons hst) (star_none hss)) fun σ H Q q => im_call h hi q
theorem ae_call0 (h : Rd T g X p k cx) {f j : Nat} {i : FnI} {x : Str} (hi : T.fi f = some i) (hg : g.gt[j]? = some (x, .fn f)) (hx : glB g.sc x = true) (hp : plainNm x = true) : AE X p cx (.Call (.Name x pos) [] [] pos2) (.call .fn f []) := by
  obtain ⟨fd, F, hb, hk⟩ := h.fn hi
  refine ae_step fun n => pe_imp (pe_callT0 F (h.c.room.mono (by omega)) (h.c.gl hx) (h.c.mg _ (List.mem_of_getElem? hg)) hk hb h.c.takes (pn_d hp)) fun σ H Q q => ?_
  obtain ⟨B, G, env, tmp, L, q⟩ := im_call h hi q
  exact (show ∀ vs (o : Option (V × S)) G' H', _ from q) [] none G H (ExtN.refl G) L .nil
/-! ### methods -/
/-- the package's classes and their methods -/
structure MetOk (W : Wd) (c f : Nat) (m : Str) : Prop where
  ok : ClsOk W c
  me : Meth W.K (W.cls c) m (W.fnA f)
  no : m ∉ fldT c
theorem recv_ins {B : Bs} {G : Hp} {σ : L2.St} {H : Hp} {env : Env} {tmp : List (V × S)} {c : Nat} {s : S} {v : V} {A0 : List Addr} (L : Link p.W B p.C p.n p.σp G σ H env tmp) (hr : RepS p.W p.C G H s.un v A0)
    (hc : (match s.un with | .o _ c' _ => c == c' | .d (.obj c' _) => c == c' | _ => false) = true) : ∃ a dx vs, v = .ref a ∧ H a = some (.ins (p.W.cls c) dx ((p.W.fld c).zip vs)) := by
  generalize s.un = su at hr hc
  cases hr with
  | o k1 k2 k3 => have := eq_of_beq hc; subst this; exact ⟨_, _, _, rfl, k1⟩
  | d r =>
    cases r with
    | obj k1 k2 k3 => have := eq_of_beq hc; subst this; exact ⟨_, _, _, rfl, L.sub _ _ k1 fun _ z => by cases z⟩
    | _ => cases hc
  | _ => cases hc
theorem im_methV (h : Rd T g X p k cx) {f c mm i0 : Nat} {i : FnI} {m : Str} (hi : T.fi f = some i) (hm : MetOk p.W c f m) (h0 : i0 < p.n) {r : EvR} {as : List IA} {σ : L2.St} {H : Hp} {Q : VK} (q : tE p (stepE cx r (.call (.meth c mm) f (.bw i0 :: as))) σ H Q) :
    tMethT (p.W.cls c) m (spF p.W X.mg X.base T f i k) (WE p.Wx) (tVar i0) (tAs p (evAs r as)) σ H Q := by
  obtain ⟨B, G, env, tmp, L, q⟩ := q
  have q := Got.bind (show Got ((evAs r [.bw i0] env).bind _) _ _ from q)
  simp only [evAs] at q
  cases e : env[i0]? with
  | none => rw [e] at q; exact q.elim
  | some oo =>
    cases oo with
    | none => rw [e] at q; exact q.elim
    | some s =>
      rw [e] at q
      have q : Got (if recvOk c env [.bw i0] = true then (evAs r as env).bind fun l2 env2 => callR cx f (.bw i0 :: l2) env2 else none) _ _ := q
      by_cases hc : recvOk c env [.bw i0] = true
      · rw [if_pos hc] at q
        simp only [recvOk, e] at hc
        obtain ⟨v, A0, h1, h2⟩ := L.getU e h0
        obtain ⟨a, dx, vs0, rfl, h3⟩ := recv_ins L h2 hc
        refine ⟨.ref a, h1, a, dx, _, rfl, h3, lookup_none (by rw [hm.ok.fld]; exact hm.no), B, G, env, tmp, L, ?_⟩
        refine (Got.bind q).imp (fun l env' q vs o G1 H1 x1 L1 a1 => ?_) fun c env' q G' H' pre x1 L1 => q G' H' x1 L1.drops
        exact call_ok h hi L1 (.bw h1 a1) (q.imp (fun s e q v G2 H2 x2 L2 => q v G2 H2 (x1.trans x2) L2) fun c e q G2 H2 x2 L2 => q G2 H2 (x1.trans x2) L2)
      · rw [if_neg hc] at q; exact q.elim
theorem im_methE (h : Rd T g X p k cx) {f c mm : Nat} {i : FnI} {m : Str} (hi : T.fi f = some i) (hm : MetOk p.W c f m) {r : EvR} {x : IE} {as : List IA} {σ : L2.St} {H : Hp} {Q : VK} (q : tE p (stepE cx r (.call (.meth c mm) f (.e x :: as))) σ H Q) :
    tMethT (p.W.cls c) m (spF p.W X.mg X.base T f i k) (WE p.Wx) (tD p (evD r x)) (tAs p (evAs r as)) σ H Q := by
  obtain ⟨B, G, env, tmp, L, q⟩ := q
  have q := Got.bind (show Got ((evAs r [.e x] env).bind _) _ _ from q)
  have q := Got.bind (show Got ((evD r x env).bind _) _ _ from q)
  refine ⟨B, G, env, tmp, L, q.imp (fun d env1 q v G1 H1 x1 L1 r1 => ?_) fun c env1 q => q⟩
  have q : Got (if recvOk c env1 [.d d] = true then (evAs r as env1).bind fun l2 env2 => callR cx f (.d d :: l2) env2 else none) _ _ := q
  by_cases hc : recvOk c env1 [.d d] = true
  · rw [if_pos hc] at q
    obtain ⟨c', fs, rfl, hcc⟩ : ∃ c' fs, d = .obj c' fs ∧ (c == c') = true := by
      unfold recvOk at hc
      split at hc
      · rename_i c' fs hh; cases hh; exact ⟨_, _, rfl, hc⟩
      · rename_i hh; cases hh
      · cases hc
    have := eq_of_beq hcc
    subst this
    cases r1 with
    | obj k1 k2 k3 =>
      refine ⟨_, _, _, rfl, L1.sub _ _ k1 fun _ z => (by cases z), lookup_none (by rw [hm.ok.fld]; exact hm.no), B, G1, env1, tmp, L1, ?_⟩
      refine (Got.bind q).imp (fun l env' q vs o G2 H2 x2 L2 a2 => ?_) fun c env' q G' H' pre x2 L2 => q G' H' (x1.trans x2) L2.drops
      exact call_ok h hi L2 (.d ((Rep.obj k1 k2 k3).ext x2) a2) (q.imp (fun s e q v G3 H3 x3 L3 => q v G3 H3 ((x1.trans x2).trans x3) L3) fun c e q G3 H3 x3 L3 => q G3 H3 ((x1.trans x2).trans x3) L3)
  · rw [if_neg hc] at q; exact q.elim
theorem Rd.cls (h : Rd T g X p k cx) {c f : Nat} {m : Str} (hm : MetOk p.W c f m) : Cls X.K (p.W.cls c) ∧ Meth X.K (p.W.cls c) m (p.W.fnA f) := by
  rw [h.c.K]; exact ⟨hm.ok.cls, hm.me⟩
/-- x.m(e, ..), x a name -/
theorem ae_methV (h : Rd T g X p k cx) {f c mm i0 : Nat} {i : FnI} {m x : Str} {as : List IA} {pl : Sem Bool} (hi : T.fi f = some i) (hm : MetOk p.W c f m) (hN : g.N[i0]? = some x) (hv : visB g.sc x = true) (hp : plainNm x = true) (ha : AAs X p cx (e :: es) as)
    (ht : eval (.Call (.Attribute (.Name x pos) m pos2) (e :: es) [] pos3) X.env = methEv (.Name x pos) m (e :: es) pos2 pos3 X.env pl := by rfl) (hst : noStar e = true := by rfl) (hss : es.all noStar = true := by rfl) :
    AE X p cx (.Call (.Attribute (.Name x pos) m pos2) (e :: es) [] pos3) (.call (.meth c mm) f (.bw i0 :: as)) := by
  obtain ⟨fd, F, hb, hk⟩ := h.fn hi
  obtain ⟨c1, m1⟩ := h.cls hm
  exact ae_step fun n => pe_imp (pe_methT (pe_var (by rw [h.c.N]; exact hN) (by rw [h.c.sc]; exact vis_of hv) (pn_d hp) (pn_c hp)) c1 m1 F (h.c.room.mono (by omega)) hb h.c.takes (ha n) (star_cons hst) (star_none hss) ht)
    fun σ H Q q => im_methV h hi hm (by rw [h.c.n]; exact (List.getElem?_eq_some_iff.mp hN).1) q
theorem ae_methV0 (h : Rd T g X p k cx) {f c mm i0 : Nat} {i : FnI} {m x : Str} {pl : Sem Bool} (hi : T.fi f = some i) (hm : MetOk p.W c f m) (hN : g.N[i0]? = some x) (hv : visB g.sc x = true) (hp : plainNm x = true)
    (ht : eval (.Call (.Attribute (.Name x pos) m pos2) [] [] pos3) X.env = methEv (.Name x pos) m [] pos2 pos3 X.env pl := by rfl) : AE X p cx (.Call (.Attribute (.Name x pos) m pos2) [] [] pos3) (.call (.meth c mm) f [.bw i0]) := by
  obtain ⟨fd, F, hb, hk⟩ := h.fn hi
  obtain ⟨c1, m1⟩ := h.cls hm
  refine ae_step fun n => pe_imp (pe_methT0 (pe_var (by rw [h.c.N]; exact hN) (by rw [h.c.sc]; exact vis_of hv) (pn_d hp) (pn_c hp)) c1 m1 F (h.c.room.mono (by omega)) hb h.c.takes ht) fun σ H Q q => ?_
  obtain ⟨v, h1, a, dx, fs, h2, h3, h4, B, G, env, tmp, L, q⟩ := im_methV h hi hm (by rw [h.c.n]; exact (List.getElem?_eq_some_iff.mp hN).1) q
  exact ⟨v, h1, a, dx, fs, h2, h3, h4, (show ∀ vs (o : Option (V × S)) G' H', _ from q) [] none G H (ExtN.refl G) L .nil⟩
/-- e.m(..), e any expression -/
theorem ae_methE (h : Rd T g X p k cx) {f c mm : Nat} {i : FnI} {m : Str} {x : IE} {as : List IA} {pl : Sem Bool} (hi : T.fi f = some i) (hm : MetOk p.W c f m) (he : AE X p cx e1 x) (ha : AAs X p cx (e :: es) as)
    (ht : eval (.Call (.Attribute e1 m pos2) (e :: es) [] pos3) X.env = methEv e1 m (e :: es) pos2 pos3 X.env pl := by rfl) (hst : noStar e = true := by rfl) (hss : es.all noStar = true := by rfl) :
    AE X p cx (.Call (.Attribute e1 m pos2) (e :: es) [] pos3) (.call (.meth c mm) f (.e x :: as)) := by
  obtain ⟨fd, F, hb, hk⟩ := h.fn hi
  obtain ⟨c1, m1⟩ := h.cls hm
  exact ae_step fun n => pe_imp (pe_methT (pe_D (he n)) c1 m1 F (h.c.room.mono (by omega)) hb h.c.takes (ha n) (star_cons hst) (star_none hss) ht) fun σ H Q q => im_methE h hi hm q
theorem ae_methE0 (h : Rd T g X p k cx) {f c mm : Nat} {i : FnI} {m : Str} {x : IE} {pl : Sem Bool} (hi : T.fi f = some i) (hm : MetOk p.W c f m) (he : AE X p cx e1 x)
    (ht : eval (.Call (.Attribute e1 m pos2) [] [] pos3) X.env = methEv e1 m [] pos2 pos3 X.env pl := by rfl) : AE X p cx (.Call (.Attribute e1 m pos2) [] [] pos3) (.call (.meth c mm) f [.e x]) := by
  obtain ⟨fd, F, hb, hk⟩ := h.fn hi
  obtain ⟨c1, m1⟩ := h.cls hm
  refine ae_step fun n => pe_imp (pe_methT0 (pe_D (he n)) c1 m1 F (h.c.room.mono (by omega)) hb h.c.takes ht) fun σ H Q q => ?_
  obtain ⟨B, G, env, tmp, L, q⟩ := im_methE h hi hm q
  refine ⟨B, G, env, tmp, L, q.imp (fun d env' q v G' H' x1 L1 r1 => ?_) fun c env' q => q⟩
  obtain ⟨a, dx, fs, h2, h3, h4, B2, G2, env2, tmp2, L2, q⟩ := q v G' H' x1 L1 r1
  exact ⟨a, dx, fs, h2, h3, h4, (show ∀ vs (o : Option (V × S)) G' H', _ from q) [] none G2 H' (ExtN.refl G2) L2 .nil⟩
/-! ### objects made -/
theorem Link.takeOut {W : Wd} {B : Bs} {C : List V} {n : Nat} {σp : L2.St} {G : Hp} {σ : L2.St} {H : Hp} {env : Env} {tmp : List (V × S)} {j : Nat} {s : S} {v : V} (L : Link W ⟨B.H0, B.A0, B.G0, B.pl, fun _ => none⟩ C n σp G σ H env tmp) (he : env[j]? = some (some s)) (hv : (σ ++ σp)[j]? = some (some v)) :
    Link W ⟨B.H0, B.A0, B.G0, [], fun _ => none⟩ C n σp G σ H (env.set j none) ((v, s) :: tmp) := by
  obtain ⟨A, T, h1, h2, nd, gf, ho⟩ := L.reps
  obtain ⟨X, A0, Y, e1, q1, _, _, q4, _⟩ := h1.part he
  obtain ⟨v', hv', hr⟩ := q1 s rfl
  rw [hv] at hv'
  cases hv'
  have hr : RepS W C G H s v A0 := by
    rcases hr with z | ⟨t, e⟩
    · exact z
    · subst e
      exfalso
      have lkno : ∀ {m : Nat} {σ : L2.St} {env : Env} {A : List Addr} {i : Nat} {t : S}, RepE W ⟨C, fun _ => none⟩ G H m σ env A → env[i]? = some (some (.lk t)) → False := by
        intro m σ env A i t r
        induction r generalizing i with
        | nil => intro h; simp at h
        | no _ ih => intro h; cases i with
          | zero => simp at h
          | succ i => exact ih (i := i) (by simpa using h)
        | yes hs _ ih => intro h; cases i with
          | zero => simp at h; subst h; cases hs
          | succ i => exact ih (i := i) (by simpa using h)
        | lk h1 _ ih => cases h1
      exact lkno h1 he
  subst e1
  have pm := perm_move (X := X) (A0 := A0) (Y := Y) (T := T)
  exact { L with reps := ⟨_, _, q4, .cons hr h2, pm.nodup_iff.mp nd, fun a ha => gf a (pm.mem_iff.mpr ha), fun a ha => ho a (pm.mem_iff.mpr ha)⟩, lcs := fun _ _ _ _ z => (by cases z), pins := fun _ z => (by cases z) }
theorem im_make (h : Rd T g X p k cx) {f c : Nat} {i : FnI} (hi : T.fi f = some i) {r : EvR} {as : List IA} {σ : L2.St} {H : Hp} {Q : VK} (q : tE p (stepE cx r (.make c f as)) σ H Q) :
    tMakeT (p.W.cls c) (spF p.W X.mg X.base T f i k) (WE p.Wx) (tAs p (evAs r as)) σ H Q := by
  obtain ⟨B, G, env, tmp, L, q⟩ := q
  refine ⟨B, G, env, tmp, L, ?_⟩
  have q := Got.bind (show Got ((evAs r as env).bind _) _ _ from q)
  refine q.imp (fun l env' q vs o G1 H1 x1 L1 a1 a dx na nd ne A outer sh => ?_) fun c env' q G' H' pre x1 L1 => q G' H' x1 L1.drops
  have hl := a1.nolam
  have hc : ((lamsOf l).isEmpty && decide (specs l = 0)) = true := by
    by_cases hc : ((lamsOf l).isEmpty && decide (specs l = 0)) = true
    · exact hc
    · rw [if_neg hc] at q; exact q.elim
  rw [if_pos hc] at q
  rw [Bool.and_eq_true] at hc
  have hs0 : specs l = 0 := by simpa using hc.2
  have ho : o = none := by
    have key : ∀ {as : List Av} {vs : List V} {o : Option (V × S)}, ArgsR p.W σ G1 as vs o → specs as = 0 → o = none := by
      intro as vs o h
      induction h with
      | nil => exact fun _ => rfl
      | d _ _ ih => exact ih
      | bw _ _ ih => intro h; simp [specs] at h
      | ow _ ih => intro h; simp [specs] at h
    exact key a1 hs0
  subst ho
  have L1 : Link p.W B p.C p.n p.σp G1 σ H1 env' tmp := L1
  cases t : argS env' l 0 with
  | none => rw [t] at q; exact q.elim
  | some ss =>
    rw [t] at q
    simp only at q
    rw [h.hc] at q
    cases k with
    | zero => exact q.elim
    | succ k =>
      cases t2 : T.ev (k + 1) f (.o true c [] :: ss) [] [] with
      | none => rw [t2] at q; exact q.elim
      | some rr =>
        rw [t2] at q
        obtain ⟨np, le, _⟩ := h.so (k + 1) (Nat.le_refl _) f i hi
        have hss := np _ _ _ _ t2
        obtain ⟨Ld, xd⟩ := L1.newG (o := .own a) nd fun _ z => by cases z
        have na' : upd H1 dx (.own a) a = none := by rw [upd_ne (Ne.symm ne)]; exact na
        have Lo := Ld.newS (o := .ins (p.W.cls c) dx []) (s := .o true c []) na' (.o (dx := dx) (vs := []) (by rw [upd_same]; simp) (Nat.zero_le _) .nil)
        obtain ⟨A0, nd0, gf, rt, back⟩ := Link.lendTop (o := [(V.ref a, S.o true c [])]) Lo
        obtain ⟨e1, e2, e3⟩ := args_d (C := ⟨p.C, fun _ => none⟩) (H := upd (upd H1 dx (.own a)) a (.ins (p.W.cls c) dx [])) (a1.ext xd) (specs_zero hs0) t
        cases rt with
        | cons hs1 h01 =>
          cases h01
          rename_i A1
          have rtt : RepT p.W ⟨p.C, fun _ => none⟩ (upd G1 dx (.own a)) (upd (upd H1 dx (.own a)) a (.ins (p.W.cls c) dx [])) ((V.ref a :: vs).zip (.o true c [] :: ss)) (A1 ++ []) := .cons hs1 e2
          have hl2 : (S.o true c [] :: ss).length = (V.ref a :: vs).length := by simp [e1]
          refine ⟨p.C, [], ⟨_, A1 ++ [], _, [(0, .ref a)], fun _ => none⟩, _, .o true c [] :: ss, [], [], by rw [← hl2]; exact hss, hl2, Lo.start0 hl2 (by rw [← hl2, hss]; exact le) rtt nd0 gf (fun q hq => ?_), fun j l hj => by simp at hj, ?_⟩
          · cases hq with
            | head => exact ⟨rfl, _, rfl, rfl⟩
            | tail _ z => cases z
          rw [t2]
          cases rr with
          | ok r as' pe =>
            intro v G' σ' H' env'' x Lf he hpe
            obtain ⟨p1, s', p2, p3⟩ := Lf.pins (0, .ref a) (by simp)
            have z1 := asOf_get (ss := .o true c [] :: ss) (j := 0) rfl rfl p2
            rw [← he] at z1
            cases as' with
            | nil => cases z1
            | cons o' as' =>
              cases z1
              cases r with
              | d dr =>
                cases dr with
                | non =>
                  have hv : v = .non := by
                    obtain ⟨_, _, _, y, _⟩ := Lf.reps
                    cases y with
                    | cons y1 y2 => cases y1 with | d y3 => cases y3; rfl
                  refine ⟨hv, ?_⟩
                  have Lt := Link.takeOut (B := ⟨_, A1 ++ [], _, [(0, .ref a)], fun _ => none⟩) Lf.drop p2 p1
                  have Lb := back Lt
                  refine (show ∀ v G' H', ExtN G G' → Link p.W B p.C p.n p.σp G' σ H' env' ((v, unpin s') :: tmp) → Q v H' from Got.okV q) (.ref a) G' H' ((x1.trans xd).trans x) ?_
                  obtain ⟨B1, T1, y1, y2, y3⟩ := Lb.reps
                  cases y2 with
                  | cons y4 y5 => exact { Lb with reps := ⟨B1, _, y1, .cons y4.flag y5, y3⟩ }
                | _ => exact q.elim
              | _ => exact q.elim
          | exn c2 as' pe =>
            intro G' σ' H' env'' x Lf he hpe
            obtain ⟨p1, s', p2, p3⟩ := Lf.pins (0, .ref a) (by simp)
            have z1 := asOf_get (ss := .o true c [] :: ss) (j := 0) rfl rfl p2
            rw [← he] at z1
            cases as' with
            | nil => cases z1
            | cons o' as' => exact (show ∀ G' H', ExtN G G' → Link p.W B p.C p.n p.σp G' σ H' env' tmp → _ from q) G' H' ((x1.trans xd).trans x) (back Lf)
theorem ae_make (h : Rd T g X p k cx) {f c j : Nat} {i : FnI} {x : Str} {as : List IA} (hi : T.fi f = some i) (M : Mk p.W.K (p.W.cls c) (p.W.fnA f)) (hg : g.gt[j]? = some (x, .cls c)) (hx : glB g.sc x = true) (hp : plainNm x = true) (ha : AAs X p cx (e :: es) as)
    (hst : noStar e = true := by rfl) (hss : es.all noStar = true := by rfl) : AE X p cx (.Call (.Name x pos) (e :: es) [] pos2) (.make c f as) := by
  obtain ⟨fd, F, hb, hk⟩ := h.fn hi
  exact ae_step fun n => pe_imp (pe_makeT (by rw [h.c.K]; exact M) F (h.c.room.mono (by omega)) (h.c.gl hx) (h.c.mg _ (List.mem_of_getElem? hg)) hb h.c.takes (ha n) (pn_d hp) (star_cons hst) (star_none hss)) fun σ H Q q => im_make h hi q
end
end EV

set_option maxRecDepth 100000
set_option maxHeartbeats 1000000
/-! Lambdas: made, and what they are. -/
namespace EV
open PySem PySem.Spec PyProof.Rows L2 LamX
/-- a code object that is told stays told -/
theorem among_keep {pos : Pos} {cv : Value} (l more : List Value) (h : TriplesOk l) (hc : codeAmong pos l = some cv) : codeAmong pos (l ++ more) = some cv := by
  fun_induction TriplesOk l with
  | case1 => simp [codeAmong] at hc
  | case2 a t b u x rest ih =>
    simp only [List.cons_append, codeAmong] at hc ⊢
    split at hc
    · rename_i q; rw [if_pos q]; exact hc
    · rename_i q; rw [if_neg q]; exact ih h hc
  | case3 l h1 h2 => exact h.elim
def TblsUp (H H' : Hp) : Prop := ∀ P ps, H P = some (.tbl ps) → ∃ more, H' P = some (.tbl (ps ++ more))
theorem TblsUp.refl (H : Hp) : TblsUp H H := fun P ps h => ⟨#[], by simpa using h⟩
theorem TblsUp.trans {H H1 H2 : Hp} (a : TblsUp H H1) (b : TblsUp H1 H2) : TblsUp H H2 := fun P ps h => by
  obtain ⟨m1, h1⟩ := a P ps h
  obtain ⟨m2, h2⟩ := b P _ h1
  exact ⟨m1 ++ m2, by rw [h2, Array.append_assoc]⟩
/-- the name of a lambda's code -/
abbrev lamQ (X : Cx) : Str := X.env.qual ++ "<lambda>"
/-- a lambda as an object -/
abbrev lamO (X : Cx) (params : Arguments) (body : Expr) (scope : Scope) (pm : Value) (c' : Addr) (ctv : Value) : Obj := PySem.W.kla_obj "<lambda>" (lamQ X) params body scope (cloFrom X.env.cells scope.names []) pm c' ctv
/-- what is known of a lambda made -/
structure LamF (X : Cx) (T : List (Addr × Str)) (params : Arguments) (body : Expr) (scope : Scope) (H : Hp) (s : Shared) (f : Addr) : Prop where
  free : H f = none
  nofr : f ∉ frs X.stack
  ex : ∃ c' pm ctv P pos ps, s.heap.get? f = some (lamO X params body scope pm c' ctv) ∧ H P = some (.tbl ps) ∧ TriplesOk ps.toList ∧ codeAmong pos ps.toList = some (.ref c') ∧ (P, lamQ X) ∈ T
section
variable {X : Cx} {pins : List (Addr × Obj)} {σ : L2.St} {H : Hp} {s : Shared}
/-- the lambda is made -/
theorem lam_make3 {T : List (Addr × Str)} {c P : Addr} {params : Arguments} {body : Expr} {scope : Scope} {pos : Pos} {E : Value → Shared → Prop} {Q : Value → Shared → Prop} (I : L2.Inv X pins σ H s) (TB : TabB X.base X.mg c P) (hcode : X.env.code = .ref c)
    (hm : (P, lamQ X) ∈ T) (hu : ∀ p ∈ T, p.1 = P → p.2 = lamQ X) (hT : Tabs T H) (hdef : defaultsOf params X.env = ([], [])) (hfree : ∀ y ∈ scope.names, y.2 = .free → ∃ c, X.env.cells.lookup y.1 = some c)
    (h : ∀ (f : Addr) (o : Obj) (H1 : Hp) (s' : Shared), L2.Inv X ((f, o) :: pins) σ H1 s' → ExtN H H1 → TblsUp H H1 → Tabs T H1 → LamF X T params body scope H1 s' f → Q (.ref f) s') :
    wpAny (model X.prog X.w) X.A (eval (.Lambda params body scope pos) X.env) Q E s := by
  obtain ⟨ps, hP, ht, ha⟩ := hT _ hm
  refine PySem.W.kla_eval hdef ?_
  have bP : s.heap.BuiltinsAt X.mg P := TB.bm.keeps I.bk
  have hP' : s.heap.get? P = some { cls := .none, data := .fields ps } := I.hok P _ hP
  have far : ∀ f, s.heap.objs.size ≤ f → f ≠ X.env.locals ∧ f ∉ X.fs := fun f hf => ⟨fun z => by have := I.lt; rw [z] at hf; exact Nat.lt_irrefl _ (Nat.lt_of_lt_of_le this hf), I.nofs hf⟩
  have nofr : ∀ f, s.heap.objs.size ≤ f → f ∉ frs X.stack := fun f hf z => by
    rcases List.mem_cons.mp (I.stkSub _ z) with e | e
    · exact (far f hf).1 e
    · exact (far f hf).2 e
  have addPin : ∀ {f : Addr} {pm ctv : Value} {c' : Addr} {H1 : Hp} {s' : Shared}, L2.Inv X pins σ H1 s' → s.heap.objs.size ≤ f → s'.heap.get? f = some (lamO X params body scope pm c' ctv) → H1 f = none → L2.Inv X ((f, lamO X params body scope pm c' ctv) :: pins) σ H1 s' := fun {f pm ctv c' H1 s'} I1 hf e1 e2 =>
    ⟨I1.ok, I1.os, I1.bare, I1.base, I1.loc, I1.cell, I1.free, I1.freeC, fun q hq => by
        rcases List.mem_append.mp hq with z | z
        · exact I1.pin q (List.mem_append_left _ z)
        · rcases List.mem_cons.mp z with z | z
          · subst z
            exact ⟨e1, e2, (far f hf).1, (far f hf).2, fun v z => by cases z⟩
          · exact I1.pin q (List.mem_append_right _ z), I1.hok, I1.len⟩
  cases hc : codeAmong pos ps.toList with
  | none =>
    refine PySem.W.kla_makeFunction (mg := X.mg) (c := c) (P := P) (ps := ps) (closure_ok hfree) I.ok.glob (I.mod.glob.keeps I.bk) hcode (TB.code.keeps I.bk) hP' ht hc TB.gP bP fun c' ctv h' tk hx hge hlt hrec htb => ?_
    obtain ⟨c2, oc, vs, t, e2, hoc, hd, hv⟩ := hrec
    cases e2
    have nC : H c' = none := I.hok.fresh hge
    have nPc : P ≠ c' := ne_of_none hP nC
    have hsz : s.heap.objs.size ≤ h'.objs.size := Nat.le_trans hge (Nat.le_of_lt hlt)
    have eL : (ps ++ #[rawInt pos.line, rawInt pos.col, .ref c']).toList = ps.toList ++ [rawInt pos.line, rawInt pos.col, .ref c'] := by simp
    generalize hH1 : upd (upd H P (.tbl (ps ++ #[rawInt pos.line, rawInt pos.col, .ref c']))) c' (CodeO c' (lamQ X)) = H1
    have atP : H1 P = some (.tbl (ps ++ #[rawInt pos.line, rawInt pos.col, .ref c'])) := by rw [← hH1, upd_ne nPc, upd_same]
    have atC : H1 c' = some (CodeO c' (lamQ X)) := by rw [← hH1, upd_same]
    have atO : ∀ b, b ≠ P → b ≠ c' → H1 b = H b := fun b h1 h2 => by rw [← hH1, upd_ne h2, upd_ne h1]
    have hE : ExtN H H1 := fun b o e n => by
      rw [atO b (fun z => n ps (by rw [z, hP] at e; exact (Option.some.inj e).symm)) (ne_of_none e nC)]; exact e
    have hUp : TblsUp H H1 := fun P2 ps2 e2 => by
      by_cases hb : P2 = P
      · subst hb; rw [hP] at e2; cases e2; exact ⟨_, atP⟩
      · exact ⟨#[], by rw [atO P2 hb (ne_of_none e2 nC)]; simpa using e2⟩
    have I1 : L2.Inv X pins σ H1 { s with heap := h'.push (lamO X params body scope ((X.mg "__name__").getD .none) c' ctv), toks := tk } := by
      rw [← hH1]
      exact inv_table (more := #[rawInt pos.line, rawInt pos.col, .ref c']) I hP (fun b o hb e => Heap.get?_push_of_some _ (hx b o hb e)) (Heap.get?_push_of_some _ htb) hge ⟨oc, vs, t, Heap.get?_push_of_some _ hoc, hd, hv⟩
    have hf1 : H1 h'.objs.size = none := by
      rw [atO _ (fun z => by have := Heap.lt_size hP'; rw [← z] at this; exact Nat.lt_irrefl _ (Nat.lt_of_le_of_lt hsz this)) (Nat.ne_of_gt hlt)]
      exact I.hok.fresh hsz
    have hget := Heap.get?_push_size h' (o := lamO X params body scope ((X.mg "__name__").getD .none) c' ctv) rfl
    refine h _ _ H1 _ (addPin I1 hsz hget hf1) hE hUp (fun p hp => ?_) ⟨hf1, nofr _ hsz, c', _, ctv, P, pos, _, hget, atP, by rw [eL]; exact PySem.TriplesOk_snoc _ _ _ _ ht, by rw [eL]; exact codeAmong_snoc _ ht hc, hm⟩
    by_cases hb : p.1 = P
    · rw [hu p hp hb, hb]
      refine ⟨_, atP, by rw [eL]; exact PySem.TriplesOk_snoc _ _ _ _ ht, fun p' cv hcv => ?_⟩
      rw [eL] at hcv
      rcases among_app _ ht hcv with z | z
      · obtain ⟨c0, e1, e2⟩ := ha p' cv z
        exact ⟨c0, e1, hE _ _ e2 codeO_ne⟩
      · exact ⟨c', z, atC⟩
    · obtain ⟨ps', a1, a2, a3⟩ := hT p hp
      refine ⟨ps', by rw [atO _ hb (ne_of_none a1 nC)]; exact a1, a2, fun p' cv hcv => ?_⟩
      obtain ⟨c0, e1, e2⟩ := a3 p' cv hcv
      exact ⟨c0, e1, hE _ _ e2 codeO_ne⟩
  | some cv =>
    obtain ⟨c', e, hco⟩ := ha pos cv hc
    subst e
    refine PySem.W.kla_makeFunctionHit (mg := X.mg) (c := c) (P := P) (ps := ps) (closure_ok hfree) I.ok.glob (I.mod.glob.keeps I.bk) hcode (TB.code.keeps I.bk) hP' ht hc bP fun ctv h' tk hx hsz => ?_
    have I1 : L2.Inv X pins σ H { s with heap := h'.push (lamO X params body scope ((X.mg "__name__").getD .none) c' ctv), toks := tk } := I.kept fun b o e => Heap.get?_push_of_some _ (hx b o e)
    have hget := Heap.get?_push_size h' (o := lamO X params body scope ((X.mg "__name__").getD .none) c' ctv) rfl
    exact h _ _ H _ (addPin I1 hsz hget (I.hok.fresh hsz)) (ExtN.refl H) (TblsUp.refl H) hT ⟨I.hok.fresh hsz, nofr _ hsz, c', _, ctv, P, pos, ps, hget, hP, ht, hc, hm⟩
end
end EV

set_option maxRecDepth 100000
set_option maxHeartbeats 1000000
/-! Lambdas: what a lambda made does when it is called. -/
namespace EV
open PySem PySem.Spec PyProof.Rows L2 LamX
/-- a lambda's names: its parameters, captured ones and globals -/
structure LamP (sc scope : Scope) (lps : List Str) : Prop where
  kind : scope.kind = .function
  co : scope.isCoroutine = false
  gen : scope.isGenerator = false
  nocell : ∀ y ∈ scope.names, y.2 ≠ .cell
  own : ∀ y, scope.names.lookup y = some .local → y ∈ lps
  par : ∀ y ∈ lps, scope.names.lookup y = some .local
  free : ∀ y ∈ scope.names, y.2 = .free → sc.names.lookup y.1 = some .cell ∨ sc.names.lookup y.1 = some .free
  nd : lps.Nodup
def lamPB (sc scope : Scope) (lps : List Str) : Bool :=
  decide (scope.kind = .function) && !scope.isCoroutine && !scope.isGenerator && (scope.names.all fun y => !decide (y.2 = .cell) && (!decide (y.2 = .local) || lps.contains y.1) && (!decide (y.2 = .free) || decide (sc.names.lookup y.1 = some .cell) || decide (sc.names.lookup y.1 = some .free))) &&
    (lps.all fun y => decide (scope.names.lookup y = some .local)) && decide lps.Nodup
theorem lamP_by {sc scope : Scope} {lps : List Str} (h : lamPB sc scope lps = true) : LamP sc scope lps := by
  unfold lamPB at h
  simp only [Bool.and_eq_true, Bool.or_eq_true, Bool.not_eq_true', decide_eq_true_eq, decide_eq_false_iff_not, List.all_eq_true, List.contains_iff_mem] at h
  obtain ⟨⟨⟨⟨⟨h1, h2⟩, h3⟩, h4⟩, h5⟩, h6⟩ := h
  refine ⟨h1, h2, h3, fun y hy => (h4 y hy).1.1, fun y hy => ?_, h5, fun y hy e => ?_, h6⟩
  · exact (h4 _ (PySem.mem_of_lookup hy)).1.2.resolve_left fun z => z rfl
  · rcases (h4 y hy).2 with (z | z) | z
    · exact absurd e z
    · exact .inl z
    · exact .inr z
theorem LamP.has {X : Cx} {scope : Scope} {lps : List Str} (L : LamP X.env.scope scope lps) (ok : X.Ok) : ∀ y ∈ scope.names, y.2 = .free → ∃ c, X.env.cells.lookup y.1 = some c := fun y hy e => by
  rcases L.free y hy e with k | k
  · exact ok.has _ (.inl k)
  · exact ok.has _ (.inr k)
theorem setσ_len {l : List (Nat × V)} : ∀ {σ : L2.St}, (setσ σ l).length = σ.length := by
  induction l with
  | nil => exact rfl
  | cons q l ih => intro σ; show (setσ (σ.set q.1 (some q.2)) l).length = _; rw [ih, List.length_set]
theorem setσ_out {l : List (Nat × V)} {i : Nat} : ∀ {σ : L2.St}, (∀ q ∈ l, q.1 ≠ i) → (setσ σ l)[i]? = σ[i]? := by
  induction l with
  | nil => intro σ _; rfl
  | cons q l ih =>
    intro σ h
    show (setσ (σ.set q.1 (some q.2)) l)[i]? = _
    rw [ih fun q' hq => h q' (List.mem_cons_of_mem _ hq), List.getElem?_set_ne (h q List.mem_cons_self)]
/-- what a parameter's slot holds -/
theorem setσ_in {pl : List Nat} {i : Nat} {v : V} : ∀ {vs : List V} {σ : L2.St}, pl.Nodup → i ∈ pl → vs.length = pl.length → (setσ σ (pl.zip vs))[i]? = some (some v) → ∃ k : Nat, pl[k]? = some i ∧ vs[k]? = some v := by
  induction pl with
  | nil => intro vs σ _ hi; cases hi
  | cons a pl ih =>
    intro vs σ nd hi hl h
    cases vs with
    | nil => simp at hl
    | cons w vs =>
      rw [List.nodup_cons] at nd
      have h : (setσ (σ.set a (some w)) (pl.zip vs))[i]? = some (some v) := h
      by_cases ha : i ∈ pl
      · obtain ⟨k, h1, h2⟩ := ih nd.2 ha (by simpa using hl) h
        exact ⟨k + 1, by simpa using h1, by simpa using h2⟩
      · have e : i = a := by
          rcases List.mem_cons.mp hi with z | z
          · exact z
          · exact absurd z ha
        subst e
        rw [setσ_out (fun q hq z => ha (by rw [← z]; exact (List.of_mem_zip hq).1))] at h
        rw [List.getElem?_set] at h
        simp only [if_true] at h
        split at h
        · cases h; exact ⟨0, rfl, rfl⟩
        · cases h
theorem zip_look {y : Str} {u : Value} : ∀ {lps : List Str} {us : List Value} {k : Nat}, lps.Nodup → lps[k]? = some y → us[k]? = some u → (lps.zip us).lookup y = some u
  | [], _, _, _, h, _ => by simp at h
  | _ :: _, [], _, _, _, h => by simp at h
  | a :: lps, w :: us, 0, nd, h1, h2 => by
    simp at h1 h2
    subst h1 h2
    simp [List.lookup_cons]
  | a :: lps, w :: us, k + 1, nd, h1, h2 => by
    rw [List.nodup_cons] at nd
    have h1' : lps[k]? = some y := by simpa using h1
    have hne : (y == a) = false := by
      rw [beq_eq_false_iff_ne]
      intro e
      subst e
      exact nd.1 (List.mem_of_getElem? h1')
    rw [List.zip_cons_cons, List.lookup_cons, hne]
    exact zip_look nd.2 h1' (by simpa using h2)
theorem zip_fst_sub : ∀ {lps : List Str} {us : List Value}, ((lps.zip us).map (·.1)).Sublist lps
  | [], _ => by simp
  | _ :: _, [] => by simp
  | a :: lps, w :: us => by
    rw [List.zip_cons_cons, List.map_cons]
    exact zip_fst_sub.cons_cons a
theorem zip_look_rev {y : Str} {u : Value} {lps : List Str} {us : List Value} {k : Nat} (nd : lps.Nodup) (h1 : lps[k]? = some y) (h2 : us[k]? = some u) : (lps.zip us).reverse.lookup y = some u := by
  rw [PySem.lookup_reverse_of_nodup]
  · exact zip_look nd h1 h2
  · exact nd.sublist zip_fst_sub
section
variable {X : Cx} {pins : List (Addr × Obj)} {σ : L2.St} {H HZ : Hp} {s s1 : Shared}
/-- the lambda's frame at its start -/
theorem lam_startP {A : Around} {outer : List PySem.Env} {E : XK} {scope : Scope} {lps : List Str} {pl : List Nat} {us : List Value} {vs : List V} {f c' : Addr} {h₁ : Heap} {tk : Nat} (I : L2.Inv X pins σ H s) (LP : LamP X.env.scope scope lps)
    (e0 : Env0 X.prog X.w X.K X.mg X.base A outer s1 HZ) (hd : A.handled = none) (un : Un (frs X.stack) [] H HZ s.heap s1.heap) (hns : h₁.Ns s1.heap.objs.size fun y => (lps.zip us).reverse.lookup y) (kp : ∀ b o, s1.heap.get? b = some o → h₁.get? b = some o)
    (r : Vals vs us) (hl : vs.length = pl.length) (hpn : pl.length = lps.length) (hpl : ∀ (j i : Nat) (x : Str), pl[j]? = some i → lps[j]? = some x → X.N[i]? = some x) (hN : X.N.Nodup) :
    L2.Inv (lamCx X A outer s1 HZ E scope f c') [] (setσ σ (pl.zip vs)) HZ { s1 with heap := h₁, toks := tk } := by
  have hfree := LP.has I.ok
  have cm : ∀ {y c}, (cloFrom X.env.cells scope.names []).lookup y = some c → X.env.cells.lookup y = some c := fun {y c} e => by
    rcases cloFrom_mem (PySem.mem_of_lookup e) with hm | ⟨h1, h2⟩
    · cases hm
    · obtain ⟨c1, hc⟩ := hfree _ h1 rfl
      have hc : X.env.cells.lookup y = some c1 := hc
      have e2 : c = c1 := by rw [h2, hc]; rfl
      rw [e2]; exact hc
  have look : ∀ {y}, scope.names.lookup y = some .free → ∃ c, (cloFrom X.env.cells scope.names []).lookup y = some c := fun {y} hl => mem_lookup (cloFrom_has (cells := X.env.cells) (acc := []) (PySem.mem_of_lookup hl))
  have cellK : ∀ {c : Addr} {v : Option Value}, H c = none → s.heap.IsCell c v → h₁.IsCell c v := fun {c v} n ⟨o, ho, hdt⟩ => by
    obtain ⟨sl, q⟩ := un.any ho n (by simp)
    exact ⟨_, kp _ _ q, hdt⟩
  have noA : ∀ b : Addr, b ∉ (lamCx X A outer s1 HZ E scope f c').ex := fun b z => by cases z
  have okc : (lamCx X A outer s1 HZ E scope f c').Ok := {
    mod := e0.mod
    kind := LP.kind
    glob := rfl
    blt := rfl
    above := Nat.le_refl _
    inj := fun y z c e1 e2 => I.ok.inj y z c (cm e1) (cm e2)
    has := fun y hy => by
      have hy : scope.names.lookup y = some .cell ∨ scope.names.lookup y = some .free := hy
      rcases hy with hy | hy
      · exact absurd rfl (LP.nocell _ (PySem.mem_of_lookup hy))
      · exact look hy
    cab := fun y c z _ => by
      have z : false = true := z
      cases z
    hd := fun _ => hd
    frames := Around.frames_deeper e0.frames
    stk := .inr ⟨rfl, rfl⟩
    exf := fun b z => absurd z (noA b)
    bs := e0.bs
    bsz := e0.bsz
    noex := fun b _ _ => noA b
    exfs := fun b z => absurd z (noA b)
    funs := e0.funs
    frf := e0.frf }
  refine ⟨okc, rfl, e0.bare, Un.kept kp, ⟨_, hns, fun i y v e1 e2 e3 => ?_⟩, fun y c e => ?_, e0.hok.fresh (Nat.le_refl _), fun y c e => ?_, fun q hq => absurd (show q ∈ ([] : List (Addr × Obj)) ++ [] from hq) (by simp), e0.hok.kept kp, ?_⟩
  · have e1 : X.N[i]? = some y := e1
    have e3 : Vis scope y := e3
    have plnd : pl.Nodup := by
      rw [List.nodup_iff_pairwise_ne, List.pairwise_iff_getElem]
      intro a b ha hb hab z
      have h1 := hpl a pl[a] lps[a] (List.getElem?_eq_getElem ha) (List.getElem?_eq_getElem (by omega))
      have h2 := hpl b pl[b] lps[b] (List.getElem?_eq_getElem hb) (List.getElem?_eq_getElem (by omega))
      rw [z, h2] at h1
      have := (List.getElem_inj (h₀ := by omega) (h₁ := by omega) LP.nd).mp (Option.some.inj h1)
      omega
    have slot : ∀ j x, pl[j]? = some i → lps[j]? = some x → x = y := fun j x h1 h2 => by
      have := hpl j i x h1 h2
      rw [e1] at this
      exact (Option.some.inj this).symm
    rcases e3 with k | k | k
    · have hy := LP.own y k
      obtain ⟨j, hj⟩ := List.getElem?_of_mem hy
      have hjl := (List.getElem?_eq_some_iff.mp hj).1
      have hp : pl[j]? = some (pl[j]'(by omega)) := List.getElem?_eq_getElem (by omega)
      have hi : pl[j]'(by omega) = i := by
        have h1 := hpl j _ y hp hj
        have hi1 := (List.getElem?_eq_some_iff.mp h1).1
        have hi2 := (List.getElem?_eq_some_iff.mp e1).1
        have q1 := (List.getElem?_eq_some_iff.mp h1).2
        have q2 := (List.getElem?_eq_some_iff.mp e1).2
        exact (List.getElem_inj (h₀ := hi1) (h₁ := hi2) hN).mp (q1.trans q2.symm)
      have hmem : i ∈ pl := by rw [← hi]; exact List.getElem_mem _
      obtain ⟨k2, g1, g2⟩ := setσ_in plnd hmem hl e2
      obtain ⟨u, hu, rv⟩ := r.get g2
      have hk2l : k2 < lps.length := by have := (List.getElem?_eq_some_iff.mp g1).1; omega
      have hx := slot k2 _ g1 (List.getElem?_eq_getElem hk2l)
      refine ⟨u, rv, .inl ⟨k, ?_⟩⟩
      exact zip_look_rev LP.nd (by rw [← hx]; exact List.getElem?_eq_getElem hk2l) hu
    · exact absurd rfl (LP.nocell _ (PySem.mem_of_lookup k))
    · have hni : ∀ q ∈ pl.zip vs, q.1 ≠ i := fun q hq z => by
        have hm := (List.of_mem_zip hq).1
        rw [z] at hm
        obtain ⟨j, hj⟩ := List.getElem?_of_mem hm
        have hjl := (List.getElem?_eq_some_iff.mp hj).1
        have hx := slot j _ hj (List.getElem?_eq_getElem (by omega))
        have := LP.par y (by rw [← hx]; exact List.getElem_mem _)
        rw [k] at this; cases this
      have e2 : (setσ σ (pl.zip vs))[i]? = some (some v) := e2
      rw [setσ_out hni] at e2
      obtain ⟨m, hn, hlk⟩ := I.loc
      have hvis : Vis X.env.scope y := (LP.free _ (PySem.mem_of_lookup k) rfl).elim (fun k => .inr (.inl k)) (fun k => .inr (.inr k))
      obtain ⟨w', rr, q⟩ := hlk i y v e1 e2 hvis
      obtain ⟨c2, h2⟩ := look k
      refine ⟨w', rr, .inr ⟨.inr k, c2, h2, ?_⟩⟩
      have c1 := cm h2
      rcases q with ⟨k', _⟩ | ⟨_, c3, e', z⟩
      · have k' : X.env.scope.names.lookup y = some .local := k'
        rcases LP.free _ (PySem.mem_of_lookup k) rfl with k2 | k2 <;> rw [show X.env.scope.names.lookup y = _ from k2] at k' <;> cases k'
      · rw [c1] at e'
        cases e'
        exact cellK (I.freeC y _ c1) z
  · obtain ⟨w', z⟩ := I.cell y c (cm e)
    exact ⟨w', cellK (I.freeC y c (cm e)) z⟩
  · obtain ⟨v, o, ho, hdt⟩ := I.cell y c (cm e)
    exact un.free c o ho (I.freeC y c (cm e)) (by simp)
  · show (setσ σ (pl.zip vs)).length = X.N.length
    rw [setσ_len]; exact I.len
end
end EV

set_option maxRecDepth 100000
set_option maxHeartbeats 1000000
/-! A lambda made is what its text says. -/
namespace EV
open PySem PySem.Spec PyProof.Rows L2 LamX
section
variable {T : Tb} {g : GX} {X : Cx} {p : Pt} {k kk : Nat} {pins : List (Addr × Obj)} {σ : L2.St} {H : Hp} {s : Shared}
theorem clo_un {W : Wd} {mg : Str → Option Value} {base : Heap} {Z : Cx} {pz : List (Addr × Obj)} {σz : L2.St} {HZ : Hp} {s1 : Shared} (hi : In W mg base X.stack s H Z) (I : L2.Inv Z pz σz HZ s1) : Un (frs X.stack) [] H HZ s.heap s1.heap := by
  have z := I.base
  rw [hi.ex, hi.s0, hi.h0, show Z.fs = frs X.stack by show frs Z.outer = _; rw [hi.outer]] at z
  exact z
theorem clo_at (hc : Ctx g X p kk) (so : Sound p.W X.mg X.base T k) (I : L2.Inv X pins σ H s) {f : Addr} {params : Arguments} {body : Expr} {scope : Scope} {lps : List Str} {L : Lam} (LP : LamP X.env.scope scope lps) (F : LamF X p.W.T params body scope H s f)
    (hb : ∀ (q : Str) (cl : List (Str × Addr)) (pm cv ctv : Value) (us : List Value), us.length = lps.length → bindArgs (PySem.W.kla_fn "<lambda>" q params body scope cl pm cv ctv) ⟨us, []⟩ = pure (lps.zip us))
    (hpn : L.ps.length = lps.length) (hpl : ∀ (j i : Nat) (x : Str), L.ps[j]? = some i → lps[j]? = some x → g.N[i]? = some x)
    (hbody : ∀ (X' : Cx) (p' : Pt) (cx' : CX), Rd T ⟨g.N, scope, g.gt⟩ X' p' k cx' → p'.W = p.W → AE X' p' cx' body L.body) (C : List V) : CloAt p.W X.mg X.base T k X.stack s H C σ f L := by
  obtain ⟨c', pm, ctv, P, pos, ps, hf, hP, htr, ham, hmT⟩ := F.ex
  have get : ∀ {Z : Cx} {pz : List (Addr × Obj)} {σz : L2.St} {HZ : Hp} {s1 : Shared}, In p.W X.mg X.base X.stack s H Z → L2.Inv Z pz σz HZ s1 → s1.heap.get? f = some (lamO X params body scope pm c' ctv) := fun hi Iz => (clo_un hi Iz).keep f _ hf F.free F.nofr (by simp)
  refine ⟨fun Z pz σz HZ s1 hi Iz => ⟨_, _, _, _, get hi Iz⟩, fun Z wx cx n pz σz HZ s1 us vs Q hi tk hr hcall Iz r hlen hT ht => ?_⟩
  have un := clo_un hi Iz
  obtain ⟨more, hP2⟩ := un.tbls P ps hP
  obtain ⟨ps2, h1, h2, h3⟩ := hT _ hmT
  have h1 : HZ P = some (.tbl ps2) := h1
  rw [hP2] at h1
  cases h1
  obtain ⟨c0, ec, hcode⟩ := h3 pos (.ref c') (by rw [Array.toList_append]; exact among_keep _ _ htr ham)
  cases ec
  obtain ⟨⟨oc, vs', t, hoc, hdc, hvc⟩, _, _⟩ := Iz.hok c' _ hcode
  have of1 := get hi Iz
  have e0 := Iz.env0
  refine wp_res (E := fun cls d H => wx cls d σz H) (passAt tk σz) Iz ?_
  have eP : Z.prog = X.prog := by rw [hi.prog, hc.prog]
  have eW : Z.w = X.w := by rw [hi.w, hc.w]
  have eK : Z.K = X.K := by rw [hi.K, hc.K]
  rw [eP, eW]
  rw [eP, eW, eK, hi.mg, hi.base] at e0
  have hus : us.length = lps.length := by rw [← r.length, hlen, hpn]
  refine PySem.W.kla_callFunE hr.depth of1 rfl LP.co LP.gen rfl ⟨c', oc, vs', t, rfl, hoc, hdc, hvc⟩ ?_
  rw [hb _ _ _ _ _ _ hus]
  refine wpAny_pure (wpAny_newFunctionEnv LP.nocell (fun y hy => LP.par _ (List.of_mem_zip hy).1) (fun h₁ hns hsb => ⟨Iz.nolimit.fresh _ hsb, ?_⟩) LP.kind)
  show codeAny _ _ (.expr body (lamEnv X scope s1.heap.objs.size f c')) _ _
  have kp : ∀ b o, s1.heap.get? b = some o → h₁.get? b = some o := fun b o e => hsb.extBut b o (Nat.ne_of_lt (Heap.lt_size e)) (Heap.get?_push_of_some _ e)
  have J := lam_startP (A := Z.A) (outer := Z.stack) (E := fun cls d H => wx cls d σz H) (f := f) (c' := c') (tk := s1.toks + (lps.zip us).length) I LP e0 hr.hd un hns kp r hlen hpn (fun j i x h1 h2 => by rw [hc.N]; exact hpl j i x h1 h2) (by rw [hc.N]; exact hc.nd)
  have rd : Rd T ⟨g.N, scope, g.gt⟩ (lamCx X Z.A Z.stack s1 HZ (fun cls d H => wx cls d σz H) scope f c') ⟨p.W, C, σ.length, [], fun c d _ H => wx c d σz H⟩ k cx := {
    c := { prog := hc.prog, w := hc.w, K := hc.K, N := hc.N, n := by show σ.length = _; rw [I.len, hc.N], nd := hc.nd, sc := rfl, calm := rfl, mg := hc.mg, room := hr.deeper _, takes := takes_of rfl rfl rfl rfl, wok := hc.wok }
    so := so
    hc := hcall }
  refine PySem.W.kla_codeExpr (wpAny_mono ((hbody _ _ cx rd rfl n).run [] _ _ HZ Q J ht) (fun v s' hq => ?_) fun e s' hq => hq)
  obtain ⟨w', H', J', rv, q⟩ := hq
  exact ⟨w', H', J'.os, J'.bare, J'.base, J'.hok, rv, q⟩
end
end EV

set_option maxRecDepth 100000
set_option maxHeartbeats 1000000
/-! A lambda lent is called. -/
namespace EV
open PySem PySem.Spec PyProof.Rows L2 LamX
theorem RepE.shift {W : Wd} {C : List V} {lk : Nat → Option (S × V × List Addr)} {G H : Hp} {n : Nat} : ∀ {i : Nat} {σ : L2.St} {env : Env} {A : List Addr}, RepE W ⟨C, lk⟩ G H (n + i) σ env A → RepE W ⟨C, fun m => lk (n + m)⟩ G H i σ env A
  | _, _, _, _, .nil => .nil
  | i, _, _, _, .no r => .no (RepE.shift (i := i + 1) r)
  | i, _, _, _, .yes h r => .yes h (RepE.shift (i := i + 1) r)
  | i, _, _, _, .lk h r => .lk h (RepE.shift (i := i + 1) r)
theorem RepE.unshift {W : Wd} {C : List V} {lk : Nat → Option (S × V × List Addr)} {G H : Hp} {n : Nat} : ∀ {i : Nat} {σ : L2.St} {env : Env} {A : List Addr}, RepE W ⟨C, fun m => lk (n + m)⟩ G H i σ env A → RepE W ⟨C, lk⟩ G H (n + i) σ env A
  | _, _, _, _, .nil => .nil
  | i, _, _, _, .no r => .no (RepE.unshift (i := i + 1) r)
  | i, _, _, _, .yes h r => .yes h (RepE.unshift (i := i + 1) r)
  | i, _, _, _, .lk h r => .lk h (RepE.unshift (i := i + 1) r)
theorem RepE.split {W : Wd} {C : Cz} {G H : Hp} : ∀ {σ : L2.St} {τ : L2.St} {i : Nat} {env : Env} {A : List Addr}, RepE W C G H i (σ ++ τ) env A → ∃ A1 A2, A = A1 ++ A2 ∧ RepE W C G H i σ (env.take σ.length) A1 ∧ RepE W C G H (i + σ.length) τ (env.drop σ.length) A2
  | [], τ, i, env, A, r => ⟨[], A, rfl, by simpa using RepE.nil, by simpa using r⟩
  | o :: σ, τ, i, env, A, r => by
    have e0 : i + (o :: σ).length = i + 1 + σ.length := by simp; omega
    cases r with
    | no r =>
      obtain ⟨A1, A2, e, r1, r2⟩ := RepE.split (i := i + 1) r
      exact ⟨A1, A2, e, .no r1, by rw [e0]; exact r2⟩
    | yes h r =>
      rename_i A0 _ _
      obtain ⟨A1, A2, e, r1, r2⟩ := RepE.split (i := i + 1) r
      exact ⟨A0 ++ A1, A2, by rw [e, List.append_assoc], .yes h r1, by rw [e0]; exact r2⟩
    | lk h r =>
      obtain ⟨A1, A2, e, r1, r2⟩ := RepE.split (i := i + 1) r
      exact ⟨A1, A2, e, .lk h r1, by rw [e0]; exact r2⟩
theorem RepE.join {W : Wd} {C : Cz} {G H : Hp} : ∀ {σ τ : L2.St} {i : Nat} {e1 e2 : Env} {A1 A2 : List Addr}, RepE W C G H i σ e1 A1 → RepE W C G H (i + σ.length) τ e2 A2 → RepE W C G H i (σ ++ τ) (e1 ++ e2) (A1 ++ A2)
  | _, _, _, _, _, _, _, .nil, r2 => by simpa using r2
  | _, _, i, _, _, _, _, .no (σ := σ) r, r2 => .no (RepE.join r (by rw [show i + 1 + σ.length = i + (σ.length + 1) by omega]; exact r2))
  | _, _, i, _, _, _, _, .yes (σ := σ) h r, r2 => by rw [List.append_assoc]; exact .yes h (RepE.join r (by rw [show i + 1 + σ.length = i + (σ.length + 1) by omega]; exact r2))
  | _, _, i, _, _, _, _, .lk (σ := σ) h r, r2 => .lk h (RepE.join r (by rw [show i + 1 + σ.length = i + (σ.length + 1) by omega]; exact r2))
section
variable {W : Wd} {B : Bs} {C : List V} {n : Nat} {σp : L2.St} {G : Hp} {σ : L2.St} {H : Hp} {env : Env} {tmp : List (V × S)}
/-- the pinned slots of the outer frame -/
def outPins (n : Nat) (pl : List (Nat × V)) : List (Nat × V) := (pl.filter fun q => decide (n ≤ q.1)).map fun q => (q.1 - n, q.2)
/-- into the outer frame, and back -/
theorem Link.enter (L : Link W B C n σp G σ H env tmp) : ∃ A2, Link W ⟨H, A2, G, outPins n B.pl, fun m => B.lk (n + m)⟩ C σp.length [] G σp H (env.drop n) [] ∧
    ∀ {G' : Hp} {H' : Hp} {env' : Env}, Link W ⟨H, A2, G, outPins n B.pl, fun m => B.lk (n + m)⟩ C σp.length [] G' σp H' env' [] → Link W B C n σp G' σ H' (env.take n ++ env') tmp := by
  obtain ⟨A, T, h1, h2, nd, gf, ho⟩ := L.reps
  obtain ⟨A1, A2, e, r1, r2⟩ := h1.split
  subst e
  rw [L.len] at r1 r2
  have hlen := h1.length
  have hld := L.held h1 h2
  have hel : n ≤ env.length := by rw [← hlen, List.length_append, L.len]; omega
  refine ⟨A2, ?_, fun {G' H' env'} Lf => ?_⟩
  · exact {
      reps := ⟨A2, [], by rw [List.append_nil]; exact RepE.shift (i := 0) (by rw [Nat.zero_add] at r2; exact r2), .nil, by
        rw [List.append_nil]; exact (List.nodup_append.mp (List.nodup_append.mp nd).1).2.1, fun a ha => gf a (by simp only [List.mem_append] at ha ⊢; simp at ha; exact .inl (.inr ha)), fun a ha => .inr (by simpa using ha)⟩
      sub := L.sub
      tabs := L.tabs
      frm := fun b o e _ => .inl e
      gnew := fun b o e => .inl e
      gold := ExtN.refl G
      gnt := L.gnt
      len := rfl
      lcs := fun m s v A' e => by
        refine ⟨L.lkd e, fun a ha z => ?_⟩
        obtain ⟨q1, q2⟩ := L.lcs _ s v A' e
        obtain ⟨o, q3, _⟩ := q1.tracked a ha
        rcases ho a (by simp only [List.mem_append]; exact .inl (.inr z)) with y | y
        · rw [q3] at y; cases y
        · exact q2 a ha y
      pins := fun q hq => by
        obtain ⟨q0, hq0, rfl⟩ := List.mem_map.mp hq
        obtain ⟨hm, hn⟩ := List.mem_filter.mp hq0
        have hn : n ≤ q0.1 := by simpa using hn
        obtain ⟨p1, t, p2, p3⟩ := L.pins q0 hm
        rw [List.getElem?_append_right (by rw [L.len]; exact hn), L.len] at p1
        refine ⟨by rw [List.append_nil]; exact p1, t, ?_, p3⟩
        rw [List.getElem?_drop, show n + (q0.1 - n) = q0.1 by omega]; exact p2 }
  · have kp := Link.kept (B := B) h1 h2 gf Lf
    have n0 : (A1 ++ T).Nodup ∧ ∀ x ∈ A2, x ∉ A1 ++ T := nodup_swap (show (A1 ++ (A2 ++ T)).Nodup by simpa using nd)
    have mm : ∀ a, a ∈ A1 ++ T → a ∈ (A1 ++ A2) ++ T := fun a ha => by simp only [List.mem_append] at ha ⊢; grind
    have off : ∀ a, a ∈ A1 ++ T → a ∉ A2 := fun a ha z => n0.2 a z ha
    obtain ⟨A3, T3, k1, k2, knd, kgf, kb⟩ := Lf.reps
    cases k2
    rw [List.append_nil] at k1 knd
    simp only [List.append_nil] at kgf kb
    have newx : ∀ a ∈ A3, a ∉ A1 ++ T := fun a ha z => by
      rcases kb a ha with y | y
      · obtain ⟨u, e⟩ := hld a (mm a z)
        have y : H a = none := y
        rw [e] at y; cases y
      · exact off a z y
    have k1' : RepE W ⟨C, B.lk⟩ G' H' (0 + σ.length) σp env' A3 := by
      rw [Nat.zero_add, L.len]
      have := RepE.unshift (n := n) k1
      rw [Nat.add_zero] at this
      exact this
    refine L.fin h1 h2 ho (fun a ha => by simp only [List.mem_append]; exact .inl (.inr ha)) Lf (RepE.join (r1.keep Lf.gold fun a ha => (kp a (mm a (List.mem_append_left _ ha)) (off a (List.mem_append_left _ ha))).1) k1')
      (RepT.keep (H' := H') Lf.gold h2 fun a ha => (kp a (mm a (List.mem_append_right _ ha)) (off a (List.mem_append_right _ ha))).1) ?_ (fun a ha => ?_) (fun a ha => ?_) fun q hq => ?_
    · have p : ((A1 ++ A3) ++ T).Perm (A3 ++ (A1 ++ T)) := by
        rw [List.perm_iff_count]; intro a; simp only [List.count_append]; omega
      rw [p.nodup_iff, List.nodup_append]
      exact ⟨knd, n0.1, fun x hx y hy e => by subst e; exact newx x hx hy⟩
    · simp only [List.mem_append] at ha
      rcases ha with (z | z) | z
      · exact (kp a (mm a (List.mem_append_left _ z)) (off a (List.mem_append_left _ z))).2
      · exact kgf a z
      · exact (kp a (mm a (List.mem_append_right _ z)) (off a (List.mem_append_right _ z))).2
    · simp only [List.mem_append] at ha
      rcases ha with (z | z) | z
      · exact .inl (mm a (List.mem_append_left _ z))
      · rcases kb a z with y | y
        · exact .inr y
        · exact .inl (by simp only [List.mem_append]; exact .inl (.inr y))
      · exact .inl (mm a (List.mem_append_right _ z))
    · obtain ⟨p1, t, p2, p3⟩ := L.pins q hq
      refine ⟨p1, ?_⟩
      by_cases hqn : q.1 < n
      · refine ⟨t, ?_, p3⟩
        rw [List.getElem?_append_left (by rw [List.length_take]; omega), List.getElem?_take_of_lt hqn]; exact p2
      · obtain ⟨_, t', g2, g3⟩ := Lf.pins (q.1 - n, q.2) (List.mem_map.mpr ⟨q, List.mem_filter.mpr ⟨hq, by simpa using hqn⟩, rfl⟩)
        refine ⟨t', ?_, g3⟩
        rw [List.getElem?_append_right (by rw [List.length_take]; omega), List.length_take, Nat.min_eq_left hel]; exact g2
/-- parameters set -/
theorem Link.setAll : ∀ {ps : List Nat} {ds : List D} {vs : List V} {σ : L2.St} {env : Env}, Link W B C n σp G σ H env tmp → Reps W G ds vs → ps.length = ds.length → freeE ps env = true → (∀ i ∈ ps, i < n) → Link W B C n σp G (setσ σ (ps.zip vs)) H (EV.setAll (ps.zip ds) env) tmp
  | [], _, _, _, _, L, _, _, _, _ => L
  | _ :: _, [], _, _, _, _, _, h, _, _ => by simp at h
  | i :: ps, d :: ds, _, σ, env, L, .cons (v := v) (vs := vs) h r, hl, hf, hn => by
    have hfa := freeE_at hf
    obtain ⟨o, e, np⟩ := (hfa i List.mem_cons_self).np
    have L1 := (L.push h).store e np (hn i List.mem_cons_self) (s' := .d d) fun A hr => hr
    refine Link.setAll (ps := ps) L1 r (by simpa using hl) ?_ fun j hj => hn j (List.mem_cons_of_mem _ hj)
    unfold freeE
    rw [List.all_eq_true]
    intro j hj
    obtain ⟨o', e', z⟩ := (hfa j (List.mem_cons_of_mem _ hj)).set (j := i) (o := some (.d d)) (.inr ⟨d, rfl⟩)
    rw [e']
    rcases z with z | ⟨x, z⟩ <;> subst z <;> rfl
/-- parameters wiped -/
theorem Link.unset {σ0 : L2.St} : ∀ {ps : List Nat} {σ : L2.St} {env : Env}, Link W B C n σp G σ H env tmp → (∀ i ∈ ps, i < n ∧ FreeAt env i) → Link W B C n σp G (fr σ0 σ ps) H (wipeE ps env) tmp
  | [], _, _, L, _ => L
  | i :: ps, σ, env, L, h => by
    obtain ⟨o, e, np⟩ := (h i List.mem_cons_self).2.np
    exact Link.unset (ps := ps) (L.gone e np (h i List.mem_cons_self).1 (σ0.getD i none)) fun j hj => ⟨(h j (List.mem_cons_of_mem _ hj)).1, (h j (List.mem_cons_of_mem _ hj)).2.set (.inl rfl)⟩
end
theorem fr_setσ {ps : List Nat} {vs : List V} {σ : L2.St} : fr σ (setσ σ (ps.zip vs)) ps = σ := by
  apply List.ext_getElem?
  intro i
  rw [fr_get]
  split
  · have e := setσ_len (l := ps.zip vs) (σ := σ)
    cases q : σ[i]? with
    | none =>
      have : (setσ σ (ps.zip vs))[i]? = none := by rw [List.getElem?_eq_none_iff, e]; exact List.getElem?_eq_none_iff.mp q
      rw [this]; rfl
    | some o =>
      have hlt := (List.getElem?_eq_some_iff.mp q).1
      rw [List.getElem?_eq_getElem (by rw [e]; exact hlt)]
      simp [List.getD_eq_getElem?_getD, q]
  · rename_i hi
    exact setσ_out fun q hq z => hi (by rw [← z]; exact (List.of_mem_zip hq).1)
/-! ### the call -/
section
variable {T : Tb} {g : GX} {X : Cx} {p : Pt} {k : Nat} {cx : CX} {e : Expr} {es : List Expr} {pos pos2 : Pos}
/-- behind the arguments: the lambda runs -/
theorem clo_run (h : Cl T g X p k cx) {j : Nat} {L : Lam} (hL : cx.lams[j]? = some L) : ∃ f, p.C[j]? = some (V.ref f) ∧ (∀ pins σ H s, L2.Inv X pins σ H s → PySem.W.FnAt f s.heap) ∧
    ∀ (n : Nat) (pins : List (Addr × Obj)) (σ : L2.St) (H : Hp) (s : Shared) (us : List Value) (vs : List V) (ds : List D) (Q : VK) (B : Bs) (G : Hp) (env : Env) (tmp : List (V × S)), L2.Inv X pins σ H s → Vals vs us → Link p.W B p.C p.n p.σp G σ H env tmp → Reps p.W G ds vs →
      Got (if L.ps.length == ds.length && freeE L.ps (env.drop cx.ns) then match (evN cx n).e L.body (EV.setAll (L.ps.zip ds) (env.drop cx.ns)) with
          | some (.ok s pe) => if freeE L.ps pe then match s.toD with
              | some d => some (.ok (.d d) (env.take cx.ns ++ wipeE L.ps pe))
              | none => none
            else none
          | some (.exn k pe) => if freeE L.ps pe then some (.exn k (env.take cx.ns ++ wipeE L.ps pe)) else none
          | none => none
        else (none : R S)) (fun s env' => ∀ v G' H', ExtN G G' → Link p.W B p.C p.n p.σp G' σ H' env' ((v, s) :: tmp) → Q v H') (fun c env' => ∀ G' H', ExtN G G' → Link p.W B p.C p.n p.σp G' σ H' env' tmp → p.Wx (.ref (p.W.exc c)) none σ H') →
      wpAny (model X.prog X.w) X.A (call (Value.ref f) us) (EP X pins σ Q) X.xe s := by
  obtain ⟨outer, s0, H0, hin, hC⟩ := h.cl
  obtain ⟨f, hf, ca⟩ := hC j L hL
  refine ⟨f, hf, fun pins σ H s I => ca.fn X pins σ H s hin I, fun n pins σ H s us vs ds Q B G env tmp I r Lk rr q => ?_⟩
  rw [h.ns] at q
  by_cases hc : (L.ps.length == ds.length && freeE L.ps (env.drop p.n)) = true
  · rw [if_pos hc] at q
    rw [Bool.and_eq_true] at hc
    have hl : L.ps.length = ds.length := by simpa using hc.1
    obtain ⟨A2, Le, back⟩ := Lk.enter
    have hlen := Lk.reps
    have hN : ∀ i ∈ L.ps, i < p.σp.length := fun i hi => by
      obtain ⟨o, e, _⟩ := freeE_at hc.2 i hi
      have e1 := (List.getElem?_eq_some_iff.mp e).1
      obtain ⟨A, T, r1, _⟩ := hlen
      have e2 := r1.length
      rw [List.length_append, Lk.len] at e2
      have e1 : i < (env.drop p.n).length := e1
      rw [List.length_drop] at e1
      omega
    refine ca.run X p.Wx cx n pins σ H s us vs Q hin h.c.takes h.room2 h.hc I r (by rw [← rr.length, hl]) Lk.tabs ⟨_, G, _, [], Le.setAll rr hl hc.2 hN, ?_⟩
    cases t : (evN cx n).e L.body (EV.setAll (L.ps.zip ds) (env.drop p.n)) with
    | none => rw [t] at q; exact q.elim
    | some o =>
      rw [t] at q
      cases o with
      | ok s1 pe =>
        intro v G' H' x L1
        simp only at q
        by_cases hfr : freeE L.ps pe = true
        · rw [if_pos hfr] at q
          cases td : s1.toD with
          | none => rw [td] at q; exact q.elim
          | some d =>
            rw [td] at q
            have L1 : Link p.W _ p.C p.σp.length [] G' (setσ p.σp (L.ps.zip vs)) H' pe [(v, s1)] := L1
            obtain ⟨G2, x2, L2, r2⟩ := L1.frz td
            have L3 := L2.unset (σ0 := p.σp) (ps := L.ps) fun i hi => ⟨hN i hi, freeE_at hfr i hi⟩
            rw [fr_setσ] at L3
            exact (show ∀ v G' H', ExtN G G' → Link p.W B p.C p.n p.σp G' σ H' (env.take p.n ++ wipeE L.ps pe) ((v, S.d d) :: tmp) → Q v H' from q) v G2 H' (x.trans x2) ((back L3).push r2)
        · rw [if_neg hfr] at q; exact q.elim
      | exn c pe =>
        intro G' H' x L1
        simp only at q
        by_cases hfr : freeE L.ps pe = true
        · rw [if_pos hfr] at q
          have L1 : Link p.W _ p.C p.σp.length [] G' (setσ p.σp (L.ps.zip vs)) H' pe [] := L1
          have L3 := L1.unset (σ0 := p.σp) (ps := L.ps) fun i hi => ⟨hN i hi, freeE_at hfr i hi⟩
          rw [fr_setσ] at L3
          exact (show ∀ G' H', ExtN G G' → Link p.W B p.C p.n p.σp G' σ H' (env.take p.n ++ wipeE L.ps pe) tmp → p.Wx _ none σ H' from q) G' H' x (back L3)
        · rw [if_neg hfr] at q; exact q.elim
  · rw [if_neg hc] at q; exact q.elim
end
end EV

set_option maxRecDepth 100000
set_option maxHeartbeats 1000000
/-! x(..), x a lambda lent or a def as a value. -/
namespace EV
open PySem PySem.Spec PyProof.Rows L2 LamX
section
variable {T : Tb} {g : GX} {X : Cx} {p : Pt} {k : Nat} {cx : CX} {e : Expr} {es : List Expr} {pos pos2 : Pos}
/-- what may be called -/
def Kept (X : Cx) (f : Addr) : Prop := (∀ pins σ H s, L2.Inv X pins σ H s → PySem.W.FnAt f s.heap) ∨ PySem.W.keepIn X.K (.ref f) = true
/-- the callee behind its name and its arguments -/
theorem callSlot1 {t : TA} {f : Addr} {i : Nat} {x : Str} {pins : List (Addr × Obj)} {σ : L2.St} {H : Hp} {s : Shared} {Q : VK} (hN : X.N[i]? = some x) (hv : Vis X.env.scope x) (hp : plainNm x = true) (I : L2.Inv X pins σ H s) (hσ : σ[i]? = some (some (.ref f)))
    (hf : Kept X f) (ha : PA X (e :: es) t) (hst : noStar e = true) (hss : es.all noStar = true) {Qv : List V → Hp → Prop} (ht : t σ H Qv)
    (h : ∀ us vs s2 H2, L2.Inv X pins σ H2 s2 → Vals vs us → Qv vs H2 → wpAny (model X.prog X.w) X.A (call (Value.ref f) us) (EP X pins σ Q) X.xe s2) : wpAny (model X.prog X.w) X.A (eval (.Call (.Name x pos) (e :: es) [] pos2) X.env) (EP X pins σ Q) X.xe s := by
  refine wpAny_Call_Name_kw (thn ((pe_var (pos := pos) hN hv (pn_d hp) (pn_c hp)).run pins s σ H (fun v H1 => v = .ref f ∧ H1 = H) I ⟨.ref f, hσ, rfl, rfl⟩) fun u s1 ⟨v, H1, I1, r1, ev, eH⟩ => ?_)
  subst ev eH
  obtain rfl : u = Value.ref f := r1
  rcases hf with hk | hk
  · exact PySem.W.callWith_F (hk _ _ _ _ I1) (thn (ha.run pos2 pins s1 σ H1 _ I1 ht) fun us s2 ⟨vs, H2, I2, r, q⟩ => ⟨hk _ _ _ _ I2, h us vs s2 H2 I2 r q⟩) (star_cons hst) (star_none hss)
  · exact PySem.W.callWith_K (h₀ := X.base) I1.ok.mod.kin hk (thn (ha.run pos2 pins s1 σ H1 _ I1 ht) fun us s2 ⟨vs, H2, I2, r, q⟩ => ⟨I2.kIn, h us vs s2 H2 I2 r q⟩) (star_cons hst) (star_none hss)
theorem callSlot0 {f : Addr} {i : Nat} {x : Str} {pins : List (Addr × Obj)} {σ : L2.St} {H : Hp} {s : Shared} {Q : VK} (hN : X.N[i]? = some x) (hv : Vis X.env.scope x) (hp : plainNm x = true) (I : L2.Inv X pins σ H s) (hσ : σ[i]? = some (some (.ref f)))
    (hf : Kept X f) (h : ∀ s2, L2.Inv X pins σ H s2 → wpAny (model X.prog X.w) X.A (call (Value.ref f) []) (EP X pins σ Q) X.xe s2) : wpAny (model X.prog X.w) X.A (eval (.Call (.Name x pos) [] [] pos2) X.env) (EP X pins σ Q) X.xe s := by
  refine wpAny_Call_Name_kw (thn ((pe_var (pos := pos) hN hv (pn_d hp) (pn_c hp)).run pins s σ H (fun v H1 => v = .ref f ∧ H1 = H) I ⟨.ref f, hσ, rfl, rfl⟩) fun u s1 ⟨v, H1, I1, r1, ev, eH⟩ => ?_)
  subst ev eH
  obtain rfl : u = Value.ref f := r1
  rcases hf with hk | hk
  · exact PySem.W.callWith_F0 (hk _ _ _ _ I1) (h s1 I1)
  · exact PySem.W.callWith_K0 I1.kIn hk (h s1 I1)
/-- the arguments as data, and what follows -/
def DsQ (p : Pt) (B : Bs) (σ : L2.St) (tmp : List (V × S)) (f : List D → Env → R S) (Q : VK) : List V → Hp → Prop := fun vs H2 => ∃ G ds env, Link p.W B p.C p.n p.σp G σ H2 env tmp ∧ Reps p.W G ds vs ∧
  Got (f ds env) (fun s env' => ∀ v G' H', ExtN G G' → Link p.W B p.C p.n p.σp G' σ H' env' ((v, s) :: tmp) → Q v H') fun c env' => ∀ G' H', ExtN G G' → Link p.W B p.C p.n p.σp G' σ H' env' tmp → p.Wx (.ref (p.W.exc c)) none σ H'
theorem dsQ_of {B : Bs} {G : Hp} {σ : L2.St} {H : Hp} {env : Env} {tmp : List (V × S)} {Q : VK} {r : EvR} {as : List IE} {f : List D → Env → R S} (L : Link p.W B p.C p.n p.σp G σ H env tmp)
    (q : Got ((evDs r as env).bind f) (fun s env' => ∀ v G' H', ExtN G G' → Link p.W B p.C p.n p.σp G' σ H' env' ((v, s) :: tmp) → Q v H') fun c env' => ∀ G' H', ExtN G G' → Link p.W B p.C p.n p.σp G' σ H' env' tmp → p.Wx (.ref (p.W.exc c)) none σ H') : tDs p (evDs r as) σ H (DsQ p B σ tmp f Q) := by
  refine ⟨B, G, env, tmp, L, q.bind.imp (fun ds env' q vs G' H' x L1 rr => ⟨G', ds, env', L1, rr, ?_⟩) fun c env' q => q⟩
  exact q.imp (fun s e q v G2 H2 x2 L2 => q v G2 H2 (x.trans x2) L2) fun c e q G2 H2 x2 L2 => q G2 H2 (x.trans x2) L2
theorem args_data {W : Wd} {σ : L2.St} {G : Hp} : ∀ {ds : List D} {vs : List V}, Reps W G ds vs → ArgsR W σ G (ds.map .d) vs none
  | _, _, .nil => .nil
  | _, _, .cons h r => .d h (args_data r)
/-- one of the two that may stand in a slot -/
theorem ccall_ok (h : Cl T g X p k cx) (hT : ∀ f, T.fi f = none → T.tab f = none) {i : Nat} {as : List IE} {n : Nat} {B : Bs} {G : Hp} {σ : L2.St} {H : Hp} {env : Env} {tmp : List (V × S)} {Q : VK} (hi : i < p.n) (L : Link p.W B p.C p.n p.σp G σ H env tmp)
    (q : Got (stepE cx (evN cx n) (.ccall i as) env) (fun s env' => ∀ v G' H', ExtN G G' → Link p.W B p.C p.n p.σp G' σ H' env' ((v, s) :: tmp) → Q v H') fun c env' => ∀ G' H', ExtN G G' → Link p.W B p.C p.n p.σp G' σ H' env' tmp → p.Wx (.ref (p.W.exc c)) none σ H') :
    ∃ f fn, σ[i]? = some (some (V.ref f)) ∧ Kept X f ∧ tDs p (evDs (evN cx n) as) σ H (DsQ p B σ tmp fn Q) ∧ (as = [] → DsQ p B σ tmp fn Q [] H) ∧
      ∀ pins us vs s2 H2, L2.Inv X pins σ H2 s2 → Vals vs us → DsQ p B σ tmp fn Q vs H2 → wpAny (model X.prog X.w) X.A (call (Value.ref f) us) (EP X pins σ Q) X.xe s2 := by
  have nil0 : ∀ {fn : List D → Env → R S}, Got ((evDs (evN cx n) as env).bind fn) (fun s env' => ∀ v G' H', ExtN G G' → Link p.W B p.C p.n p.σp G' σ H' env' ((v, s) :: tmp) → Q v H') (fun c env' => ∀ G' H', ExtN G G' → Link p.W B p.C p.n p.σp G' σ H' env' tmp → p.Wx (.ref (p.W.exc c)) none σ H') → as = [] → DsQ p B σ tmp fn Q [] H := fun q e => by
    subst e
    exact ⟨G, [], env, L, .nil, q⟩
  simp only [stepE] at q
  cases e : env[i]? with
  | none => rw [e] at q; exact q.elim
  | some oo =>
    rw [e] at q
    match oo, e, q with
    | some (.d (.fnr f)), e, q =>
      obtain ⟨v, A0, h1, h2⟩ := L.getU e hi
      have h2 : RepS p.W p.C G H (.d (.fnr f)) v A0 := h2
      cases h2 with
      | d r =>
        cases r with
        | fnr _ hk =>
          refine ⟨_, _, h1, .inr (by rw [h.c.K]; exact hk), dsQ_of L q, nil0 q, fun pins us vs s2 H2 I2 r2 hq => ?_⟩
          obtain ⟨G2, ds, env2, L2, rr, q2⟩ := hq
          cases hfi : T.fi f with
          | none =>
            exfalso
            replace q2 := (show Got (callR cx f (ds.map Av.d) env2) _ _ from q2)
            unfold callR at q2
            split at q2
            · cases ta : argS env2 (ds.map Av.d) 0 with
              | none => rw [ta] at q2; exact q2
              | some ss =>
                rw [ta] at q2
                simp only at q2
                rw [h.hc] at q2
                have z : ∀ a b c, T.ev k f a b c = none := fun a b c => by
                  cases k with
                  | zero => rfl
                  | succ k =>
                    show (match T.tab f with | some fd => _ | none => none) = none
                    rw [hT f hfi]
                rw [z] at q2
                exact q2
            · exact q2
          | some ii =>
            obtain ⟨fd, F, hb, _⟩ := h.toRd.fn hfi
            refine run_fnT (E := WE p.Wx) F (h.c.room.mono (by omega)) hb (passAt h.c.takes σ) I2 r2 (call_ok h.toRd hfi (o := none) L2 (args_data rr) q2 _ _ _)
    | some (.clo j), e, q =>
      obtain ⟨v, A0, h1, h2⟩ := L.getU e hi
      have h2 : RepS p.W p.C G H (.clo j) v A0 := h2
      simp only at q
      cases hL : cx.lams[j]? with
      | none => rw [hL] at q; exact q.elim
      | some lam =>
        rw [hL] at q
        obtain ⟨f, hf, hfn, run⟩ := clo_run h hL
        cases h2 with
        | clo h3 =>
          rw [hf] at h3
          cases h3
          refine ⟨_, _, h1, .inl hfn, dsQ_of L q, nil0 q, fun pins us vs s2 H2 I2 r2 hq => ?_⟩
          obtain ⟨G2, ds, env2, L2, rr, q2⟩ := hq
          exact run n pins σ H2 s2 us vs ds Q B G2 env2 tmp I2 r2 L2 rr q2
theorem ae_ccall (h : Cl T g X p k cx) (hT : ∀ f, T.fi f = none → T.tab f = none) {i : Nat} {x : Str} {as : List IE} (hN : g.N[i]? = some x) (hv : visB g.sc x = true) (hp : plainNm x = true) (ha : ADs X p cx (e :: es) as) (hst : noStar e = true := by rfl) (hss : es.all noStar = true := by rfl) :
    AE X p cx (.Call (.Name x pos) (e :: es) [] pos2) (.ccall i as) := ae_step fun n => ⟨fun pins s σ H Q I ⟨B, G, env, tmp, L, q⟩ => by
  obtain ⟨f, fn, h1, h2, h3, _, h4⟩ := ccall_ok h hT (by rw [h.c.n]; exact (List.getElem?_eq_some_iff.mp hN).1) L q
  exact callSlot1 (by rw [h.c.N]; exact hN) (by rw [h.c.sc]; exact vis_of hv) hp I h1 h2 (ha n) hst hss h3 (fun us vs s2 H2 I2 r q => h4 pins us vs s2 H2 I2 r q)⟩
theorem ae_ccall0 (h : Cl T g X p k cx) (hT : ∀ f, T.fi f = none → T.tab f = none) {i : Nat} {x : Str} (hN : g.N[i]? = some x) (hv : visB g.sc x = true) (hp : plainNm x = true) :
    AE X p cx (.Call (.Name x pos) [] [] pos2) (.ccall i []) := ae_step fun n => ⟨fun pins s σ H Q I ⟨B, G, env, tmp, L, q⟩ => by
  obtain ⟨f, fn, h1, h2, _, h3, h4⟩ := ccall_ok h hT (by rw [h.c.n]; exact (List.getElem?_eq_some_iff.mp hN).1) L q
  exact callSlot0 (by rw [h.c.N]; exact hN) (by rw [h.c.sc]; exact vis_of hv) hp I h1 h2 fun s2 I2 => h4 pins [] [] s2 H I2 .nil (h3 rfl)⟩
end
end EV

set_option maxRecDepth 100000
set_option maxHeartbeats 1000000
/-! A def called with lambdas: the whole frame is lent. -/
namespace EV
open PySem PySem.Spec PyProof.Rows L2 LamX
mutual
theorem RepS.reC {W : Wd} {C C' : List V} {G : Hp} : ∀ {H : Hp} {s : S} {v : V} {A : List Addr}, RepS W C G H s v A → noClo s = true → RepS W C' G H s v A
  | _, _, _, _, .d h, _ => .d h
  | _, _, _, _, .l h r, _ => .l h r
  | _, _, _, _, .mK h q r, _ => .mK h q r
  | _, _, _, _, .mT h n q r1 r, _ => .mT h n q r1 r
  | _, _, _, _, .o h l r, k => .o h l (RepSs.reC r (by simpa only [noClo] using k))
  | _, _, _, _, .clo h, k => by simp [noClo] at k
theorem RepSs.reC {W : Wd} {C C' : List V} {G : Hp} : ∀ {H : Hp} {s : List S} {v : List V} {A : List Addr}, RepSs W C G H s v A → noClos s = true → RepSs W C' G H s v A
  | _, _, _, _, .nil, _ => .nil
  | _, _, _, _, .cons h r, k => by
    simp only [noClos, Bool.and_eq_true] at k
    exact .cons (RepS.reC h k.1) (RepSs.reC r k.2)
end
theorem RepE.reF {W : Wd} {C C' : List V} {lk lk' : Nat → Option (S × V × List Addr)} {G H : Hp} : ∀ {i j : Nat} {σ : L2.St} {env : Env} {A : List Addr}, RepE W ⟨C, lk⟩ G H i σ env A → noCloE env = true → (∀ m s v A, noClo s = true → lk (i + m) = some (s, v, A) → lk' (j + m) = some (s, v, A)) → RepE W ⟨C', lk'⟩ G H j σ env A
  | _, _, _, _, _, .nil, _, _ => .nil
  | i, j, _, _, _, .no r, k, hl => .no (RepE.reF r (by simpa [noCloE] using k) fun m s v A => by rw [Nat.add_assoc, Nat.add_assoc]; exact hl (1 + m) s v A)
  | i, j, _, _, _, .yes h r, k, hl => by
    have k : (noClo _ && noCloE _) = true := k
    rw [Bool.and_eq_true] at k
    exact .yes (h.reC k.1) (RepE.reF r k.2 fun m s v A => by rw [Nat.add_assoc, Nat.add_assoc]; exact hl (1 + m) s v A)
  | i, j, _, _, _, .lk (s := s) (env := env) h r, k, hl => by
    have k : (noClo (.lk s) && noCloE env) = true := k
    rw [Bool.and_eq_true] at k
    exact .lk (hl 0 _ _ _ (by simpa only [noClo] using k.1) h) (RepE.reF r k.2 fun m s v A => by rw [Nat.add_assoc, Nat.add_assoc]; exact hl (1 + m) s v A)
/-- the locks, seen from the callee -/
def upLk (n : Nat) (lk : Nat → Option (S × V × List Addr)) : Nat → Option (S × V × List Addr) := fun m => if m < n then none else match lk (m - n) with
  | some q => if noClo q.1 then some q else none
  | none => none
theorem upLk_of {n m : Nat} {lk : Nat → Option (S × V × List Addr)} {q : S × V × List Addr} (h : upLk n lk m = some q) : n ≤ m ∧ lk (m - n) = some q ∧ noClo q.1 = true := by
  unfold upLk at h
  split at h
  · cases h
  · split at h
    · rename_i q' e
      split at h
      · cases h; exact ⟨by omega, e, by assumption⟩
      · cases h
    · cases h
theorem upLk_at {n m : Nat} {lk : Nat → Option (S × V × List Addr)} {q : S × V × List Addr} (h : lk m = some q) (k : noClo q.1 = true) : upLk n lk (n + m) = some q := by
  unfold upLk
  rw [if_neg (by omega), Nat.add_sub_cancel_left, h]
  simp [k]
section
variable {W : Wd} {B : Bs} {C : List V} {n : Nat} {G : Hp} {σ : L2.St} {H : Hp} {env : Env} {tmp : List (V × S)}
/-- tables grown, code objects new -/
theorem Link.up {σp : L2.St} (L : Link W B C n σp G σ H env tmp) {H' : Hp} (e : ExtN H H') (u : TblsUp H H') (t : Tabs W.T H') : Link W B C n σp G σ H' env tmp := by
  obtain ⟨A, T, h1, h2, nd, gf, ho⟩ := L.reps
  have same : ∀ a ∈ A ++ T, H' a = H a := fun a ha => by
    obtain ⟨o, q, nt⟩ : ∃ o, H a = some o ∧ ∀ ps, o ≠ .tbl ps := by
      rcases List.mem_append.mp ha with z | z
      · exact h1.tracked a z
      · exact h2.tracked a z
    rw [q]; exact e a o q nt
  refine L.tr h1 h2 ho (h1.keep (ExtN.refl G) fun a ha => same a (List.mem_append_left _ ha)) (h2.keep (ExtN.refl G) fun a ha => same a (List.mem_append_right _ ha)) nd gf (fun a ha => .inl ha) (L.sub.trans e) t (fun b o q _ => ?_) (fun b o q => .inl q) (ExtN.refl G) L.gnt L.len L.pins
  by_cases hb : ∃ ps, o = .tbl ps
  · obtain ⟨ps, rfl⟩ := hb
    obtain ⟨more, z⟩ := u b ps q
    exact .inr ⟨ps, _, rfl, z⟩
  · exact .inl (e b o q fun ps z => hb ⟨ps, z⟩)
def upPins (n : Nat) (pl : List (Nat × V)) : List (Nat × V) := pl.map fun q => (n + q.1, q.2)
/-- the whole frame is lent -/
theorem Link.lendAll (L : Link W B C n [] G σ H env tmp) (hc : noCloE env = true) {C' : List V} {i : FnI} {vs : List V} {ss : List S} (hl : ss.length = vs.length) (hle : vs.length ≤ i.N.length) (r : RepT W ⟨C', fun _ => none⟩ G H (vs.zip ss) []) :
    ∃ A0, Link W ⟨H, A0, G, upPins i.N.length B.pl, upLk i.N.length B.lk⟩ C' i.N.length σ G (start i.N vs) H (EnvIn i.N.length ss env) [] ∧
      ∀ {G' : Hp} {σf : L2.St} {H' : Hp} {envf : Env} {res : List (V × S)}, Link W ⟨H, A0, G, upPins i.N.length B.pl, upLk i.N.length B.lk⟩ C' i.N.length σ G' σf H' envf res → (∀ q ∈ res, noClo q.2 = true) → noCloE (envf.drop i.N.length) = true → Link W B C n [] G' σ H' (envf.drop i.N.length) (res ++ tmp) := by
  obtain ⟨A, T, h1, h2, nd, gf, ho⟩ := L.reps
  rw [List.append_nil] at h1
  have hld := L.held (A := A) (T := T) (by rw [List.append_nil]; exact h1) h2
  have sl : (start i.N vs).length = i.N.length := by unfold L2.start; simp; omega
  refine ⟨A, ?_, fun {G' σf H' envf res} Lf hr hpe => ?_⟩
  · have e1 : RepE W ⟨C', upLk i.N.length B.lk⟩ G H 0 (start i.N vs ++ σ) (EnvIn i.N.length ss env) ([] ++ A) := by
      have q := repE_args (i := 0) hl (repT_lk r) (repE_nones (m := i.N.length - vs.length) (i := 0 + vs.length) (τ := σ) (e := env) (RepE.reF h1 hc fun m s v A k e => by rw [show 0 + vs.length + (i.N.length - vs.length) + m = i.N.length + m by omega]; rw [Nat.zero_add] at e; exact upLk_at e k))
      unfold L2.start EnvIn
      rw [hl]
      simpa using q
    exact {
      reps := ⟨_, [], e1, .nil, by simpa using (List.nodup_append.mp nd).1, fun a ha => gf a (by simp at ha; exact List.mem_append_left _ ha), fun a ha => .inr (by simpa using ha)⟩
      sub := L.sub
      tabs := L.tabs
      frm := fun b o e _ => .inl e
      gnew := fun b o e => .inl e
      gold := ExtN.refl G
      gnt := L.gnt
      len := sl
      lcs := fun m s v A' e => by
        obtain ⟨z1, z2, z3⟩ := upLk_of e
        refine ⟨(L.lkd z2).reC z3, fun a ha z => ?_⟩
        obtain ⟨q1, q2⟩ := L.lcs _ s v A' z2
        obtain ⟨o, q3, _⟩ := q1.tracked a ha
        rcases ho a (List.mem_append_left _ z) with y | y
        · rw [q3] at y; cases y
        · exact q2 a ha y
      pins := fun q hq => by
        obtain ⟨q0, hq0, rfl⟩ := List.mem_map.mp hq
        obtain ⟨p1, t, p2, p3⟩ := L.pins q0 hq0
        rw [List.append_nil] at p1
        have el : (ss.map some ++ List.replicate (i.N.length - ss.length) none).length = i.N.length := by simp [hl]; omega
        refine ⟨?_, t, ?_, p3⟩
        · rw [List.getElem?_append_right (by rw [sl]; exact Nat.le_add_right _ _), sl, Nat.add_sub_cancel_left]; exact p1
        · unfold EnvIn
          rw [List.getElem?_append_right (by rw [el]; exact Nat.le_add_right _ _), el, Nat.add_sub_cancel_left]; exact p2 }
  · have kp := Link.kept (B := B) (σp := []) (by rw [List.append_nil]; exact h1) h2 gf Lf
    have nd2 := List.nodup_append.mp nd
    have off : ∀ a ∈ T, a ∉ A := fun a ha z => nd2.2.2 a z a ha rfl
    obtain ⟨A3, T3, k1, k2, knd, kgf, kb⟩ := Lf.reps
    obtain ⟨A4, A5, e3, r1, r2⟩ := k1.split
    subst e3
    rw [Lf.len] at r2
    have newx : ∀ a, a ∈ (A4 ++ A5) ++ T3 → a ∉ T := fun a ha z => by
      rcases kb a ha with y | y
      · obtain ⟨u, e⟩ := hld a (List.mem_append_right _ z)
        have y : H a = none := y
        rw [e] at y; cases y
      · exact off a z y
    have k2' : RepT W ⟨C, B.lk⟩ G' H' res T3 := by
      clear kgf kb knd newx Lf
      induction k2 with
      | nil => exact .nil
      | cons hs _ ih => exact .cons (hs.reC (hr _ List.mem_cons_self)) (ih fun q hq => hr q (List.mem_cons_of_mem _ hq))
    have back : ∀ (m : Nat) (s : S) (v : V) (A : List Addr), noClo s = true → upLk i.N.length B.lk (0 + i.N.length + m) = some (s, v, A) → B.lk (0 + m) = some (s, v, A) := fun m s v A k e => by
      obtain ⟨z1, z2, z3⟩ := upLk_of e
      rw [show 0 + i.N.length + m - i.N.length = 0 + m by omega] at z2
      exact z2
    refine L.fin (σp := []) (by rw [List.append_nil]; exact h1) h2 ho (fun a ha => List.mem_append_left _ ha) Lf (by rw [List.append_nil]; exact RepE.reF r2 hpe back)
      (repT_app k2' (RepT.keep (H' := H') Lf.gold h2 fun a ha => (kp a (List.mem_append_right _ ha) (off a ha)).1)) ?_ (fun a ha => ?_) (fun a ha => ?_) fun q hq => ?_
    · have k3 : (A5 ++ T3).Nodup := (nodup_swap (a := []) (b := A4) (c := A5 ++ T3) (by simpa using knd)).1
      rw [← List.append_assoc, List.nodup_append]
      exact ⟨k3, nd2.2.1, fun x hx y hy e => by subst e; exact newx x (by simp only [List.mem_append] at hx ⊢; grind) hy⟩
    · simp only [List.mem_append] at ha
      rcases ha with z | z | z
      · exact kgf a (by simp only [List.mem_append]; exact .inl (.inr z))
      · exact kgf a (by simp only [List.mem_append]; exact .inr z)
      · exact (kp a (List.mem_append_right _ z) (off a z)).2
    · have fromF : ∀ a, a ∈ (A4 ++ A5) ++ T3 → a ∈ A ++ T ∨ H a = none := fun a ha => by
        rcases kb a ha with y | y
        · exact .inr y
        · exact .inl (List.mem_append_left _ y)
      simp only [List.mem_append] at ha
      rcases ha with z | z | z
      · exact fromF a (by simp only [List.mem_append]; exact .inl (.inr z))
      · exact fromF a (by simp only [List.mem_append]; exact .inr z)
      · exact .inl (List.mem_append_right _ z)
    · obtain ⟨p1, _⟩ := L.pins q hq
      obtain ⟨_, t', g2, g3⟩ := Lf.pins (i.N.length + q.1, q.2) (List.mem_map.mpr ⟨q, hq, rfl⟩)
      exact ⟨p1, t', by rw [List.getElem?_drop]; exact g2, g3⟩
end
end EV

set_option maxRecDepth 100000
set_option maxHeartbeats 1000000
/-! f(.., lambda ..: ..). -/
namespace EV
open PySem PySem.Spec PyProof.Rows L2 LamX
/-- a lambda's text: what is known of it -/
structure LamD (T : Tb) (g : GX) (X : Cx) (W : Wd) (params : Arguments) (body : Expr) (scope : Scope) (ps : List Nat) (b : IE) : Prop where
  nm : ∃ lps, LamP X.env.scope scope lps ∧ ps.length = lps.length ∧ (∀ (j i : Nat) (x : Str), ps[j]? = some i → lps[j]? = some x → g.N[i]? = some x) ∧
    ∀ (q : Str) (cl : List (Str × Addr)) (pm cv ctv : Value) (us : List Value), us.length = lps.length → bindArgs (PySem.W.kla_fn "<lambda>" q params body scope cl pm cv ctv) ⟨us, []⟩ = pure (lps.zip us)
  df : defaultsOf params X.env = ([], [])
  bd : ∀ (X' : Cx) (p' : Pt) (k' : Nat) (cx' : CX), Rd T ⟨g.N, scope, g.gt⟩ X' p' k' cx' → p'.W = W → AE X' p' cx' body b
/-- the def that makes lambdas -/
def Mkr (X : Cx) (p : Pt) : Prop := ∃ c P, X.env.code = .ref c ∧ TabB X.base X.mg c P ∧ (P, lamQ X) ∈ p.W.T ∧ ∀ q ∈ p.W.T, q.1 = P → q.2 = lamQ X
section
variable {T : Tb} {g : GX} {X : Cx} {p : Pt} {k : Nat} {cx : CX} {e e1 : Expr} {es : List Expr} {pos pos2 pos3 : Pos}
/-- arguments, lambdas among them -/
inductive ArgL (T : Tb) (g : GX) (X : Cx) (p : Pt) (G H : Hp) (s : Shared) : List Av → List V → Prop
  | nil : ArgL T g X p G H s [] []
  | d {x : D} {v : V} {as : List Av} {vs : List V} : Rep p.W G x v → ArgL T g X p G H s as vs → ArgL T g X p G H s (.d x :: as) (v :: vs)
  | lam {params : Arguments} {body : Expr} {scope : Scope} {ps : List Nat} {b : IE} {f : Addr} {as : List Av} {vs : List V} : LamF X p.W.T params body scope H s f → LamD T g X p.W params body scope ps b → ArgL T g X p G H s as vs → ArgL T g X p G H s (.lam ⟨ps, b⟩ :: as) (.ref f :: vs)
theorem LamF.later {params : Arguments} {body : Expr} {scope : Scope} {H H' : Hp} {s s' : Shared} {f : Addr} {o : Obj} {pins pins' : List (Addr × Obj)} {σ σ' : L2.St} (F : LamF X p.W.T params body scope H s f) (I : L2.Inv X ((f, o) :: pins) σ H s) (I' : L2.Inv X pins' σ' H' s') (hm : (f, o) ∈ pins') (u : TblsUp H H')
    (tb : Tabs p.W.T H') : LamF X p.W.T params body scope H' s' f := by
  obtain ⟨c', pm, ctv, P, pos, ps, h1, h2, h3, h4, h5⟩ := F.ex
  have q1 := (I.pin (f, o) (List.mem_append_right _ List.mem_cons_self)).1
  obtain ⟨q2, q3, _⟩ := I'.pin (f, o) (List.mem_append_right _ hm)
  have q1 : s.heap.get? f = some o := q1
  rw [h1] at q1
  cases q1
  obtain ⟨more, h6⟩ := u P ps h2
  obtain ⟨ps', e1, e2, _⟩ := tb _ h5
  have e1 : H' P = some (.tbl ps') := e1
  rw [h6] at e1
  cases e1
  exact ⟨q3, F.nofr, c', pm, ctv, P, pos, _, q2, h6, e2, by rw [Array.toList_append]; exact among_keep _ _ h3 h4, h5⟩
theorem inv_pins {pins pins' : List (Addr × Obj)} {σ : L2.St} {H : Hp} {s : Shared} (I : L2.Inv X pins' σ H s) (h : ∀ q ∈ pins, q ∈ pins') : L2.Inv X pins σ H s :=
  ⟨I.ok, I.os, I.bare, I.base, I.loc, I.cell, I.free, I.freeC, fun q hq => I.pin q (by
    rcases List.mem_append.mp hq with z | z
    · exact List.mem_append_left _ z
    · exact List.mem_append_right _ (h q z)), I.hok, I.len⟩
/-- the last arguments: lambdas, defs as values -/
inductive TailR (T : Tb) (g : GX) (X : Cx) (p : Pt) (H : Hp) (s : Shared) : List IA → List V → Prop
  | nil : TailR T g X p H s [] []
  | fnv {f : Nat} {as : List IA} {vs : List V} : PySem.W.keepIn p.W.K (.ref (p.W.fnA f)) = true → TailR T g X p H s as vs → TailR T g X p H s (.e (.fnv f) :: as) (.ref (p.W.fnA f) :: vs)
  | lam {params : Arguments} {body : Expr} {scope : Scope} {ps : List Nat} {b : IE} {f : Addr} {as : List IA} {vs : List V} : LamF X p.W.T params body scope H s f → LamD T g X p.W params body scope ps b → TailR T g X p H s as vs → TailR T g X p H s (.lam ps b :: as) (.ref f :: vs)
structure PAT (T : Tb) (g : GX) (X : Cx) (p : Pt) (es : List Expr) (as : List IA) : Prop where
  run : ∀ (pos : Pos) (pins : List (Addr × Obj)) (s : Shared) (σ : L2.St) (H : Hp) (Qv : List Value → Shared → Prop), L2.Inv X pins σ H s → Tabs p.W.T H →
    (∀ vs us pins' H' s', L2.Inv X pins' σ H' s' → (∀ q ∈ pins, q ∈ pins') → ExtN H H' → TblsUp H H' → Tabs p.W.T H' → TailR T g X p H' s' as vs → Vals vs us → Qv us s') → wpAny (model X.prog X.w) X.A (spliced (backTo pos (starEach es X.env))) Qv X.xe s
theorem pat_nil : PAT T g X p [] [] := ⟨fun pos pins s σ H Qv I t h => Calls.spliced_nil (h [] [] pins H s I (fun _ z => z) (ExtN.refl H) (TblsUp.refl H) t .nil .nil)⟩
theorem pat_lam {params : Arguments} {body : Expr} {scope : Scope} {ps : List Nat} {b : IE} {lpos : Pos} {as : List IA} (mk : Mkr X p) (D : LamD T g X p.W params body scope ps b) (hs : PAT T g X p es as) : PAT T g X p (.Lambda params body scope lpos :: es) (.lam ps b :: as) := ⟨fun pos pins s σ H Qv I t h => by
  obtain ⟨c, P, hcode, TB, hm, hu⟩ := mk
  obtain ⟨lps, LP, _⟩ := D.nm
  show wpAny _ _ (spliced ((false, eval (.Lambda params body scope lpos) X.env) :: backTo pos (starEach es X.env))) _ _ s
  refine Calls.spliced_cons (lam_make3 I TB hcode hm hu t D.df (LP.has I.ok) fun f o H1 s1 I1 e1 u1 t1 F => ?_)
  refine hs.run pos _ s1 σ H1 _ I1 t1 fun vs us pins' H' s' I' sub e2 u2 t2 R r => ?_
  exact h (.ref f :: vs) (.ref f :: us) pins' H' s' I' (fun q hq => sub q (List.mem_cons_of_mem _ hq)) (e1.trans e2) (u1.trans u2) t2 (.lam (F.later I1 I' (sub _ List.mem_cons_self) u2 t2) D R) (.cons rfl r)⟩
theorem pat_fnv (h0 : Ctx g X p k) {i f : Nat} {x : Str} {as : List IA} (hk : PySem.W.keepIn p.W.K (.ref (p.W.fnA f)) = true) (hg : g.gt[i]? = some (x, .fn f)) (hx : glB g.sc x = true) (hp : plainNm x = true) (hs : PAT T g X p es as) : PAT T g X p (.Name x pos :: es) (.e (.fnv f) :: as) := ⟨fun pos2 pins s σ H Qv I t h => by
  have h1 := h0.mg _ (List.mem_of_getElem? hg)
  show wpAny _ _ (spliced ((false, eval (.Name x pos) X.env) :: backTo pos2 (starEach es X.env))) _ _ s
  refine Calls.spliced_cons (thn ((pe_glob (h0.gl hx) h1 (show RelV (.ref (p.W.fnA f)) _ from rfl) (pn_d hp)).run pins s σ H (fun v H1 => v = .ref (p.W.fnA f) ∧ H1 = H) I ⟨rfl, rfl⟩) fun u s1 ⟨v, H1, I1, r1, ev, eH⟩ => ?_)
  subst ev eH
  refine hs.run pos2 _ s1 σ _ _ I1 t fun vs us pins' H' s' I' sub e2 u2 t2 R r => ?_
  exact h _ _ pins' H' s' I' sub e2 u2 t2 (.fnv hk R) (.cons r1 r)⟩
/-- all arguments -/
structure AAL (T : Tb) (g : GX) (X : Cx) (p : Pt) (cx : CX) (es : List Expr) (as : List IA) : Prop where
  run : ∀ (n : Nat) (pos : Pos) (pins : List (Addr × Obj)) (s : Shared) (σ : L2.St) (H : Hp) (B : Bs) (G : Hp) (env : Env) (tmp : List (V × S)) (Qv : List Value → Shared → Prop), L2.Inv X pins σ H s → Link p.W B p.C p.n p.σp G σ H env tmp →
    Got (evAs (evN cx n) as env) (fun as' env' => ∀ vs us pins' H' s' G', L2.Inv X pins' σ H' s' → (∀ q ∈ pins, q ∈ pins') → ExtN G G' → Link p.W B p.C p.n p.σp G' σ H' env' tmp → ArgL T g X p G' H' s' as' vs → Vals vs us → Qv us s')
      (fun c env' => ∀ G' H', ExtN G G' → Link p.W B p.C p.n p.σp G' σ H' env' tmp → p.Wx (.ref (p.W.exc c)) none σ H') → wpAny (model X.prog X.w) X.A (spliced (backTo pos (starEach es X.env))) Qv X.xe s
theorem tail_ev {r : EvR} {G H : Hp} {s : Shared} (hr : ∀ f env, r.e (.fnv f) env = some (.ok (.d (.fnr f)) env) ∨ r.e (.fnv f) env = none) : ∀ {as : List IA} {vs : List V} {env : Env}, TailR T g X p H s as vs → evAs r as env ≠ none → ∃ as', evAs r as env = some (.ok as' env) ∧ ArgL T g X p G H s as' vs
  | _, _, env, .nil, _ => ⟨[], rfl, .nil⟩
  | _, _, env, .fnv (f := f) (as := as) hk R, hn => by
    simp only [evAs] at hn ⊢
    rcases hr f env with hr' | hr'
    · have e : evD r (.fnv f) env = some (.ok (.fnr f) env) := by
        show frz (r.e (.fnv f) env) = _
        rw [hr']; rfl
      rw [e] at hn ⊢
      obtain ⟨as', h1, h2⟩ := tail_ev (G := G) hr (env := env) R fun z => hn (by show (evAs r as env).bind _ = none; rw [z]; rfl)
      refine ⟨.d (.fnr f) :: as', ?_, .d (.fnr f hk) h2⟩
      show (evAs r as env).bind _ = _
      rw [h1]; rfl
    · have e : evD r (.fnv f) env = none := by
        show frz (r.e (.fnv f) env) = _
        rw [hr']; rfl
      rw [e] at hn
      exact absurd rfl hn
  | _, _, env, .lam F D R, hn => by
    simp only [evAs] at hn ⊢
    obtain ⟨as', h1, h2⟩ := tail_ev (G := G) hr (env := env) R fun z => hn (by rw [z]; rfl)
    exact ⟨_, by rw [h1]; rfl, .lam F D h2⟩
theorem evN_fnv {n f : Nat} {env : Env} : (evN cx n).e (.fnv f) env = some (.ok (.d (.fnr f)) env) ∨ (evN cx n).e (.fnv f) env = none := by
  cases n with
  | zero => exact .inr rfl
  | succ n => exact .inl rfl
theorem aal_tail {as : List IA} (h : PAT T g X p es as) : AAL T g X p cx es as := ⟨fun n pos pins s σ H B G env tmp Qv I L q => by
  refine h.run pos pins s σ H Qv I L.tabs fun vs us pins' H' s' I' sub e u t R r => ?_
  obtain ⟨as', h1, h2⟩ := tail_ev (G := G) (r := evN cx n) (fun f env => evN_fnv) (env := env) R fun z => by rw [z] at q; exact q
  rw [h1] at q
  exact (Got.okV q) vs us pins' H' s' G I' sub (ExtN.refl G) (L.up e u t) h2 r⟩
theorem aal_e {x : IE} {as : List IA} (he : AE X p cx e x) (hs : AAL T g X p cx es as) (hst : noStar e = true := by rfl) : AAL T g X p cx (e :: es) (.e x :: as) := ⟨fun n pos pins s σ H B G env tmp Qv I L q => by
  have q := Got.bind (show Got ((evD (evN cx n) x env).bind _) _ _ from q)
  rw [star_cons hst]
  show wpAny _ _ (spliced ((false, eval e X.env) :: backTo pos (starEach es X.env))) _ _ s
  refine Calls.spliced_cons (thn ((pe_D (he n)).run pins s σ H (fun v H1 => ∃ d env1 G1, Link p.W B p.C p.n p.σp G1 σ H1 env1 tmp ∧ Rep p.W G1 d v ∧ ExtN G G1 ∧ Got ((evAs (evN cx n) as env1).bind fun ds env'' => some (.ok (Av.d d :: ds) env'')) _ _) I ⟨B, G, env, tmp, L, q.imp (fun d env1 q v G1 H1 x1 L1 r1 => ⟨d, env1, G1, L1, r1, x1, q⟩) fun c env' q => q⟩) fun u s1 ⟨v, H1, I1, rv, d, env1, G1, L1, r1, x1, q1⟩ => ?_)
  refine hs.run n pos pins s1 σ H1 B G1 env1 tmp _ I1 L1 (q1.bind.imp (fun as' env' q vs us pins' H' s' G' I' sub x2 L2 A r => ?_) fun c env' q G' H' x2 L2 => q G' H' (x1.trans x2) L2)
  exact (Got.okV q) (v :: vs) (u :: us) pins' H' s' G' I' sub (x1.trans x2) L2 (.d (r1.ext x2) A) (.cons rv r)⟩
/-! ### the call -/
/-- the lambdas' values -/
theorem argL_args {G H : Hp} {s : Shared} {env : Env} : ∀ {as : List Av} {vs : List V}, ArgL T g X p G H s as vs → ∀ (m : Nat) {ss : List S}, argS env as m = some ss → ∃ C : List V, C.length = (lamsOf as).length ∧ ss.length = vs.length ∧ (∀ q ∈ vs.zip ss, True) ∧
    (∀ (C0 : List V), C0.length = m → ∀ C1, RepT p.W ⟨C0 ++ (C ++ C1), fun _ => none⟩ G H (vs.zip ss) []) ∧
    ∀ (j : Nat) (L : Lam), (lamsOf as)[j]? = some L → ∃ f : Addr, C[j]? = some (V.ref f) ∧ ∃ params body scope, LamF X p.W.T params body scope H s f ∧ LamD T g X p.W params body scope L.ps L.body
  | _, _, .nil, m, ss, h => by
    simp only [argS, Option.some.injEq] at h
    subst h
    exact ⟨[], rfl, rfl, fun _ _ => trivial, fun _ _ _ => .nil, fun j L h => by simp [lamsOf] at h⟩
  | _, _, .d r A, m, ss, h => by
    simp only [argS, Option.map_eq_some_iff] at h
    obtain ⟨l, e1, rfl⟩ := h
    obtain ⟨C, q1, q2, _, q3, q4⟩ := argL_args A m e1
    exact ⟨C, q1, by simp [q2], fun _ _ => trivial, fun C0 h0 C1 => by simpa using RepT.cons (.d r) (q3 C0 h0 C1), q4⟩
  | _, _, .lam (f := f) F D A, m, ss, h => by
    simp only [argS, Option.map_eq_some_iff] at h
    obtain ⟨l, e1, rfl⟩ := h
    obtain ⟨C, q1, q2, _, q3, q4⟩ := argL_args A (m + 1) e1
    refine ⟨.ref f :: C, by simp [lamsOf, q1], by simp [q2], fun _ _ => trivial, fun C0 h0 C1 => ?_, fun j L hj => ?_⟩
    · have z := q3 (C0 ++ [.ref f]) (by simp [h0]) C1
      rw [List.append_assoc] at z
      have z : RepT p.W ⟨C0 ++ (.ref f :: C ++ C1), fun _ => none⟩ G H _ [] := z
      have y : RepS p.W (C0 ++ (.ref f :: C ++ C1)) G H (.clo m) (.ref f) [] := .clo (by rw [List.getElem?_append_right (by omega), h0, Nat.sub_self]; rfl)
      simpa using RepT.cons y z
    · cases j with
      | zero =>
        simp only [lamsOf, List.getElem?_cons_zero, Option.some.injEq] at hj
        subst hj
        exact ⟨f, rfl, _, _, _, F, D⟩
      | succ j =>
        obtain ⟨f', z1, z2⟩ := q4 j L (by simpa [lamsOf] using hj)
        exact ⟨f', by simpa using z1, z2⟩
theorem callL_ok (h : Cl T g X p k cx) {f : Nat} {i : FnI} (hi : T.fi f = some i) {pins : List (Addr × Obj)} {B : Bs} {G : Hp} {σ : L2.St} {H : Hp} {s : Shared} {env : Env} {tmp : List (V × S)} {as : List Av} {vs : List V} {Q : VK} {E : XK}
    (I : L2.Inv X pins σ H s) (L : Link p.W B p.C p.n p.σp G σ H env tmp) (ha : ArgL T g X p G H s as vs) (hne : lamsOf as ≠ [])
    (q : Got (callR cx f as env) (fun s e => ∀ v G' H', ExtN G G' → Link p.W B p.C p.n p.σp G' σ H' e ((v, s) :: tmp) → Q v H') fun c e => ∀ G' H', ExtN G G' → Link p.W B p.C p.n p.σp G' σ H' e tmp → E (.ref (p.W.exc c)) none H') :
    spF p.W X.mg X.base T f i k X.A X.stack s vs H Q E := by
  have hemp : (lamsOf as).isEmpty = false := by cases hh : lamsOf as with | nil => exact absurd hh hne | cons => rfl
  unfold callR at q
  by_cases hc : (decide (specs as ≤ 1) && ((bwsOf as).isEmpty || (lamsOf as).isEmpty) && ((lamsOf as).isEmpty || (noCloE env && decide (env.length = cx.ns)))) = true
  · rw [if_pos hc] at q
    rw [Bool.and_eq_true, hemp, Bool.false_or] at hc
    have hc2 := hc.2
    rw [Bool.and_eq_true] at hc2
    obtain ⟨hnc, hlen⟩ := hc2
    have hlen : env.length = cx.ns := by simpa using hlen
    have hσp : p.σp = [] := by
      obtain ⟨A, T0, h1, _⟩ := L.reps
      have e := h1.length
      rw [List.length_append, L.len, hlen, h.ns] at e
      exact List.length_eq_zero_iff.mp (by omega)
    cases t : argS env as 0 with
    | none => rw [t] at q; exact q.elim
    | some ss =>
      rw [t, hemp] at q
      simp only [Bool.false_eq_true, if_false] at q
      rw [h.hc] at q
      cases k with
      | zero => exact q.elim
      | succ k =>
        cases t2 : T.ev (k + 1) f ss (lamsOf as) env with
        | none => rw [t2] at q; exact q.elim
        | some rr =>
          rw [t2] at q
          obtain ⟨np, le, _⟩ := h.so (k + 1) (Nat.le_refl _) f i hi
          have hss := np _ _ _ _ t2
          obtain ⟨C, c1, c2, _, c3, c4⟩ := argL_args (env := env) ha 0 t
          have c3 := c3 [] rfl []
          rw [List.nil_append, List.append_nil] at c3
          rw [hσp] at L
          obtain ⟨A0, L0, back⟩ := L.lendAll hnc c2 (by rw [← c2, hss]; exact le) c3
          refine ⟨C, σ, _, G, ss, lamsOf as, env, by rw [← c2]; exact hss, c2, L0, fun j lam hj => ?_, ?_⟩
          · obtain ⟨fa, z1, params, body, scope, F, D⟩ := c4 j lam hj
            obtain ⟨lps, LP, d1, d2, d3⟩ := D.nm
            exact ⟨fa, z1, clo_at (T := T) (g := g) (L := lam) h.c (fun m hm => h.so m (Nat.le_succ_of_le hm)) I LP F d3 d1 d2 (fun X' p' cx' rd e => D.bd X' p' k cx' rd e) C⟩
          · rw [t2]
            cases rr with
            | ok r as' pe =>
              intro v G' σ' H' env' x Lf he hpe
              replace q := (show Got (if (noCloE pe && noClo r) = true then some (Out.ok r pe) else none) _ _ from q)
              by_cases hp : (noCloE pe && noClo r) = true
              · rw [if_pos hp] at q
                rw [Bool.and_eq_true] at hp
                have z := back Lf (fun q hq => (by
                  rw [List.mem_singleton] at hq
                  rw [hq]; exact hp.2)) (by rw [← hpe]; exact hp.1)
                rw [← hpe] at z
                rw [hσp] at q
                exact (Got.okV q) v G' H' x z
              · rw [if_neg hp] at q; exact q.elim
            | exn c as' pe =>
              intro G' σ' H' env' x Lf he hpe
              replace q := (show Got (if noCloE pe = true then some (Out.exn c pe) else none) _ _ from q)
              by_cases hp : noCloE pe = true
              · rw [if_pos hp] at q
                have z := back Lf (fun q hq => by cases hq) (by rw [← hpe]; exact hp)
                rw [← hpe] at z
                rw [hσp] at q
                exact (show ∀ G' H', ExtN G G' → Link p.W B p.C p.n [] G' σ H' pe tmp → _ from q) G' H' x z
              · rw [if_neg hp] at q; exact q.elim
  · rw [if_neg hc] at q; exact q.elim
end
end EV

set_option maxRecDepth 100000
set_option maxHeartbeats 1000000
/-! f(.., lambda ..: ..), o.m(lambda ..: ..). -/
namespace EV
open PySem PySem.Spec PyProof.Rows L2 LamX
section
variable {T : Tb} {g : GX} {X : Cx} {p : Pt} {k : Nat} {cx : CX} {e e1 : Expr} {es : List Expr} {pos pos2 pos3 : Pos}
def hasLam : List IA → Bool
  | [] => false
  | .lam _ _ :: _ => true
  | _ :: r => hasLam r
theorem lams_of {r : EvR} : ∀ {xs : List IA} {env env' : Env} {as : List Av}, hasLam xs = true → evAs r xs env = some (.ok as env') → lamsOf as ≠ []
  | [], _, _, _, h, _ => by cases h
  | .lam ps b :: xs, env, env', as, _, h => by
    simp only [evAs] at h
    cases q2 : evAs r xs env with
    | none => rw [q2] at h; cases h
    | some oo => cases oo with
      | exn c e => rw [q2] at h; cases h
      | ok as2 e2 => rw [q2] at h; cases h; simp [lamsOf]
  | .e x :: xs, env, env', as, hl, h => by
    simp only [evAs] at h
    cases q : evD r x env with
    | none => rw [q] at h; cases h
    | some oo => cases oo with
      | exn c e => rw [q] at h; cases h
      | ok d e1 =>
        rw [q] at h
        have h : (evAs r xs e1).bind (fun ds env'' => some (.ok (.d d :: ds) env'')) = some (.ok as env') := h
        cases q2 : evAs r xs e1 with
        | none => rw [q2] at h; cases h
        | some oo => cases oo with
          | exn c e => rw [q2] at h; cases h
          | ok as2 e2 =>
            rw [q2] at h
            cases h
            exact (show lamsOf as2 ≠ [] from lams_of (xs := xs) hl q2)
  | .ow x :: xs, env, env', as, hl, h => by
    simp only [evAs] at h
    cases q : r.e x env with
    | none => rw [q] at h; cases h
    | some oo => cases oo with
      | exn c e => rw [q] at h; cases h
      | ok d e1 =>
        rw [q] at h
        have h : (evAs r xs e1).bind (fun ds env'' => some (.ok (.ow d :: ds) env'')) = some (.ok as env') := h
        cases q2 : evAs r xs e1 with
        | none => rw [q2] at h; cases h
        | some oo => cases oo with
          | exn c e => rw [q2] at h; cases h
          | ok as2 e2 =>
            rw [q2] at h
            cases h
            exact (show lamsOf as2 ≠ [] from lams_of (xs := xs) hl q2)
  | .bw i :: xs, env, env', as, hl, h => by
    simp only [evAs] at h
    split at h
    · cases q2 : evAs r xs env with
      | none => rw [q2] at h; cases h
      | some oo => cases oo with
        | exn c e => rw [q2] at h; cases h
        | ok as2 e2 =>
          rw [q2] at h
          cases h
          exact (show lamsOf as2 ≠ [] from lams_of (xs := xs) hl q2)
    · cases h
theorem ep_pins {pins pins' : List (Addr × Obj)} {σ : L2.St} {Q : VK} {u : Value} {s' : Shared} (h : EP X pins' σ Q u s') (sub : ∀ q ∈ pins, q ∈ pins') : EP X pins σ Q u s' := by
  obtain ⟨v, H', I, r, q⟩ := h
  exact ⟨v, H', inv_pins I sub, r, q⟩
theorem ae_callL (h : Cl T g X p k cx) {f j : Nat} {i : FnI} {x : Str} {as : List IA} (hi : T.fi f = some i) (hg : g.gt[j]? = some (x, .fn f)) (hx : glB g.sc x = true) (hp : plainNm x = true) (ha : AAL T g X p cx (e :: es) as) (hl : hasLam as = true)
    (hst : noStar e = true := by rfl) (hss : es.all noStar = true := by rfl) : AE X p cx (.Call (.Name x pos) (e :: es) [] pos2) (.call .fn f as) := by
  obtain ⟨fd, F, hb, hk⟩ := h.toRd.fn hi
  refine ae_step fun n => ⟨fun pins s σ H Q I ⟨B, G, env, tmp, L, q⟩ => ?_⟩
  have q := Got.bind (show Got ((evAs (evN cx n) as env).bind _) _ _ from q)
  refine wpAny_Call_Name_kw (ld_glob I (h.c.gl hx) (h.c.mg _ (List.mem_of_getElem? hg)) (PySem.W.callWith_K (h₀ := X.base) I.ok.mod.kin hk (ha.run n pos2 pins s σ H B G env tmp _ I L (q.impE (fun as' env' he q vs us pins' H' s' G' I' sub x1 L1 A r => ⟨I'.kIn, ?_⟩) fun c env' q => q)) (star_cons hst) (star_none hss)) (pn_d hp))
  refine thn (run_fnT (E := WE p.Wx) F (h.c.room.mono (by omega)) hb (passAt h.c.takes σ) I' r (callL_ok h hi I' L1 A (lams_of hl he) (q.imp (fun s e q v G2 H2 x2 L2 => q v G2 H2 (x1.trans x2) L2) fun c e q G2 H2 x2 L2 => q G2 H2 (x1.trans x2) L2))) fun u s' z => ep_pins z sub
theorem ae_methEL (h : Cl T g X p k cx) {f c mm : Nat} {i : FnI} {m : Str} {x : IE} {as : List IA} {pl : Sem Bool} (hi : T.fi f = some i) (hm : MetOk p.W c f m) (he : AE X p cx e1 x) (ha : AAL T g X p cx (e :: es) as) (hl : hasLam as = true)
    (ht : eval (.Call (.Attribute e1 m pos2) (e :: es) [] pos3) X.env = methEv e1 m (e :: es) pos2 pos3 X.env pl := by rfl) (hst : noStar e = true := by rfl) (hss : es.all noStar = true := by rfl) :
    AE X p cx (.Call (.Attribute e1 m pos2) (e :: es) [] pos3) (.call (.meth c mm) f (.e x :: as)) := by
  obtain ⟨fd, F, hb, hk⟩ := h.toRd.fn hi
  obtain ⟨c1, m1⟩ := h.toRd.cls hm
  refine ae_step fun n => ⟨fun pins s σ H Q I ⟨B, G, env, tmp, L, q⟩ => ?_⟩
  have q := Got.bind (show Got ((evAs (evN cx n) [.e x] env).bind _) _ _ from q)
  have q := Got.bind (show Got ((evD (evN cx n) x env).bind _) _ _ from q)
  refine PySem.W.methodCall_KW (pl := pl) (thn ((pe_D (he n)).run pins s σ H (fun v H1 => ∃ d env1 G1, Link p.W B p.C p.n p.σp G1 σ H1 env1 tmp ∧ Rep p.W G1 d v ∧ ExtN G G1 ∧ Got (if recvOk c env1 [.d d] = true then (evAs (evN cx n) as env1).bind fun l2 env2 => callR cx f (.d d :: l2) env2 else none) _ _) I
    ⟨B, G, env, tmp, L, q.imp (fun d env1 q v G1 H1 x1 L1 r1 => ⟨d, env1, G1, L1, r1, x1, q⟩) fun c env' q => q⟩) fun u s1 ⟨v, H1, I1, rv, d, env1, G1, L1, r1, x1, q1⟩ => ?_) ht
  by_cases hc : recvOk c env1 [.d d] = true
  · rw [if_pos hc] at q1
    obtain ⟨c', fs, rfl, hcc⟩ : ∃ c' fs, d = .obj c' fs ∧ (c == c') = true := by
      unfold recvOk at hc
      split at hc
      · rename_i c' fs hh; cases hh; exact ⟨_, _, rfl, hc⟩
      · rename_i hh; cases hh
      · cases hc
    have := eq_of_beq hcc
    subst this
    cases r1 with
    | @obj a dx _ _ vs0 k1 k2 k3 =>
      obtain rfl : u = Value.ref a := rv
      have ra := Rep.obj k1 k2 k3
      refine getmeth_ok I1 (L1.sub _ _ k1 fun _ z => by cases z) c1 m1 (lookup_none (by rw [hm.ok.fld]; exact hm.no)) ?_
      refine PySem.W.callWith_K (first := [.ref a]) (h₀ := X.base) I1.ok.mod.kin m1.kp (ha.run n pos3 pins s1 σ H1 B G1 env1 tmp _ I1 L1 ((Got.bind q1).impE (fun as' env' he q vs us pins' H' s' G' I' sub x2 L2 A r => ⟨I'.kIn, ?_⟩) fun c env' q G' H' x2 L2 => q G' H' (x1.trans x2) L2)) (star_cons hst) (star_none hss)
      refine thn (run_fnT (E := WE p.Wx) (us := .ref a :: us) (vs := .ref a :: vs) F (h.c.room.mono (by omega)) hb (passAt h.c.takes σ) I' (.cons rfl r) (callL_ok h hi I' L2 (.d (ra.ext x2) A) (show lamsOf as' ≠ [] from lams_of hl he) (q.imp (fun s e q v G3 H3 x3 L3 => q v G3 H3 ((x1.trans x2).trans x3) L3) fun c e q G3 H3 x3 L3 => q G3 H3 ((x1.trans x2).trans x3) L3))) fun u s' z => ep_pins z sub
  · rw [if_neg hc] at q1; exact q1.elim
end
end EV

set_option maxRecDepth 100000
set_option maxHeartbeats 1000000
/-! Short forms for the derivations. -/
namespace EV
open PySem PySem.Spec PyProof.Rows L2 LamX
section
variable {T : Tb} {g : GX} {X : Cx} {p : Pt} {k : Nat} {cx : CX} {e e1 e2 : Expr} {es : List Expr} {pos pos2 pos3 pos4 : Pos} {scope : Scope} {st : Stmt} {sts : List Stmt}
theorem Rd.blk (h : Rd T g X p k cx) (s : Shared) (H : Hp) (C : Addr) (cl : List (Str × Addr)) (fp : List Addr) : Rd T (g.blk scope) (X.blk s H scope (compEnvC scope cl C X.env) fp) p.shut k cx := ⟨h.c.blk s H C cl fp, h.so, h.hc⟩
theorem Cl.tr (h : Cl T g X p k cx) {W : WX} {pn : List (Addr × Obj)} {xe : Value → Shared → Prop} (tk : Takes (X.tr pn xe) W) (po : PassesOwn (model X.prog X.w) X.A X.env xe) : Cl T g (X.tr pn xe) (p.wx W) k cx where
  c := h.c.tr tk
  so := h.so
  hc := h.hc
  cl := by
    obtain ⟨outer, s, H, hi, hC⟩ := h.cl
    exact ⟨outer, s, H, ⟨hi.prog, hi.w, hi.K, hi.mg, hi.base, hi.outer, hi.ex, hi.s0, hi.h0⟩, hC⟩
  ns := h.ns
  room2 := h.room2
  fnT := h.fnT
  po := po
  stk := h.stk
  frm := h.frm
theorem Cl.exE (h : Cl T g X p k cx) : X.ex = [] := by
  obtain ⟨outer, s, H, hi, hC⟩ := h.cl
  exact hi.ex
/-! operators -/
theorem Rd.eq (h : Rd T g X p k cx) : OpR X (compareOp .Eq) (rP p .eq) := opP_eq h.c.K (by have := h.c.units; omega)
theorem Rd.ne (h : Rd T g X p k cx) : OpR X (compareOp .NotEq) (rP p .ne) := opP_ne h.c.K (by have := h.c.units; omega)
theorem Rd.inn (h : Rd T g X p k cx) : OpR X (compareOp .In) (rP p .inn) := opP_inn h.c.K h.c.units
theorem Rd.nin (h : Rd T g X p k cx) : OpR X (compareOp .NotIn) (rP p .nin) := opP_nin h.c.K h.c.units
theorem Rd.idx (h : Rd T g X p k cx) : IxR X (rP p .idx) := ixP h.c.K
theorem Rd.len (h : Rd T g X p k cx) : CallR X (.builtin "len") (rPs p .len) := callP_len h.c.K
/-! what is not said: the evaluator stops there -/
abbrev stk : IE := .prim .neg []
theorem stk_none {r : EvR} {env : Env} : stepE cx r stk env = none := rfl
theorem ae_stk : AE X p cx e stk := fun n => match n with
  | 0 => pe_no
  | n + 1 => ⟨fun pins s σ H Q I ⟨B, G, env, tmp, L, q⟩ => by
    have q : Got (stepE cx (evN cx n) stk env) _ _ := q
    rw [stk_none] at q; exact q.elim⟩
theorem evN_stk {n : Nat} {env : Env} : (evN cx n).e stk env = none := by cases n <;> rfl
theorem ab_stk : AB X p cx e stk := fun n => ⟨fun pins s σ H Q I ⟨B, G, env, tmp, L, q⟩ => by
  have q : Got (((evN cx n).e stk env).bind _) _ _ := q
  rw [evN_stk] at q; exact q.elim⟩
theorem ai_stk {tg : Expr} : AI X p cx tg e (.it (.e stk)) := fun n => ⟨fun pins s σ H R I ⟨B, G, env, tmp, L, q⟩ => by
  exfalso
  have q := Got.bind (show Got ((evOs (evN cx n) [.e stk] env).bind _) _ _ from q)
  have q := Got.bind (show Got ((evO1 (evN cx n) [.e stk] env).bind _) _ _ from q)
  have q := Got.bind (show Got ((evP (evN cx n) (.e stk) env).bind _) _ _ from q)
  have q := Got.bind (show Got ((evD (evN cx n) stk env).bind _) _ _ from q)
  have q := Got.bind (show Got (((evN cx n).e stk env).bind _) _ _ from q)
  rw [evN_stk] at q
  exact q⟩
theorem as_stk : AS X p cx sts [.exp stk] := as_stuck fun n env => by
  cases n with
  | zero => rfl
  | succ n =>
    show ((((evN cx n).e stk env).bind fun _ env' => some (.ok Fl.nx env')).bind _) = none
    rw [evN_stk]; rfl
/-! lambdas -/
theorem lam_slots {N : List Str} {ps : List Nat} {lps : List Str} (h : (ps.zip lps).all (fun q => decide (N[q.1]? = some q.2)) = true) : ∀ (j i : Nat) (x : Str), ps[j]? = some i → lps[j]? = some x → N[i]? = some x := fun j i x h1 h2 => by
  have hm : (i, x) ∈ ps.zip lps := by
    induction ps generalizing lps j with
    | nil => simp at h1
    | cons a ps ih =>
      cases lps with
      | nil => simp at h2
      | cons b lps =>
        cases j with
        | zero => simp at h1 h2; subst h1 h2; simp
        | succ j =>
          simp only [List.zip_cons_cons, List.all_cons, Bool.and_eq_true] at h
          exact List.mem_cons_of_mem _ (ih h.2 j (by simpa using h1) (by simpa using h2))
  simpa using List.all_eq_true.mp h _ hm
variable {params : Arguments} {body : Expr} {b : IE}
theorem lamD0 (h : Ctx g X p k) (hl : lamPB g.sc scope [] = true) (hb : ∀ (q : Str) (cl : List (Str × Addr)) (pm cv ctv : Value), bindArgs (PySem.W.kla_fn "<lambda>" q params body scope cl pm cv ctv) ⟨[], []⟩ = pure []) (hd : defaultsOf params X.env = ([], []))
    (bd : ∀ (X' : Cx) (p' : Pt) (k' : Nat) (cx' : CX), Rd T ⟨g.N, scope, g.gt⟩ X' p' k' cx' → p'.W = p.W → AE X' p' cx' body b) : LamD T g X p.W params body scope [] b :=
  ⟨⟨[], by rw [h.sc]; exact lamP_by hl, rfl, fun j i x h1 _ => by simp at h1, fun q cl pm cv ctv us hu => by
    cases us with
    | nil => exact hb q cl pm cv ctv
    | cons a l => simp at hu⟩, hd, bd⟩
theorem lamD1 (h : Ctx g X p k) {i : Nat} {x : Str} (hN : g.N[i]? = some x) (hl : lamPB g.sc scope [x] = true) (hb : ∀ (q : Str) (cl : List (Str × Addr)) (pm cv ctv a : Value), bindArgs (PySem.W.kla_fn "<lambda>" q params body scope cl pm cv ctv) ⟨[a], []⟩ = pure [(x, a)]) (hd : defaultsOf params X.env = ([], []))
    (bd : ∀ (X' : Cx) (p' : Pt) (k' : Nat) (cx' : CX), Rd T ⟨g.N, scope, g.gt⟩ X' p' k' cx' → p'.W = p.W → AE X' p' cx' body b) : LamD T g X p.W params body scope [i] b :=
  ⟨⟨[x], by rw [h.sc]; exact lamP_by hl, rfl, lam_slots (by simpa using hN), fun q cl pm cv ctv us hu => by
    match us, hu with
    | [a], _ => exact hb q cl pm cv ctv a⟩, hd, bd⟩
theorem lamD2 (h : Ctx g X p k) {i j : Nat} {x y : Str} (hN : g.N[i]? = some x) (hN2 : g.N[j]? = some y) (hl : lamPB g.sc scope [x, y] = true) (hb : ∀ (q : Str) (cl : List (Str × Addr)) (pm cv ctv a c : Value), bindArgs (PySem.W.kla_fn "<lambda>" q params body scope cl pm cv ctv) ⟨[a, c], []⟩ = pure [(x, a), (y, c)]) (hd : defaultsOf params X.env = ([], []))
    (bd : ∀ (X' : Cx) (p' : Pt) (k' : Nat) (cx' : CX), Rd T ⟨g.N, scope, g.gt⟩ X' p' k' cx' → p'.W = p.W → AE X' p' cx' body b) : LamD T g X p.W params body scope [i, j] b :=
  ⟨⟨[x, y], by rw [h.sc]; exact lamP_by hl, rfl, lam_slots (by simpa using ⟨hN, hN2⟩), fun q cl pm cv ctv us hu => by
    match us, hu with
    | [a, c], _ => exact hb q cl pm cv ctv a c⟩, hd, bd⟩
/-! f(x), a value or a test that is a comparison -/
theorem ae_stmt {x : IS} {xs : List IS} (h1 : AS1 X p cx st x) (h2 : AS X p cx sts xs) : AS X p cx (st :: sts) (x :: xs) := as_cons h1 h2
end
end EV

set_option maxRecDepth 100000
set_option maxHeartbeats 1000000
/-! More short forms: stores whose order hangs on the names; a field == []. -/
namespace EV
open PySem PySem.Spec PyProof.Rows L2 LamX
/-- a frame with those names -/
def dumE (sc : Scope) : PySem.Env := envOfC "" sc 0 0 .none
theorem sw_env {v : Expr} {t : Option Expr} {l : Nat} {env : PySem.Env} {sc : Scope} (h : env.scope = sc) : swapsWith v t l env = swapsWith v t l (dumE sc) := by
  unfold swapsWith Env.blockKind Env.kindOf
  rw [h]
  rfl
theorem sws_env {ts : List Expr} {v : Expr} {l : Nat} {env : PySem.Env} {sc : Scope} (h : env.scope = sc) : swapsWithSole ts v l env = swapsWithSole ts v l (dumE sc) := by
  match ts with
  | [] => rfl
  | [t] => exact sw_env h
  | _ :: _ :: _ => rfl
theorem sst_env {ts : List Expr} {v : Expr} {env : PySem.Env} {sc : Scope} (h : env.scope = sc) : swappedStores ts v env = swappedStores ts v (dumE sc) := by
  unfold swappedStores Env.blockKind Env.kindOf
  rw [h]
  rfl
section
variable {T : Tb} {g : GX} {X : Cx} {p : Pt} {k : Nat} {cx : CX} {e e1 e2 e3 tg it elt : Expr} {es : List Expr} {pos pos2 pos3 pos4 : Pos} {scope : Scope} {ifs : List Expr}
theorem inB {F : Cx → Prop} (h : Rd T g X p k cx) (f : ∀ X', Rd T (g.blk scope) X' p.shut k cx → F X') : InB X scope F := fun s H C cl fp => f _ (h.blk s H C cl fp)
theorem as1_setD (h : Ctx g X p k) {i : Nat} {y : Str} {b : Bool} {x : IE} (he : AE X p cx e x) (hN : g.N[i]? = some y) (hv : StB X g y) (hs : swapsWith e (some (.Name y pos2)) pos.line (dumE g.sc) = pure false) : AS1 X p cx (.Assign [.Name y pos2] e pos) (.asg i b x) :=
  as1_set h he hN hv (by rw [sw_env h.sc]; exact hs)
theorem as1_setLcD (h : Ctx g X p k) {i : Nat} {y : Str} {b : Bool} {src : IT} {ig : IG} {cnd : Option IE} {el : IE} {own : List (Str × Nat)} (hN : g.N[i]? = some y) (hv : locB g.sc y = true) (hi : AI X p cx tg it src) (ok : blkC g.N g.sc scope own = true) (ho : own.map (·.2) = ownG ig)
    (hg : InB X scope fun X' => AG X' p.shut tg ig) (ht : InB X scope fun X' => AIf X' p.shut cx ifs cnd) (he : InB X scope fun X' => AE X' p.shut cx elt el)
    (hsw : swapsWith (.ListComp elt [⟨tg, it, ifs, 0⟩] scope pos) (some (.Name y pos2)) pos3.line (dumE g.sc) = pure true) (hs : ∀ x, foldedSetIterable it X.env x = pure x := by intro _; rfl) : AS1 X p cx (.Assign [.Name y pos2] (.ListComp elt [⟨tg, it, ifs, 0⟩] scope pos) pos3) (.asg i b (.lc src ig cnd el)) :=
  as1_setLc h hN hv hi ok ho hg ht he (by rw [sw_env h.sc]; exact hsw) hs
theorem as1_par2D (h : Ctx g X p k) {i j : Nat} {x y : Str} {a b : IE} {ba bb : Bool} {px py pt pt2 : Pos} {kt k2 : Nat} (hi : g.N[i]? = some x) (hj : g.N[j]? = some y) (hij : (i == j) = false) (hx : locB g.sc x = true) (hy : locB g.sc y = true) (ha : ASs X p cx [e1, e2] [a, b])
    (hw : swappedStores [.Tuple [.Name x px, .Name y py] kt pt] (.Tuple [e1, e2] k2 pt2) (dumE g.sc) = pure (some [x, y])) : AS1 X p cx (.Assign [.Tuple [.Name x px, .Name y py] kt pt] (.Tuple [e1, e2] k2 pt2) pos) (.par [(i, ba), (j, bb)] [a, b]) :=
  as1_par2 h hi hj hij hx hy ha (by rw [sst_env h.sc]; exact hw) (by rw [sws_env h.sc]; rfl)
theorem as1_par3D (h : Ctx g X p k) {i j l : Nat} {x y z : Str} {a b c : IE} {ba bb bc : Bool} {px py pz pt pt2 : Pos} {kt k2 : Nat} (hi : g.N[i]? = some x) (hj : g.N[j]? = some y) (hk : g.N[l]? = some z) (hij : (i == j) = false) (hil : (i == l) = false) (hjl : (j == l) = false) (hx : locB g.sc x = true) (hy : locB g.sc y = true) (hz : locB g.sc z = true) (ha : ASs X p cx [e1, e2, e3] [a, b, c])
    (hw : swappedStores [.Tuple [.Name x px, .Name y py, .Name z pz] kt pt] (.Tuple [e1, e2, e3] k2 pt2) (dumE g.sc) = pure (some [x, y, z])) : AS1 X p cx (.Assign [.Tuple [.Name x px, .Name y py, .Name z pz] kt pt] (.Tuple [e1, e2, e3] k2 pt2) pos) (.par [(i, ba), (j, bb), (l, bc)] [a, b, c]) :=
  as1_par3 h hi hj hk hij hil hjl hx hy hz ha (by rw [sst_env h.sc]; exact hw) (by rw [sws_env h.sc]; rfl)
theorem as1_unpD (h : Ctx g X p k) {ig : IG} {x : IE} (he : AE X p cx e x) (hg : AG X p tg ig) (hs : swapsWithSole [tg] e pos.line (dumE g.sc) = pure false) (hw : swappedStores [tg] e (dumE g.sc) = pure none) (h1 : (assignEach [tg] X.env).map (·.2) = [assign tg X.env] := by rfl) :
    AS1 X p cx (.Assign [tg] e pos) (.unp ig (.e x)) := as1_unp he hg (by rw [sws_env h.sc]; exact hs) (by rw [sst_env h.sc]; exact hw) h1
/-! a field alone -/
variable {r : EvR} {c j : Nat} {f : Str}
theorem one_F {o : Prim} {i : Nat} {K : V → Hp → Prop} {σ : L2.St} {H : Hp} {Q : VK} (q : tE p (stepE cx r (.prim o [.p (.f i c j)])) σ H Q)
    (hk : ∀ (B : Bs) (G : Hp) (env : Env) (tmp : List (V × S)) (d : D) (s : S) (v : V), Link p.W B p.C p.n p.σp G σ H env tmp → RRs p.W p.C G H [d] [v] → prim o [d] = some s → (∀ v G' H', ExtN G G' → Link p.W B p.C p.n p.σp G' σ H' env ((v, s) :: tmp) → Q v H') → K v H) : tF p i c j σ H K := by
  obtain ⟨B, G, env, tmp, L, q⟩ := q
  have q := Got.bind (show Got ((evOs r [.p (.f i c j)] env).bind _) _ _ from q)
  have q := Got.bind (show Got ((evO1 r [.p (.f i c j)] env).bind _) _ _ from q)
  have q := Got.bind (show Got ((evP r (.p (.f i c j)) env).bind _) _ _ from q)
  simp only [evP] at q
  cases t : peekS (.f i c j) env with
  | none => rw [t] at q; exact q.elim
  | some s =>
    rw [t] at q
    have q : Got (match fillO (unlock1 i env (lock1 i env)) [.inr (.f i c j)] with | some ds => some (.ok ds (unlock1 i env (lock1 i env))) | none => none) _ _ := q
    rw [unlock_lock] at q
    simp only [fillO, t] at q
    refine ⟨B, G, env, tmp, s, L, t, fun a v A h1 h2 h3 => ?_⟩
    cases td : s.toD with
    | none => rw [td] at q; exact q.elim
    | some d =>
      rw [td] at q
      cases tp : prim o [d] with
      | none =>
        have q : Got (match prim o [d] with | some s => some (.ok s env) | none => none) _ _ := q
        rw [tp] at q; exact q.elim
      | some s2 =>
        have q : Got (match prim o [d] with | some s => some (.ok s env) | none => none) _ _ := q
        rw [tp] at q
        exact hk B G env tmp d s2 v L (.cons (.inr ⟨s, A, h3, td⟩) .nil) tp q
theorem im_empF (hK : X.K = p.W.K) {i : Nat} {σ : L2.St} {H : Hp} {Q : VK} (q : tE p (stepE cx r (.prim .emp [.p (.f i c j)])) σ H Q) : tOp (rEmp X.K) (tF p i c j) (tLst tNil) σ H Q :=
  one_F q fun B G env tmp d s v L rr t k => by
    obtain ⟨a, xs, rfl, h1, rfl⟩ := emp_inv hK L.sub rr t
    exact ⟨Nat.zero_le _, fun l hl => ⟨a, l, xs, rfl, rfl, upd_sqL h1 hl, .of upd_same, k _ _ _ (ExtN.refl G) ((L.junk hl).push (.bl _))⟩⟩
theorem im_nempF {i : Nat} {σ : L2.St} {H : Hp} {Q : VK} (q : tE p (stepE cx r (.prim .nemp [.p (.f i c j)])) σ H Q) : tOp (rNemp X.K) (tF p i c j) (tLst tNil) σ H Q :=
  one_F q fun B G env tmp d s v L rr t k => by
    obtain ⟨a, xs, rfl, h1, rfl⟩ := nemp_inv (K := X.K) L.sub rr t
    exact ⟨Nat.zero_le _, fun l hl => ⟨a, l, xs, rfl, rfl, upd_sqL h1 hl, .of upd_same, k _ _ _ (ExtN.refl G) ((L.junk hl).push (.bl _))⟩⟩
theorem ab_empF (h : Ctx g X p k) (ok : ClsOk p.W c) {i : Nat} {x : Str} {p1 : Pos} (hf : (fldT c)[j]? = some f) (hN : g.N[i]? = some x) (hv : visB g.sc x = true) (hp : plainNm x = true) (hb : attributeBase (.Name x p1) f X.env (eval (.Name x p1) X.env) = eval (.Name x p1) X.env := by rfl) :
    AB X p cx (.Compare (.Attribute (.Name x p1) f pos3) [.Eq] [.List [] pos2] pos) (.prim .emp [.p (.f i c j)]) :=
  ab_step fun n => pt_imp (pt_cmpR (op_emp (by have := h.units; omega)) (pe_F h ok hf hN hv hp hb) (pe_lst pa_nil) rfl) fun σ H Q q => im_empF (cx := cx) h.K (tBl_tE q)
theorem ae_empF (h : Ctx g X p k) (ok : ClsOk p.W c) {i : Nat} {x : Str} {p1 : Pos} (hf : (fldT c)[j]? = some f) (hN : g.N[i]? = some x) (hv : visB g.sc x = true) (hp : plainNm x = true) (hb : attributeBase (.Name x p1) f X.env (eval (.Name x p1) X.env) = eval (.Name x p1) X.env := by rfl) :
    AE X p cx (.Compare (.Attribute (.Name x p1) f pos3) [.Eq] [.List [] pos2] pos) (.prim .emp [.p (.f i c j)]) :=
  ae_step fun n => pe_imp (pe_cmpR (op_emp (by have := h.units; omega)) (pe_F h ok hf hN hv hp hb) (pe_lst pa_nil) rfl) fun σ H Q q => im_empF h.K q
theorem ab_nempF (h : Ctx g X p k) (ok : ClsOk p.W c) {i : Nat} {x : Str} {p1 : Pos} (hf : (fldT c)[j]? = some f) (hN : g.N[i]? = some x) (hv : visB g.sc x = true) (hp : plainNm x = true) (hb : attributeBase (.Name x p1) f X.env (eval (.Name x p1) X.env) = eval (.Name x p1) X.env := by rfl) :
    AB X p cx (.Compare (.Attribute (.Name x p1) f pos3) [.NotEq] [.List [] pos2] pos) (.prim .nemp [.p (.f i c j)]) :=
  ab_step fun n => pt_imp (pt_cmpR (op_nemp (by have := h.units; omega)) (pe_F h ok hf hN hv hp hb) (pe_lst pa_nil) rfl) fun σ H Q q => im_nempF (cx := cx) (tBl_tE q)
end
end EV

set_option maxRecDepth 100000
set_option maxHeartbeats 1000000
/-! The law's own loop over its dice. -/
namespace EV
open PySem PySem.Spec PyProof.Rows L2 LamX
theorem repE_free {W : Wd} {C : Cz} {G H : Hp} : ∀ {σ : L2.St} {i : Nat}, RepE W C G H i σ (List.replicate σ.length none) []
  | [], _ => .nil
  | _ :: σ, i => by
    rw [List.length_cons, List.replicate_succ]
    exact .no (repE_free (i := i + 1))
/-- the dice in its slot, all else free -/
def env0 (n : Nat) (c m : Int) : Env := none :: some (.l true [.int c, .int m]) :: List.replicate (n - 2) none
def dice0 (c : Int) : D := .lst [.int c, .int 0]
/-- a link of nothing but frozen things -/
theorem link0 {W : Wd} {G H : Hp} (sub : ExtN G H) (tb : Tabs W.T H) (gnt : ∀ b ps, G b ≠ some (.tbl ps)) : Link W ⟨H, [], G, [], fun _ => none⟩ [] 0 [] G [] H [] [] where
  reps := ⟨[], [], .nil, .nil, by simp, by simp, by simp⟩
  sub := sub
  tabs := tb
  frm := fun b o e _ => .inl e
  gnew := fun b o e => .inl e
  gold := ExtN.refl G
  gnt := gnt
  len := rfl
  lcs := fun i s v A e => by cases e
  pins := fun q hq => by cases hq
theorem linkT {W : Wd} {H : Hp} {n : Nat} {σ : L2.St} {a : Addr} {c m : Int} (tb : Tabs W.T H) (hn : σ.length = n) (h2 : 2 ≤ n) (hσ : σ[1]? = some (some (.ref a))) (ha : H a = some (.lst [.int c, .int m])) :
    Link W ⟨H, [a], fun _ => none, [(1, .ref a)], fun _ => none⟩ [] n [] (fun _ => none) σ H (env0 n c m) [] where
  reps := by
    match σ, hn with
    | o :: x :: σ, hn =>
      simp at hσ
      subst hσ
      refine ⟨[a], [], ?_, .nil, by simp, by simp, by simp⟩
      rw [List.append_nil]
      have e : n - 2 = σ.length := by simp at hn; omega
      unfold env0
      rw [e]
      exact .no (show RepE W _ _ H 1 _ _ ([a] ++ []) from .yes (.l ha (.cons (.int c) (.cons (.int m) .nil))) repE_free)
    | [_], hn => simp at hn; omega
    | [], hn => simp at hn; omega
  sub := fun b o e => by cases e
  tabs := tb
  frm := fun b o e _ => .inl e
  gnew := fun b o e => by cases e
  gold := ExtN.refl _
  gnt := fun b ps e => by cases e
  len := hn
  lcs := fun i s v A e => by cases e
  pins := fun q hq => by
    simp at hq
    subst hq
    exact ⟨by rw [List.append_nil]; exact hσ, _, rfl, rfl⟩
section
variable {T : Tb} {g : GX} {X : Cx} {p : Pt} {k : Nat} {cx : CX} {body : List Stmt} {b : List IS} {p1 p2 p3 p4 p5 p6 p7 p8 : Pos} {hi : Int} {j1 j2 : Nat}
/-- what holds between two turns -/
def LawW (W : Wd) (n : Nat) (r : Addr) (vs : List V) (i m : Nat) (σ : L2.St) (H : Hp) : Prop :=
  (m = vs.length - i ∧ i ≤ vs.length) ∧ σ.length = n ∧ H r = some (.lst vs) ∧ (∀ v ∈ vs, ∃ a c k, v = .ref a ∧ H a = some (.lst [.int c, .int k])) ∧ Tabs W.T H
theorem dice_reps {W : Wd} {G : Hp} : ∀ {cs : List Int} {vs : List V}, Reps W G (cs.map dice0) vs → ∀ v ∈ vs, ∃ a c k, v = .ref a ∧ G a = some (.lst [.int c, .int k])
  | [], _, .nil, v, hv => by simp at hv
  | c :: cs, _, .cons h r, v, hv => by
    rcases List.mem_cons.mp hv with z | z
    · subst z
      cases h with
      | lst h1 h2 =>
        cases h2 with
        | cons a1 a2 => cases a1; cases a2 with
          | cons b1 b2 => cases b1; cases b2; exact ⟨_, _, _, rfl, h1⟩
    · exact dice_reps r v z
theorem scr_link {W : Wd} {H : Hp} {a : Addr} {ns : List Int} (hS : SqL W.K H a (ns.map V.int)) (tb : Tabs W.T H) : ∃ G, Link W ⟨H, [], G, [], fun _ => none⟩ [] 0 [] G [] H [] [] ∧ Rep W G (.scr ns) (.ref a) := by
  rcases hS with (h | ⟨o, h⟩) | h
  · refine ⟨fun b => if b = a then some (.lst (ns.map V.int)) else none, link0 (fun b o e _ => ?_) tb (fun b ps e => ?_), .scr (.inl (.inl (if_pos rfl)))⟩
    · by_cases hb : b = a
      · subst hb; rw [if_pos rfl] at e; rw [h]; exact e
      · rw [if_neg hb] at e; cases e
    · by_cases hb : b = a
      · rw [if_pos hb] at e; cases e
      · rw [if_neg hb] at e; cases e
  · refine ⟨fun b => if b = a then some (.frz o (.lst (ns.map V.int))) else none, link0 (fun b o' e _ => ?_) tb (fun b ps e => ?_), .scr (.inl (.inr ⟨o, if_pos rfl⟩))⟩
    · by_cases hb : b = a
      · subst hb; rw [if_pos rfl] at e; rw [h]; exact e
      · rw [if_neg hb] at e; cases e
    · by_cases hb : b = a
      · rw [if_pos hb] at e; cases e
      · rw [if_neg hb] at e; cases e
  · exact ⟨fun _ => none, link0 (fun b o e => by cases e) tb (fun b ps e => by cases e), .scr (.inr h)⟩
theorem law_body (h : Cl T g X p (k + 1) cx) (hC : p.C = []) (hσp : p.σp = []) {f j : Nat} {i : FnI} (hf : T.fi f = some i) (hg : g.gt[j]? = some (("_law_rounds" : Str), .fn f)) (hx : glB g.sc "_law_rounds" = true)
    (hN0 : g.N[0]? = some ("_law_script" : Str)) (hN1 : g.N[1]? = some ("_law_dice" : Str)) (v0 : visB g.sc "_law_script" = true) (s1 : StB X g "_law_dice") (hb : AS X p cx body b) {nf : Nat}
    (rounds : ∀ ns : List Int, ns.length ≤ 63 → ∃ (cs : List Int) (as : List S) (pe : Env), T.ev (k + 1) f [.d (.scr ns), .d (.int hi)] [] [] = some (.ok (.d (.lst (cs.map dice0))) as pe))
    (turn : ∀ c m : Int, ∃ (c' m' : Int) (env' : Env), (evN cx nf).s b (env0 g.N.length c m) = some (.ok .nx env') ∧ env'[1]? = some (some (.l true [.int c', .int m'])))
    (hfs : ∀ x, foldedSetIterable (.Call (.Name "_law_rounds" p2) [.Name "_law_script" p3, .Constant (.int hi) j1 p4] [] p5) X.env x = pure x) :
    ∃ t, PSs X [.For (.Name "_law_dice" p1) (.Call (.Name "_law_rounds" p2) [.Name "_law_script" p3, .Constant (.int hi) j1 p4] [] p5) body [] p6, .Return (some (.Constant (.bool true) j2 p7)) p8] t ∧
      ∀ (a : Addr) (ns : List Int) (σ : L2.St) (H : Hp) (D : Ends), σ.length = g.N.length → σ[0]? = some (some (.ref a)) → ns.length ≤ 63 → SqL p.W.K H a (ns.map V.int) → Tabs p.W.T H → (∀ H', D.rt (.bl true) H') → t D σ H := by
  obtain ⟨fd, F, hbd, hk⟩ := h.toRd.fn hf
  have hn2 : 2 ≤ g.N.length := by have := (List.getElem?_eq_some_iff.mp hN1).1; omega
  refine ⟨_, pss_cons (ps_for h.po h.c.calm (pi_any (pe_callT (x := "_law_rounds") F (h.c.room.mono (by omega)) (h.c.gl hx) (h.c.mg _ (List.mem_of_getElem? hg)) hk hbd h.c.takes
      (pa_cons (pe_var (i := 0) (by rw [h.c.N]; exact hN0) (by rw [h.c.sc]; exact vis_of v0)) (pa_cons pe_int pa_nil)) (by decide) rfl rfl)) (pg_name (i := 1) (by rw [h.c.N]; exact h.c.nd) (by rw [h.c.N]; exact hN1) (s1.loc h.c) (s1.fn h.c)) (hb nf) hfs) (pss_one (ps_ret pe_bl)), ?_⟩
  intro a ns σ H D hlen hσ hns hS tb hQ
  obtain ⟨G0, L0, rscr⟩ := scr_link hS tb
  obtain ⟨cs, as, pe, hev⟩ := rounds ns hns
  obtain ⟨np, le, _⟩ := h.so (k + 1) (Nat.le_refl _) f i hf
  have hss : ([S.d (.scr ns), S.d (.int hi)] : List S).length = i.ps.length := np _ _ _ _ hev
  have hpl : i.ps.length = 2 := hss.symm
  refine ⟨.ref a, hσ, fun A outer s => ⟨[], [], _, G0, [.d (.scr ns), .d (.int hi)], [], [], hss, rfl, L0.start0 (i := i) (vs := [.ref a, .int hi]) (A0 := []) (pl := []) rfl (by show 2 ≤ _; omega) (.cons (A0 := []) (A := []) (.d rscr) (.cons (A0 := []) (A := []) (.d (.int _)) .nil)) (by simp) (by simp) (fun q hq => by cases hq), fun j l hj => by simp at hj, ?_⟩⟩
  rw [hev]
  intro v G' σ' H' env' x Lf _ _
  obtain ⟨_, _, _, rt, _⟩ := Lf.reps
  cases rt with
  | cons rs _ =>
    cases rs with
    | d rd =>
      cases rd with
      | lst hr rr =>
        rename_i r vs
        have hr' : H' r = some (.lst vs) := Lf.sub _ _ hr fun _ z => by cases z
        refine .inl ⟨r, vs, rfl, .of hr', LawW p.W g.N.length r vs, ⟨vs.length, ⟨rfl, Nat.zero_le _⟩, hlen, hr', fun v hv => ?_, Lf.tabs⟩, fun i m σ1 H1 w => ?_⟩
        · obtain ⟨a1, c1, k1, e1, e2⟩ := dice_reps rr v hv
          exact ⟨a1, c1, k1, e1, Lf.sub _ _ e2 fun _ z => by cases z⟩
        · obtain ⟨⟨hm, hle⟩, hl1, hr1, hall, tb1⟩ := w
          by_cases hlt : i < vs.length
          · have hv : vs[i]? = some vs[i] := List.getElem?_eq_getElem hlt
            refine .inr ⟨⟨vs, vs[i], .of hr1, hv⟩, fun σ' H' => LawW p.W g.N.length r vs (i + 1) (vs.length - (i + 1)) σ' H', fun σ' H' w => ⟨_, by omega, w⟩, fun y H2 ⟨eH, hy⟩ => ?_⟩
            subst eH
            have := hy vs (.of hr1)
            rw [hv] at this
            cases this
            obtain ⟨a1, c1, k1, e1, e2⟩ := hall vs[i] (List.getElem_mem hlt)
            obtain ⟨c2, m2, env2, t1, t2⟩ := turn c1 k1
            have hσ1 : (σ1.set 1 (some vs[i]))[1]? = some (some (.ref a1)) := by
              rw [List.getElem?_set_self (by omega), e1]
            have Lt := linkT (W := p.W) (σ := σ1.set 1 (some vs[i])) (n := g.N.length) tb1 (by rw [List.length_set]; exact hl1) hn2 hσ1 e2
            show tS p ((evN cx nf).s b) _ _ _
            rw [← h.c.n] at Lt t1
            refine ⟨_, _, _, [], by rw [hC, hσp]; exact Lt, ?_⟩
            rw [t1]
            intro G3 σ3 H3 x3 L3
            rw [hC, hσp] at L3
            have ne : r ≠ a1 := fun z => by
              subst z
              rw [e2] at hr1
              cases hr1
              match i, hlt with
              | 0, _ => simp at e1
              | 1, _ => simp at e1
            have keep : ∀ b o, b ≠ a1 → H2 b = some o → (∀ ps, o ≠ .tbl ps) → H3 b = some o := fun b o hb e nt => by
              rcases L3.frm b o e (by simpa using hb) with z | ⟨ps, _, z, _⟩
              · exact z
              · exact absurd z (nt ps)
            have at1 : H3 a1 = some (.lst [.int c2, .int m2]) := by
              obtain ⟨A3, T3, q1, _⟩ := L3.reps
              obtain ⟨X3, A4, Y3, _, q2, _⟩ := q1.part t2
              obtain ⟨v3, hv3, hr3⟩ := q2 _ rfl
              obtain ⟨p1', _⟩ := L3.pins (1, .ref a1) (by simp)
              rw [p1'] at hv3
              cases hv3
              rcases hr3 with z | ⟨t, z⟩
              · cases z with
                | l k1 k2 =>
                  cases k2 with
                  | cons b1 b2 => cases b1; cases b2 with
                    | cons b3 b4 => cases b3; cases b4; exact k1
              · cases z
            refine ⟨⟨rfl, hlt⟩, by rw [L3.len, h.c.n], keep r _ ne hr1 fun _ z => (by cases z), fun v hv => ?_, L3.tabs⟩
            obtain ⟨a5, c5, k5, e5, e6⟩ := hall v hv
            by_cases ha : a5 = a1
            · subst ha; exact ⟨_, _, _, e5, at1⟩
            · exact ⟨_, _, _, e5, keep a5 _ ha e6 fun _ z => by cases z⟩
          · refine .inl ⟨⟨vs, .of hr1, by omega⟩, hQ _⟩
end
end EV

set_option maxRecDepth 100000
set_option maxHeartbeats 1000000
/-! From the head's facts to the tables; all defs sound; the law. -/
namespace EV
open PySem PySem.Spec PyProof.Rows L2 LamX
def excNm : Nat → Str
  | 0 => "StepError" | 1 => "BadPattern" | 2 => "BadText" | 3 => "BadWord" | 4 => "BadPosition" | 5 => "BadLength" | 6 => "BadDegree" | 7 => "BadBudget" | 8 => "BadSyntax" | 9 => "TooMany" | 10 => "NothingToUndo" | _ => ""
def clsNm : Nat → Str
  | 20 => "Machine" | 21 => "Run" | 22 => "Attempts" | 23 => "Graph" | 24 => "Level" | 25 => "Both" | 26 => "Suite" | 27 => "Reader" | _ => ""
/-- a table's name: the def, how its lambdas are called -/
abbrev Tf := He.Defn × Str
def mkW (P : Program) (w : World) (K : PySem.W.Frag) (ds : Nat → Str × Option Str) (tf : List Tf) (xs : Bool) : Wd where
  P := P
  w := w
  K := K
  cls := fun c => He.ga K (clsNm c)
  exc := fun c => He.ga K (excNm c)
  fnA := fun f => He.fAd K (ds f)
  fld := fldT
  T := tf.map fun q => ((He.cT K q.1).2, q.2)
  xs := xs
/-! ### the facts as one Bool -/
def gkB (K : PySem.W.Frag) (ds : Nat → Str × Option Str) : Str × GK → Bool
  | (x, .fn f) => He.eqO (PySem.W.nsIn K mainGlobals x) (some (some (.ref (He.fAd K (ds f)))))
  | (x, .cls c) => He.eqO (PySem.W.nsIn K mainGlobals x) (some (some (.ref (He.ga K (clsNm c)))))
  | (x, .exc c) => He.eqO (PySem.W.nsIn K mainGlobals x) (some (some (.ref (He.ga K (excNm c)))))
  | (x, .cst (.int i)) => (He.Fa.int x i).ok K
  | (x, .cst (.str z)) => (He.Fa.str x z).ok K
  | (_, .cst _) => false
  | (x, .bi) => (He.Fa.free x).ok K
def clsB (K : PySem.W.Frag) (c : Nat) : Bool := (He.Fa.cls (clsNm c)).ok K && (fldT c).all fun f => (He.Fa.noat (clsNm c) f).ok K
def metB (K : PySem.W.Frag) (q : Nat × Str) : Bool := (He.Fa.meth (clsNm q.1) q.2).ok K
def mkB (K : PySem.W.Frag) (c : Nat) : Bool := (He.Fa.mkr (clsNm c)).ok K
def excB (K : PySem.W.Frag) (c : Nat) : Bool := (He.Fa.exc (excNm c)).ok K
def exc1B (K : PySem.W.Frag) (D : Addr) : Bool :=
  He.eqO (PySem.W.findIn K (.ref D) "__getattribute__") (some (some (.builtin "BaseException.__getattribute__"))) && (He.eqO (PySem.W.findIn K (.ref D) "__getattr__") (some none) && (decide (PySem.W.subIn K (.ref D) (.type "BaseException") = some true) && (PySem.W.hasDictIn K D &&
    (He.eqO (PySem.W.findIn K (.ref D) "__class__") (some (some (.builtin "object.__class__"))) && (He.eqO (PySem.W.specialIn K (.builtin "object.__class__") "__get__") (some (some (.builtin "getset_descriptor.__get__"))) &&
      (decide (PySem.W.takesIn K (.builtin "object.__class__") = some true) && (decide (PySem.W.mroIn K D (.type "object") = some true) && decide (PySem.W.kitOne K (.ref D) (.type "ValueError") = some true))))))))
def exc2B (K : PySem.W.Frag) (c c' : Nat) : Bool := decide (PySem.W.kitOne K (.ref (He.ga K (excNm c))) (.ref (He.ga K (excNm c'))) = some (c' == c || c' == 0)) && decide (PySem.W.exmOne K (.ref (He.ga K (excNm c))) (.ref (He.ga K (excNm c'))) = some (c' == c || c' == 0))
def xsB (K : PySem.W.Frag) : Bool := (List.range 11).all fun c => exc1B K (He.ga K (excNm c)) && (List.range 11).all fun c' => exc2B K c c'
def uniqB (K : PySem.W.Frag) (tf : List Tf) : Bool := tf.all fun q => tf.all fun q' => !decide ((He.cT K q.1).2 = (He.cT K q'.1).2) || decide (q.2 = q'.2)
structure Lst where
  gt : List (Str × GK)
  cls : List Nat
  met : List (Nat × Str)
  mks : List Nat
  exc : List Nat
  tf : List Tf
  xs : Bool
def Lst.ok (l : Lst) (ds : Nat → Str × Option Str) (K : PySem.W.Frag) : Bool :=
  l.gt.all (gkB K ds) && (l.cls.all (clsB K) && (l.met.all (metB K) && (l.mks.all (mkB K) && (l.exc.all (excB K) && (uniqB K l.tf && (!l.xs || xsB K))))))
structure LstOk (l : Lst) (ds : Nat → Str × Option Str) (K : PySem.W.Frag) : Prop where
  gt : ∀ q ∈ l.gt, gkB K ds q = true
  cls : ∀ q ∈ l.cls, clsB K q = true
  met : ∀ q ∈ l.met, metB K q = true
  mks : ∀ q ∈ l.mks, mkB K q = true
  exc : ∀ q ∈ l.exc, excB K q = true
  uniq : ∀ q ∈ l.tf, ∀ q' ∈ l.tf, (He.cT K q.1).2 = (He.cT K q'.1).2 → q.2 = q'.2
  xs : l.xs = true → xsB K = true
theorem Lst.of {l : Lst} {ds : Nat → Str × Option Str} {K : PySem.W.Frag} (h : l.ok ds K = true) : LstOk l ds K := by
  unfold Lst.ok at h
  simp only [Bool.and_eq_true, List.all_eq_true] at h
  obtain ⟨h1, h2, h3, h4, h5, h6, h7⟩ := h
  refine ⟨h1, h2, h3, h4, h5, fun q hq q' hq' e => ?_, fun e => ?_⟩
  · have := List.all_eq_true.mp (List.all_eq_true.mp h6 q hq) q' hq'
    rw [Bool.or_eq_true] at this
    rcases this with z | z
    · simp [e] at z
    · exact of_decide_eq_true z
  · rw [e] at h7; simpa using h7
section
variable {l : Lst} {ds : Nat → Str × Option Str} {K : PySem.W.Frag} {P : Program} {w : World} {h : Heap} {mg : Str → Option Value} {tf : List Tf} {xs : Bool}
theorem mg_ok (X : K.In h) (G : h.Ns mainGlobals mg) (o : LstOk l ds K) : ∀ q ∈ l.gt, MgOk (mkW P w K ds tf xs) mg q := fun q hq => by
  have e := o.gt q hq
  match q, e with
  | (x, .fn f), e => exact PySem.W.mg_of X G (He.eqO_ok e)
  | (x, .cls c), e => exact PySem.W.mg_of X G (He.eqO_ok e)
  | (x, .exc c), e => exact PySem.W.mg_of X G (He.eqO_ok e)
  | (x, .cst (.int i)), e =>
    obtain ⟨t, z⟩ := He.int_ok X G (x := x) (i := i) e
    exact ⟨_, z, t, rfl⟩
  | (x, .cst (.str s)), e =>
    obtain ⟨t, z⟩ := He.str_ok X G (x := x) (z := s) e
    exact ⟨_, z, t, rfl⟩
  | (x, .cst .non), e => cases e
  | (x, .cst (.bl _)), e => cases e
  | (x, .cst (.flt _)), e => cases e
  | (x, .cst (.byt _)), e => cases e
  | (x, .cst (.ref _)), e => cases e
  | (x, .cst (.ty _)), e => cases e
  | (x, .bi), e => exact He.free_ok X G (x := x) e
theorem cls_okW (o : LstOk l ds K) {c : Nat} (hc : c ∈ l.cls) : ClsOk (mkW P w K ds tf xs) c := by
  have e := o.cls c hc
  unfold clsB at e
  rw [Bool.and_eq_true, List.all_eq_true] at e
  exact ⟨He.cls_ok e.1, rfl, fun f hf => He.noat_ok (e.2 f hf)⟩
theorem met_okW (o : LstOk l ds K) {c f : Nat} {m : Str} (hc : c ∈ l.cls) (hm : (c, m) ∈ l.met) (hd : ds f = (clsNm c, some m)) (no : m ∉ fldT c) : MetOk (mkW P w K ds tf xs) c f m := by
  have e := He.meth_ok (o.met _ hm)
  refine ⟨cls_okW o hc, ?_, no⟩
  show Meth K (He.ga K (clsNm c)) m (He.fAd K (ds f))
  rw [hd]; exact e
theorem mk_okW (o : LstOk l ds K) {c f : Nat} (hm : c ∈ l.mks) (hd : ds f = (clsNm c, some ("__init__" : Str))) : Mk (mkW P w K ds tf xs).K ((mkW P w K ds tf xs).cls c) ((mkW P w K ds tf xs).fnA f) := by
  have e := He.mkr_ok (o.mks _ hm)
  show Mk K (He.ga K (clsNm c)) (He.fAd K (ds f))
  rw [hd]; exact e
theorem xs_ok (o : LstOk l ds K) (hx : l.xs = true) {c : Nat} (hc : c < 11) : exc1B K (He.ga K (excNm c)) = true ∧ ∀ c', c' < 11 → exc2B K c c' = true := by
  have e := List.all_eq_true.mp (o.xs hx) c (List.mem_range.mpr hc)
  rw [Bool.and_eq_true] at e
  exact ⟨e.1, fun c' hc' => List.all_eq_true.mp e.2 c' (List.mem_range.mpr hc')⟩
theorem wok_W (o : LstOk l ds K) : Wok (mkW P w K ds tf l.xs) where
  exk := fun hx c hc => by
    have e := (xs_ok o hx hc).1
    unfold exc1B at e
    simp only [Bool.and_eq_true, decide_eq_true_eq] at e
    obtain ⟨e1, e2, e3, e4, e5, e6, e7, e8, e9⟩ := e
    exact ⟨He.eqO_ok e1, He.eqO_ok e2, e3, e4, He.eqO_ok e5, He.eqO_ok e6, e7, e8⟩
  exi := fun hx c c' hc hc' => by
    have e := (xs_ok o hx hc).2 c' hc'
    unfold exc2B at e
    rw [Bool.and_eq_true] at e
    exact of_decide_eq_true e.1
  exv := fun hx c hc => by
    have e := (xs_ok o hx hc).1
    unfold exc1B at e
    simp only [Bool.and_eq_true, decide_eq_true_eq] at e
    obtain ⟨e1, e2, e3, e4, e5, e6, e7, e8, e9⟩ := e
    exact e9
theorem exc_okW (o : LstOk l ds K) {c : Nat} (hc : c ∈ l.exc) (h11 : c < 11) : ExcOk (mkW P w K ds tf l.xs) c := by
  obtain ⟨e1, e2, e3, e4⟩ := He.exc_ok (o.exc c hc)
  refine ⟨e1, e2, e3, e4, fun hx k hk => ?_⟩
  have e := (xs_ok o hx hk).2 c h11
  unfold exc2B at e
  rw [Bool.and_eq_true] at e
  exact of_decide_eq_true e.2
/-! ### all defs -/
theorem fnAt_zero {W : Wd} {base : Heap} {T : Tb} {f : Nat} {i : FnI} {fd : FuncData} (hb : L2.Binds W.K fd i.ps []) (hk : PySem.W.keepIn W.K (.ref (W.fnA f)) = true) (le : i.ps.length ≤ i.N.length) : FnAt W mg base T 0 f i where
  np := fun ss lams pe r h => by cases h
  le := le
  ex := ⟨fd, ⟨fun A outer s vs H Q E h => h.elim, fun A outer s H args us vs Q E _ _ _ _ h => h.elim⟩, hb, hk⟩
abbrev BindsAll (x qual : Str) (params : Arguments) (body : List Stmt) (scope : Scope) (ps : List Str) : Prop := ∀ (kV doc pm : Value) (an : Option Addr) (cdv ct : Value) (us : List Value), us.length = ps.length → bindArgs (PySem.W.fnOf x qual params body scope .none kV doc pm an cdv ct) ⟨us, []⟩ = pure (ps.zip us)
theorem fnAt_succ {W : Wd} {base : Heap} {T : Tb} {k f : Nat} {i : FnI} {fd : FD} {g : GX} {x qual : Str} {params : Arguments} {body : List Stmt} {scope : Scope} {fdat : FuncData} (F : FunD W.K x qual params body scope [] [] (W.fnA f) fdat) (S : FnScope i.N i.ps scope) (wok : Wok W)
    (hN : g.N = i.N) (hs : g.sc = scope) (hmg : ∀ q ∈ g.gt, MgOk W mg q) (so : Sound W mg base T k) (ht : T.tab f = some fd) (hns : fd.ns = i.N.length) (hnp : fd.np = i.ps.length) (hle : i.ps.length ≤ i.N.length) (hbd : BindsAll x qual params body scope i.ps)
    (hb : ∀ (X : Cx) (p : Pt) (cx : CX), Cl T g X p k cx → p.W = W → X.mg = mg → X.base = base → X.env.qual = qual ++ ".<locals>." → (∃ c, X.env.code = .ref c ∧ ∀ (pp : Str × Option Str), W.fnA f = He.fAd W.K pp → He.codeOf W.K pp = c) → AS X p cx body fd.body) : FnAt W mg base T (k + 1) f i := by
  have hB : L2.Binds W.K fdat i.ps [] := F.bindsN hbd
  obtain ⟨oc, od, dV, kV, doc, pm, an, cdv, ct, osl, rfl, lk, hcd, _, _⟩ := F.ex
  refine ⟨fun ss lams pe r hr => ?_, hle, _, fnS_of lk hcd S wok hN hs hmg so ht hns hnp hle fun X p cx cl e1 e2 e3 e4 e5 => hb X p cx cl e1 e2 e3 e5 ?_, hB, F.kp⟩
  · rw [ev_succ ht] at hr
    unfold bodyR at hr
    split at hr
    · rename_i hc
      rw [Bool.and_eq_true] at hc
      rw [← hnp]
      simpa using hc.1
    · cases hr
  · obtain ⟨c, hc⟩ := He.codeIn_ref hcd
    refine ⟨c, e4.trans hc, fun pp hpp => ?_⟩
    rw [hpp] at lk
    exact He.codeOf_eq lk hc
/-- the def makes lambdas -/
theorem mkr_of {base : Heap} {X : Cx} {p : Pt} {f : Nat} {qual : Str} {d : He.Defn} (o : LstOk l ds K) (hW : p.W = mkW P w K ds l.tf xs) (hmg : X.mg = mg) (hbase : X.base = base) (hq : X.env.qual = qual ++ ".<locals>.")
    (hc : ∃ c, X.env.code = .ref c ∧ ∀ (pp : Str × Option Str), (mkW P w K ds l.tf xs).fnA f = He.fAd K pp → He.codeOf K pp = c) (hd : ds f = d) (hm : (d, qual ++ ".<locals>." ++ "<lambda>") ∈ l.tf) (TB : ∀ q ∈ l.tf, TabB base mg (He.cT K q.1).1 (He.cT K q.1).2) : Mkr X p := by
  obtain ⟨c, e1, e2⟩ := hc
  have e3 : He.codeOf K d = c := e2 d (by show He.fAd K (ds f) = _; rw [hd])
  have tb := TB _ hm
  refine ⟨c, (He.cT K d).2, e1, ?_, ?_, ?_⟩
  · rw [hbase, hmg, ← e3]; exact tb
  · rw [hW]
    exact List.mem_map.mpr ⟨_, hm, by show _ = (_, lamQ X); unfold lamQ; rw [hq]⟩
  · intro q hq' eq
    rw [hW] at hq'
    obtain ⟨q0, hq0, rfl⟩ := List.mem_map.mp hq'
    have := o.uniq q0 hq0 _ hm eq
    show q0.2 = lamQ X
    unfold lamQ
    rw [this, hq]
end
end EV

set_option maxRecDepth 100000
set_option maxHeartbeats 1000000
/-! All defs of a law sound; the law's promise. -/
namespace EV
open PySem PySem.Spec PyProof.Rows L2 LamX
/-- a def's entry in the tables' list of lambdas -/
abbrev DefD.tf (d : He.DefD) : Tf := (d.at_, d.qual ++ ".<locals>." ++ "<lambda>")
/-- what a law's run gives -/
structure Has (l : Lst) (fn : List He.DefD) (ds : Nat → Str × Option Str) (K : PySem.W.Frag) (mg : Str → Option Value) (base : Heap) : Prop where
  X : K.In base
  G : base.Ns mainGlobals mg
  o : LstOk l ds K
  fn : ∀ (i : Nat) (d : He.DefD), fn[i]? = some d → ∃ fd, FunD K d.name d.qual d.params d.body d.scope (d.dvs K) (d.kws K) (He.fAd K d.at_) fd
  TB : ∀ q ∈ l.tf, TabB base mg (He.cT K q.1).1 (He.cT K q.1).2
def AllK (W : Wd) (mg : Str → Option Value) (base : Heap) (T : Tb) (f : Nat) (i : FnI) : Prop := FnAt W mg base T 0 f i ∧ ∀ k, Sound W mg base T k → FnAt W mg base T (k + 1) f i
theorem sound_of {W : Wd} {mg : Str → Option Value} {base : Heap} {T : Tb} (h : ∀ f i, T.fi f = some i → AllK W mg base T f i) : ∀ k, Sound W mg base T k
  | 0 => fun k hk f i hf => by
    cases Nat.le_zero.mp hk
    exact (h f i hf).1
  | k0 + 1 => fun k hk f i hf => by
    have ih := sound_of h k0
    by_cases e : k ≤ k0
    · exact ih k e f i hf
    · have : k = k0 + 1 := by omega
      subst this
      exact (h f i hf).2 k0 ih
theorem ent_leaf {P : Nat → FnI → Prop} {n a : Nat} {x : FD × FnI} {i : FnI} (h : P a x.2) (e : (if n = a then some x else none).map (·.2) = some i) : P n i := by
  by_cases z : n = a
  · rw [if_pos z] at e; cases e; rw [z]; exact h
  · rw [if_neg z] at e; cases e
theorem ent_br {P : Nat → FnI → Prop} {n m : Nat} {x y : Option (FD × FnI)} {i : FnI} (h1 : x.map (·.2) = some i → P n i) (h2 : y.map (·.2) = some i → P n i) (e : (if n < m then x else y).map (·.2) = some i) : P n i := by
  by_cases z : n < m
  · rw [if_pos z] at e; exact h1 e
  · rw [if_neg z] at e; exact h2 e
section
variable {l : Lst} {fn : List He.DefD} {ds : Nat → Str × Option Str} {K : PySem.W.Frag} {mg : Str → Option Value} {base : Heap} {P : Program} {w : World} {T : Tb}
/-- one def -/
theorem Has.all (c : Has l fn ds K mg base) {n f : Nat} {i : FnI} {fd : FD} {at_ : Str × Option Str} {x qual : Str} {params : Arguments} {body : List Stmt} {scope : Scope} (hfn : fn[n]? = some ⟨at_, x, qual, params, body, scope, [], []⟩) (hds : ds f = at_)
    (S : FnScope i.N i.ps scope) (ht : T.tab f = some fd) (hns : fd.ns = i.N.length) (hnp : fd.np = i.ps.length) (hle : i.ps.length ≤ i.N.length) (hbd : BindsAll x qual params body scope i.ps)
    (hb : ∀ (X : Cx) (p : Pt) (k : Nat) (cx : CX), Cl T ⟨i.N, scope, l.gt⟩ X p k cx → p.W = mkW P w K ds l.tf l.xs → ((at_, qual ++ ".<locals>." ++ "<lambda>") ∈ l.tf → Mkr X p) → AS X p cx body fd.body) : AllK (mkW P w K ds l.tf l.xs) mg base T f i := by
  obtain ⟨fdat, F⟩ := c.fn n _ hfn
  have F' : FunD (mkW P w K ds l.tf l.xs).K x qual params body scope [] [] ((mkW P w K ds l.tf l.xs).fnA f) fdat := by
    show FunD K x qual params body scope [] [] (He.fAd K (ds f)) fdat
    rw [hds]
    exact F
  refine ⟨fnAt_zero (F'.bindsN hbd) F'.kp hle, fun k so => ?_⟩
  refine fnAt_succ (g := ⟨i.N, scope, l.gt⟩) F' S (wok_W c.o) rfl rfl (mg_ok c.X c.G c.o) so ht hns hnp hle hbd fun X p cx cl e1 e2 e3 e4 e5 => hb X p k cx cl e1 fun hm => mkr_of (f := f) c.o e1 e2 e3 e4 ?_ hds hm c.TB
  exact e5
theorem Has.kp (c : Has l fn ds K mg base) {n f : Nat} {d : He.DefD} (hfn : fn[n]? = some d) (hds : ds f = d.at_) : PySem.W.keepIn (mkW P w K ds l.tf l.xs).K (.ref ((mkW P w K ds l.tf l.xs).fnA f)) = true := by
  show PySem.W.keepIn K (.ref (He.fAd K (ds f))) = true
  obtain ⟨fdat, F⟩ := c.fn n _ hfn
  rw [hds]
  exact F.kp
/-- the law -/
theorem law_at {lw : PySem.W.OpenLaw} {fa : Addr} {h : Heap} {k n f0 nl j : Nat} {i : FnI} {at_ : Str × Option Str} {x qual : Str} {params : Arguments} {body : List Stmt} {scope : Scope} {b : List IS} {f : Nat} {fi : FnI} {p1 p2 p3 p4 p5 p6 p7 p8 : Pos} {hi : Int} {j1 j2 : Nat} {lb : List Stmt}
    (X : K.In h) (G : h.Ns mainGlobals mg) (c : He.SaysX [] fn [] (l.tf.map (·.1)) (l.ok ds) w h K) (hfa : mg x = some (.ref fa)) (hgl : (x, GK.fn f0) ∈ l.gt) (hfn : fn[nl]? = some ⟨at_, x, qual, params, body, scope, [], []⟩) (hds : ds f0 = at_)
    (S : FnScope i.N i.ps scope) (hps : i.ps = [("_law_script" : Str)]) (hle : i.ps.length ≤ i.N.length) (hbd : BindsAll x qual params body scope i.ps) (hn : n ≤ 63)
    (hbo : body = [.For (.Name "_law_dice" p1) (.Call (.Name "_law_rounds" p2) [.Name "_law_script" p3, .Constant (.int hi) j1 p4] [] p5) lb [] p6, .Return (some (.Constant (.bool true) j2 p7)) p8])
    (hall : ∀ base, Has l fn ds K mg base → ∀ f i, T.fi f = some i → AllK (mkW lw.prog w K ds l.tf l.xs) mg base T f i)
    (hf : T.fi f = some fi) (hg : l.gt[j]? = some (("_law_rounds" : Str), .fn f)) (hx : glB scope "_law_rounds" = true)
    (hN0 : i.N[0]? = some ("_law_script" : Str)) (hN1 : i.N[1]? = some ("_law_dice" : Str)) (v0 : visB scope "_law_script" = true) (s1 : ∀ X : Cx, (∀ x, X.fn x = true) → StB X ⟨i.N, scope, l.gt⟩ "_law_dice")
    (hb : ∀ base, Has l fn ds K mg base → ∀ (X : Cx) (p : Pt) (k : Nat) (cx : CX), Cl T ⟨i.N, scope, l.gt⟩ X p k cx → p.W = mkW lw.prog w K ds l.tf l.xs → ((at_, qual ++ ".<locals>." ++ "<lambda>") ∈ l.tf → Mkr X p) → AS X p cx lb b) {nf : Nat}
    (rounds : ∀ ns : List Int, ns.length ≤ 63 → ∃ (cs : List Int) (as : List EV.S) (pe : EV.Env), T.ev (k + 1) f [.d (.scr ns), .d (.int hi)] [] [] = some (.ok (.d (.lst (cs.map dice0))) as pe))
    (turn : ∀ c m : Int, ∃ (c' m' : Int) (env' : EV.Env), (evN ⟨T.ev (k + 1), [], i.N.length, T.wl⟩ nf).s b (env0 i.N.length c m) = some (.ok .nx env') ∧ env'[1]? = some (some (.l true [.int c', .int m'])))
    (hfs : ∀ (X : PySem.Env) x, foldedSetIterable (.Call (.Name "_law_rounds" p2) [.Name "_law_script" p3, .Constant (.int hi) j1 p4] [] p5) X x = pure x) :
    LawAtS lw w K (L2.CX lw.prog w) (3 * (k + 1) + 3) n "_law_script" mg fa h := by
  have o : LstOk l ds K := Lst.of c.more
  obtain ⟨fdat, F⟩ := c.t.d.def_ nl hfn
  have hfa' : fa = He.fAd K at_ := by
    have e : mg x = some (.ref (He.fAd K (ds f0))) := mg_ok (P := lw.prog) (w := w) (tf := l.tf) (xs := l.xs) X G o _ hgl
    rw [hfa, hds] at e
    cases e
    rfl
  subst hfa'
  refine ⟨fdat, (l.tf.map (·.1)).map (He.cT K), fun vs H Q E => ∃ (a : Addr) (ns : List Int), vs = [.ref a] ∧ ns.length ≤ 63 ∧ SqL K H a (ns.map V.int) ∧ Tabs ((l.tf.map fun q => ((He.cT K q.1).2, q.2))) H ∧ ∀ H', Q (.bl true) H', ?_, ?_, ?_, ?_, ?_, ?_⟩
  · intro q hq
    obtain ⟨d, hd, rfl⟩ := List.mem_map.mp hq
    exact c.empty d hd
  · intro q hq
    obtain ⟨d, hd, rfl⟩ := List.mem_map.mp hq
    exact c.out d hd
  · intro q hq
    obtain ⟨d, hd, rfl⟩ := List.mem_map.mp hq
    exact PySem.W.codeHd_of_K X (c.hd d hd)
  · intro s u
    have := F.bindsA hbd s [u] (by rw [hps]; rfl)
    rw [hps] at this
    exact this
  · intro H a ns hl _ hT hS
    refine ⟨a, ns, rfl, Nat.le_trans hl hn, hS, fun q hq => ?_, fun _ => rfl⟩
    obtain ⟨q0, hq0, rfl⟩ := List.mem_map.mp hq
    exact TabS.nil (hT _ (List.mem_map.mpr ⟨q0.1, List.mem_map.mpr ⟨q0, hq0, rfl⟩, rfl⟩))
  · intro base Xb Gb TBb
    have hs : Has l fn ds K mg base := ⟨Xb, Gb, o, fun i d hd => c.t.d.def_ i hd, fun q hq => TBb _ (List.mem_map.mpr ⟨q.1, List.mem_map.mpr ⟨q, hq, rfl⟩, rfl⟩)⟩
    have so := sound_of (hall base hs)
    rw [← hps]
    obtain ⟨oc, od, dV, kV, doc, pm, an, cdv, ct, osl, rfl, lk, hcd, _, _⟩ := F.ex
    refine fn_of lk hcd S ?_ ?_
    · rintro vs H Q E ⟨a, ns, rfl, _⟩
      rw [hps]; rfl
    · rintro A outer s H vs Q E hr ⟨a, ns, rfl, hl, hS, tb, hQ⟩
      have hN : i.N.length = ([V.ref a].map some ++ List.replicate (i.N.length - 1) none : L2.St).length := by
        have : 1 ≤ i.N.length := by rw [hps] at hle; exact hle
        simp; omega
      have cl : Cl T ⟨i.N, scope, l.gt⟩ (cxOf (L2.CX lw.prog w) lw.prog w K mg base i.N qual scope (He.fAd K at_) cdv A outer s H E) ⟨mkW lw.prog w K ds l.tf l.xs, [], i.N.length, [], fun c d _ H => E c d H⟩ (k + 1) ⟨T.ev (k + 1), [], i.N.length, T.wl⟩ := {
        c := { prog := rfl, w := rfl, K := rfl, N := rfl, n := rfl, nd := S.nd, sc := rfl, calm := rfl, mg := mg_ok Xb Gb o, room := hr.mono (by omega), takes := takes_of rfl rfl rfl rfl, wok := wok_W o }
        so := so _
        hc := rfl
        cl := ⟨outer, s, H, ⟨rfl, rfl, rfl, rfl, rfl, rfl, rfl, rfl, rfl⟩, fun j L hj => by simp at hj⟩
        ns := rfl
        room2 := hr
        fnT := fun _ => rfl
        po := passes_of rfl
        stk := rfl
        frm := rfl }
      have mk : (at_, qual ++ ".<locals>." ++ "<lambda>") ∈ l.tf → Mkr (cxOf (L2.CX lw.prog w) lw.prog w K mg base i.N qual scope (He.fAd K at_) cdv A outer s H E) ⟨mkW lw.prog w K ds l.tf l.xs, [], i.N.length, [], fun c d _ H => E c d H⟩ := fun hm => mkr_of (f := f0) o rfl rfl rfl rfl (by
        obtain ⟨c', hc'⟩ := He.codeIn_ref hcd
        refine ⟨c', hc', fun pp hpp => ?_⟩
        have hpp' : He.fAd K (ds f0) = He.fAd K pp := hpp
        rw [hds] at hpp'
        rw [hpp'] at lk
        exact He.codeOf_eq lk hc') hds hm hs.TB
      obtain ⟨t, ht, hrun⟩ := law_body cl rfl rfl hf hg hx hN0 hN1 v0 (s1 _ fun _ => rfl) (hb base hs _ _ _ _ cl rfl mk) rounds turn (hfs _)
      rw [hbo]
      refine ⟨t, ht, hrun a ns _ H _ hN.symm ?_ hl hS tb hQ⟩
      rfl
end
end EV

set_option maxRecDepth 100000
set_option maxHeartbeats 1000000
/-! More builtins. -/
namespace EV
open PySem PySem.Spec PyProof.Rows L2 LamX
section
variable {T : Tb} {g : GX} {X : Cx} {p : Pt} {k : Nat} {cx : CX} {scope : Scope}
theorem inBf {F : Cx → Prop} (h : Rd T g X p k cx) (f : ∀ X', Rd T (g.blk scope) X' p.shut k cx → (∀ x, X'.fn x = (scope.names.lookup x == some .cell)) → F X') : InB X scope F := fun s H C cl fp => f _ (h.blk s H C cl fp) fun _ => rfl
end
section
variable {p : Pt} {X : Cx}
theorem callP_max2 (hc : X.calm = true) : CallR X (.builtin "max") (rPs p .max2) := by
  refine callr_imp (call_max2 hc) fun vs H Q q => ?_
  obtain ⟨ds, B, G, σ, env, tmp, s, L, rr, h0, k⟩ := q
  have hs : pMax2 ds = some s := h0
  clear h0
  unfold pMax2 at hs
  split at hs
  · cases hs
    obtain ⟨v, u, rfl, r1, r2⟩ := rrs2 rr
    obtain rfl := r1.int
    obtain rfl := r2.int
    exact ⟨_, _, rfl, fin_d L k (.int _)⟩
  · cases hs
theorem callP_min2 (hc : X.calm = true) : CallR X (.builtin "min") (rPs p .min2) := by
  refine callr_imp (call_min2 hc) fun vs H Q q => ?_
  obtain ⟨ds, B, G, σ, env, tmp, s, L, rr, h0, k⟩ := q
  have hs : pMin2 ds = some s := h0
  clear h0
  unfold pMin2 at hs
  split at hs
  · cases hs
    obtain ⟨v, u, rfl, r1, r2⟩ := rrs2 rr
    obtain rfl := r1.int
    obtain rfl := r2.int
    exact ⟨_, _, rfl, fin_d L k (.int _)⟩
  · cases hs
end
end EV

set_option maxRecDepth 100000
set_option maxHeartbeats 1000000
/-! The dice: what cells, rolls and rounds are. -/
namespace EV
open PySem PySem.Spec PyProof.Rows L2 LamX
def bCell : FD := ⟨2, 2, [.ife (.prim .emp [.e (.var 0)]) [.ret (some (.prim .mul [.e (.var 1), .e (.cst (.int 7919))]))] [], .ret (some (.prim .add [.e (.prim .idx [.e (.var 0), .e (.prim .mod [.e (.var 1), .e (.prim .len [.e (.var 0)])])]), .e (.prim .mul [.e (.prim .fdiv [.e (.var 1), .e (.prim .len [.e (.var 0)])]), .e (.cst (.int 104729))])]))], false⟩
def bDrawn : FD := ⟨2, 3, [.asg 2 false (.prim .mod [.e (.prim .add [.e (.prim .mul [.e (.var 0), .e (.cst (.int 6364136223846793005))]), .e (.prim .mul [.e (.prim .add [.e (.var 1), .e (.cst (.int 1))]), .e (.cst (.int 1442695040888963407))])]), .e (.cst (.int 340282366920938463463374607431768211507))]), .asg 2 false (.prim .mod [.e (.prim .mul [.e (.var 2), .e (.var 2)]), .e (.cst (.int 340282366920938463463374607431768211297))]), .asg 2 false (.prim .mul [.e (.prim .mul [.e (.prim .add [.e (.prim .mod [.e (.var 2), .e (.cst (.int 18446744073709551557))]), .e (.cst (.int 1))]), .e (.prim .add [.e (.prim .fdiv [.e (.var 2), .e (.cst (.int 18446744073709551557))]), .e (.cst (.int 1))])]), .e (.var 2)]), .ret (some (.prim .mod [.e (.var 2), .e (.cst (.int 340282366920938463463374607431768211507))]))], false⟩
def bRoll : FD := ⟨2, 3, [.ife (.prim .ge [.e (.prim .idx [.p (.s 0), .e (.cst (.int 0))]), .e (.prim .pow [.e (.cst (.int 10)), .e (.cst (.int 18))])]) [.asg 2 false (.prim .mod [.e (.prim .idx [.p (.s 0), .e (.cst (.int 0))]), .e (.var 1)]), .sub (.s 0) (.cst (.int 0)) (.prim .fdiv [.e (.prim .idx [.p (.s 0), .e (.cst (.int 0))]), .e (.var 1)]), .ret (some (.var 2))] [], .sub (.s 0) (.cst (.int 1)) (.prim .add [.e (.prim .idx [.p (.s 0), .e (.cst (.int 1))]), .e (.cst (.int 1))]), .ret (some (.prim .mod [.e (.prim .fdiv [.e (.call .fn 106 [.e (.prim .idx [.p (.s 0), .e (.cst (.int 0))]), .e (.prim .idx [.p (.s 0), .e (.cst (.int 1))])]), .e (.cst (.int 8))]), .e (.var 1)]))], false⟩
def bRounds : FD := ⟨2, 3, [.ret (some (.lc (.range [(.prim .max2 [.e (.cst (.int 1)), .e (.prim .min2 [.e (.var 1), .e (.prim .len [.e (.var 0)])])])]) (.nm 2) none (.lst [(.call .fn 105 [.e (.var 0), .e (.var 2)]), (.cst (.int 0))])))], false⟩
theorem evN_s {cx : CX} {n : Nat} : (evN cx (n + 1)).s = stepS cx (evN cx n) := rfl
theorem evN_e {cx : CX} {n : Nat} : (evN cx (n + 1)).e = stepE cx (evN cx n) := rfl
section
variable {T : Tb} {k : Nat}
theorem body_ev {f : Nat} {fd : FD} {ss : List S} {lams : List Lam} {pe : Env} (h : T.tab f = some fd) : T.ev (k + 1) f ss lams pe = bodyR ⟨T.ev k, lams, fd.ns, T.wl⟩ T.nf fd ss pe := ev_succ h
theorem atI_some {xs : List Int} {i : Int} (h0 : 0 ≤ i) (h1 : i < xs.length) : ∃ x, atI xs i = some x := by
  unfold atI
  rw [if_pos h0]
  exact ⟨_, List.getElem?_eq_getElem (by omega)⟩
theorem cell_ev {ns : List Int} {i : Int} (h : T.tab 105 = some bCell) (hn : T.nf = 60) (hl : ns.length ≤ 63) : ∃ c, T.ev (k + 1) 105 [.d (.scr ns), .d (.int i)] [] [] = some (.ok (.d (.int c)) [.d (.scr ns), .d (.int i)] []) := by
  rw [ev_succ h, hn]
  unfold bodyR
  rw [show (60 : Nat) = 50 + 10 from rfl]
  by_cases e : ns = []
  · subst e
    refine ⟨i * 7919, ?_⟩
    simp [bCell, evN_s, evN_e, stepS, stepS1, stepE, evB, evD, frz, evOs, evO1, evP, fillO, fPlc, unlockR, lockE, unlockE, R.bind, prim, pEmp, pMul, mulOk, intOk, boolOf, S.toD]
    rfl
  · have hp : 0 < ns.length := List.length_pos_iff.mpr e
    obtain ⟨x, hx⟩ := atI_some (xs := ns) (i := i % (ns.length : Int)) (Int.emod_nonneg _ (by omega)) (Int.emod_lt_of_pos _ (by omega))
    have hb : (0 : Int) < (ns.length : Int) := by omega
    have hb2 : (ns.length : Int) < 2 ^ 1000 := Int.lt_of_le_of_lt (b := 63) (by omega) (by decide)
    refine ⟨x + i / (ns.length : Int) * 104729, ?_⟩
    simp [bCell, evN_s, evN_e, stepS, stepS1, stepE, evB, evD, frz, evOs, evO1, evP, fillO, fPlc, unlockR, lockE, unlockE, R.bind, prim, pEmp, pMul, pAdd, pMod, pFdiv, pLen, pIdx, mulOk, intOk, boolOf, S.toD, hb, hb2, hx, hp, e]
    rfl
theorem mulOk_lit {a b : Int} (h : intOk b = true) : mulOk a b = true := by unfold mulOk; simp [h]
theorem drawn_ev {c m : Int} (h : T.tab 106 = some bDrawn) (hn : T.nf = 60) : ∃ v, 0 ≤ v ∧ T.ev (k + 1) 106 [.d (.int c), .d (.int m)] [] [] = some (.ok (.d (.int v)) [.d (.int c), .d (.int m)] []) := by
  rw [ev_succ h, hn]
  unfold bodyR
  rw [show (60 : Nat) = 50 + 10 from rfl]
  obtain ⟨x, hx⟩ : ∃ x : Int, x = (c * 6364136223846793005 + (m + 1) * 1442695040888963407) % 340282366920938463463374607431768211507 := ⟨_, rfl⟩
  have hx1 : 0 ≤ x ∧ x < 340282366920938463463374607431768211507 := by rw [hx]; exact ⟨Int.emod_nonneg _ (by decide), Int.emod_lt_of_pos _ (by decide)⟩
  obtain ⟨y, hy⟩ : ∃ y : Int, y = x * x % 340282366920938463463374607431768211297 := ⟨_, rfl⟩
  have hy1 : 0 ≤ y ∧ y < 340282366920938463463374607431768211297 := by rw [hy]; exact ⟨Int.emod_nonneg _ (by decide), Int.emod_lt_of_pos _ (by decide)⟩
  have p128 : (340282366920938463463374607431768211507 : Nat) < 2 ^ 2000 := by decide
  have m1 : mulOk x x = true := by
    unfold mulOk
    have : x.natAbs < 2 ^ 2000 := by omega
    simp [this]
  obtain ⟨a, ha⟩ : ∃ a : Int, a = y % 18446744073709551557 + 1 := ⟨_, rfl⟩
  obtain ⟨b, hb⟩ : ∃ b : Int, b = y / 18446744073709551557 + 1 := ⟨_, rfl⟩
  have ha1 : 0 ≤ a ∧ a < 2 ^ 64 := by
    have := Int.emod_nonneg y (show (18446744073709551557 : Int) ≠ 0 by decide)
    have := Int.emod_lt_of_pos y (show (0 : Int) < 18446744073709551557 by decide)
    omega
  have m2 : mulOk a b = true := by
    unfold mulOk intOk
    have : a.natAbs < 2 ^ 64 := by omega
    simp [this]
  have m3 : mulOk (a * b) y = true := by
    have hb1 : 0 ≤ b ∧ b < 2 ^ 128 := by
      have := Int.ediv_nonneg hy1.1 (show (0 : Int) ≤ 18446744073709551557 by decide)
      have := Int.ediv_le_self 18446744073709551557 hy1.1
      omega
    have q : (a * b).natAbs < 2 ^ 2000 := by
      rw [Int.natAbs_mul]
      exact Nat.lt_of_lt_of_le (Nat.mul_lt_mul'' (show a.natAbs < 2 ^ 64 by omega) (show b.natAbs < 2 ^ 128 by omega)) (by decide)
    have q2 : y.natAbs < 2 ^ 2000 := by omega
    unfold mulOk
    simp [q, q2]
  refine ⟨a * b * y % 340282366920938463463374607431768211507, Int.emod_nonneg _ (by decide), ?_⟩
  have hq : (18446744073709551557 : Int) < 2 ^ 1000 := by decide
  have e1 : (evN ⟨T.ev k, [], bDrawn.ns, T.wl⟩ (50 + 10)).s bDrawn.body [some (.d (.int c)), some (.d (.int m)), none] = some (.ok (.rt (.d (.int (a * b * y % 340282366920938463463374607431768211507)))) [some (.d (.int c)), some (.d (.int m)), some (.d (.int (a * b * y)))]) := by
    simp [bDrawn, evN_s, evN_e, stepS, stepS1, stepE, evB, evD, frz, evOs, evO1, evP, fillO, fPlc, unlockR, lockE, unlockE, R.bind, prim, pMul, pAdd, pMod, pFdiv, mulOk_lit (show intOk 6364136223846793005 = true from rfl), mulOk_lit (show intOk 1442695040888963407 = true from rfl), S.toD, ownS, setSlot, pinned, ← hx, m1, ← hy, ← ha, ← hb, m2, m3, hq]
  simp only [List.length_cons, List.length_nil] 
  show (match (evN ⟨T.ev k, [], bDrawn.ns, T.wl⟩ (50 + 10)).s bDrawn.body [some (.d (.int c)), some (.d (.int m)), none] with | some (.ok f env) => _ | some (.exn c env) => _ | none => _) = _
  rw [e1]
  rfl
theorem roll_ev {c m n : Int} (h : T.tab 107 = some bRoll) (h2 : T.tab 106 = some bDrawn) (hn : T.nf = 60) (h0 : 0 < n) (h1 : n < 2 ^ 60) : ∃ v c' m', 0 ≤ v ∧ v < n ∧ T.ev (k + 2) 107 [.l true [.int c, .int m], .d (.int n)] [] [] = some (.ok (.d (.int v)) [.l true [.int c', .int m'], .d (.int n)] []) := by
  rw [ev_succ h, hn]
  unfold bodyR
  rw [show (60 : Nat) = 50 + 10 from rfl]
  have hb : n < 2 ^ 1000 := Int.lt_trans h1 (by decide)
  have h8 : (8 : Int) < 2 ^ 1000 := by decide
  by_cases e : (10 : Int) ^ 18 ≤ c
  · refine ⟨c % n, c / n, m, Int.emod_nonneg _ (by omega), Int.emod_lt_of_pos _ h0, ?_⟩
    have e' : (1000000000000000000 : Int) ≤ c := e
    simp [bRoll, evN_s, evN_e, stepS, stepS1, stepE, evB, evD, frz, evOs, evO1, evP, fillO, fPlc, unlockR, lockE, unlockE, R.bind, prim, pGe, pPow, pMul, pAdd, pMod, pFdiv, pIdx, atI, intOk, boolOf, S.toD, ownS, setSlot, pinned, peekS, S.un, h0, hb, e', ownAt, isL, lock1, unlock1, slotP, turnS, putS, owned]
    rfl
  · obtain ⟨v, hv, hd⟩ := drawn_ev (k := k) (c := c) (m := m + 1) h2 hn
    have e' : ¬ (1000000000000000000 : Int) ≤ c := e
    refine ⟨v / 8 % n, c, m + 1, Int.emod_nonneg _ (by omega), Int.emod_lt_of_pos _ h0, ?_⟩
    simp [bRoll, evN_s, evN_e, stepS, stepS1, stepE, evB, evD, frz, evOs, evO1, evP, fillO, fPlc, unlockR, lockE, unlockE, R.bind, prim, pGe, pPow, pMul, pAdd, pMod, pFdiv, pIdx, atI, intOk, boolOf, S.toD, ownS, setSlot, pinned, peekS, S.un, h0, hb, e', ownAt, isL, lock1, unlock1, slotP, turnS, putS, owned, h8, evAs, callR, specs, bwsOf, lamsOf, argS, backS, hd]
    rfl
theorem rangeL_ints {a b : Int} : ∀ {n : Nat}, (rangeL a b 1 n).length ≤ n ∧ ∀ d ∈ rangeL a b 1 n, ∃ i, d = .int i := by
  intro n
  induction n generalizing a with
  | zero => exact ⟨Nat.le_refl _, fun d hd => by simp [rangeL] at hd⟩
  | succ n ih =>
    unfold rangeL
    split
    · refine ⟨by simpa using (ih (a := a + 1)).1, fun d hd => ?_⟩
      rcases List.mem_cons.mp hd with z | z
      · exact ⟨a, z⟩
      · exact ih.2 d z
    · exact ⟨by simp, fun d hd => by simp at hd⟩
theorem rounds_ev {ns : List Int} {hi : Int} (h : T.tab 108 = some bRounds) (h2 : T.tab 105 = some bCell) (hn : T.nf = 60) (hl : ns.length ≤ 63) : ∃ (cs : List Int) (as : List S) (pe : Env), T.ev (k + 2) 108 [.d (.scr ns), .d (.int hi)] [] [] = some (.ok (.d (.lst (cs.map dice0))) as pe) := by
  rw [ev_succ h, hn]
  unfold bodyR
  rw [show (60 : Nat) = 50 + 10 from rfl]
  have step : ∀ (n : Nat) (ds : List EV.D), (∀ d ∈ ds, ∃ i, d = .int i) → ∃ cs : List Int, cs.length = ds.length ∧ lcL (.nm 2) (cndOf (evN ⟨T.ev (k + 1), [], 3, T.wl⟩ (n + 5)) none) (evD (evN ⟨T.ev (k + 1), [], 3, T.wl⟩ (n + 5)) (.lst [(.call .fn 105 [.e (.var 0), .e (.var 2)]), (.cst (.int 0))])) ds [some (.d (.scr ns)), some (.d (.int hi)), none] = some (.ok (cs.map dice0) [some (.d (.scr ns)), some (.d (.int hi)), none]) := by
    intro n ds
    induction ds with
    | nil => exact fun _ => ⟨[], rfl, rfl⟩
    | cons d ds ih =>
      intro hd
      obtain ⟨i, rfl⟩ := hd d List.mem_cons_self
      obtain ⟨cs, hc, hcs⟩ := ih fun d h => hd d (List.mem_cons_of_mem _ h)
      obtain ⟨c, hce⟩ := cell_ev (k := k) (ns := ns) (i := i) h2 hn hl
      refine ⟨c :: cs, by simp [hc], ?_⟩
      unfold lcL
      have e1 : setG (.nm 2) (.int i) [some (.d (.scr ns)), some (.d (.int hi)), none] = some [some (.d (.scr ns)), some (.d (.int hi)), some (.d (.int i))] := rfl
      have e2 : evD (evN ⟨T.ev (k + 1), [], 3, T.wl⟩ (n + 5)) (.lst [(.call .fn 105 [.e (.var 0), .e (.var 2)]), (.cst (.int 0))]) [some (.d (.scr ns)), some (.d (.int hi)), some (.d (.int i))] = some (.ok (dice0 c) [some (.d (.scr ns)), some (.d (.int hi)), some (.d (.int i))]) := by
        simp [evD, frz, evN_e, stepE, evDs, evAs, callR, specs, bwsOf, lamsOf, argS, backS, hce, R.bind, S.toD, dice0]
      rw [e1]
      simp only [cndOf]
      rw [e2]
      have e3 : freeE (ownG (.nm 2)) [some (S.d (.scr ns)), some (.d (.int hi)), some (.d (.int i))] = true := rfl
      have e4 : wipeE (ownG (.nm 2)) [some (S.d (.scr ns)), some (.d (.int hi)), some (.d (.int i))] = [some (S.d (.scr ns)), some (.d (.int hi)), none] := rfl
      simp only [e3, e4, if_true, hcs, List.map_cons]
  obtain ⟨b, hb⟩ : ∃ b : Int, b = (if (if (ns.length : Int) < hi then (ns.length : Int) else hi) > 1 then (if (ns.length : Int) < hi then (ns.length : Int) else hi) else 1) := ⟨_, rfl⟩
  have hb1 : 1 ≤ b ∧ b ≤ 63 := by rw [hb]; split <;> split at * <;> omega
  have hI : intB b = true := by
    unfold intB
    rw [Bool.and_eq_true]
    exact ⟨decide_eq_true (by omega), decide_eq_true (by omega)⟩
  obtain ⟨r1, r2⟩ := rangeL_ints (a := 0) (b := b) (n := b.toNat)
  obtain ⟨cs, hc, hcs⟩ := step 53 (rangeL 0 b 1 b.toNat) r2
  refine ⟨cs, [.d (.scr ns), .d (.int hi)], [], ?_⟩
  have hL : cs.length ≤ 1000000 := by omega
  have e1 : (evN ⟨T.ev (k + 1), [], bRounds.ns, T.wl⟩ (50 + 10)).s bRounds.body [some (.d (.scr ns)), some (.d (.int hi)), none] = some (.ok (.rt (.l false (cs.map dice0))) [some (.d (.scr ns)), some (.d (.int hi)), none]) := by
    have hcs' : lcL (.nm 2) (cndOf (evN ⟨T.ev (k + 1), [], 3, T.wl⟩ 58) none) (evD (evN ⟨T.ev (k + 1), [], 3, T.wl⟩ 58) (.lst [(.call .fn 105 [.e (.var 0), .e (.var 2)]), (.cst (.int 0))])) (rangeL 0 b 1 b.toNat) [some (.d (.scr ns)), some (.d (.int hi)), none] = _ := hcs
    simp [bRounds, evN_s, evN_e, stepS, stepS1, stepE, evT, evDs, evB, evD, frz, evOs, evO1, evP, fillO, fPlc, unlockR, lockE, unlockE, R.bind, prim, pMax2, pMin2, pLen, S.toD, ← hb, hI]
    simp [srcP, lockE, unlockE, ownG, freeE, wipeE, restE, hcs', okL, R.bind, hL]
  show (match (evN ⟨T.ev (k + 1), [], bRounds.ns, T.wl⟩ (50 + 10)).s bRounds.body [some (.d (.scr ns)), some (.d (.int hi)), none] with | some (.ok f env) => _ | some (.exn c env) => _ | none => _) = _
  rw [e1]
  rfl
/-- a turn's end, as a test -/
def chk : R Fl → Bool
  | some (.ok .nx env) => match (env[1]? : Option (Option S)) with
    | some (some (S.l true [D.int _, D.int _])) => true
    | _ => false
  | _ => false
theorem chk_ok {x : R Fl} (h : chk x = true) : ∃ (c' m' : Int) (env' : Env), x = some (.ok .nx env') ∧ env'[1]? = some (some (.l true [.int c', .int m'])) := by
  unfold chk at h
  split at h
  · split at h
    · rename_i e; exact ⟨_, _, _, rfl, e⟩
    · cases h
  · cases h
end
end EV

set_option maxRecDepth 100000
set_option maxHeartbeats 4000000
namespace L
open PySem PySem.Spec PyProof.Rows L2 LamX EV
abbrev PG := PySem.Challenge.pw_regexsteps_k19_errors_apart
def top (i : Nat) : Stmt := PG.main.body.getD i (.Pass ⟨0, 0, 0, 0⟩)
def forBody : Stmt → List Stmt
  | .For _ _ b _ _ => b
  | _ => []

abbrev f_is_integer : Nat := 0
abbrev f_is_letters : Nat := 1
abbrev f_has_shape : Nat := 2
abbrev f_items_of : Nat := 3
abbrev f_nullable : Nat := 4
abbrev f_all_sets : Nat := 5
abbrev f_node_count : Nat := 6
abbrev f_stars_are_good : Nat := 7
abbrev f_is_pattern : Nat := 8
abbrev f_check_pattern : Nat := 9
abbrev f_Machine_init : Nat := 12
abbrev f_Machine_choices : Nat := 13
abbrev f_Machine_firsts : Nat := 14
abbrev f_Machine_assign : Nat := 15
abbrev f_Machine_reached : Nat := 16
abbrev f_check_position : Nat := 18
abbrev f_follow_list : Nat := 19
abbrev f_search : Nat := 37
abbrev f_Graph_init : Nat := 38
abbrev f_Graph_word_between : Nat := 39
abbrev f_Graph_from_start : Nat := 40
abbrev f_Graph_twin_moves : Nat := 41
abbrev f_Graph_double_loop : Nat := 42
abbrev f_Graph_triple_moves : Nat := 43
abbrev f_Graph_crossing : Nat := 44
abbrev f_Graph_loop : Nat := 45
abbrev f_Graph_pump : Nat := 46
abbrev f_Graph_crossings : Nat := 47
abbrev f_Graph_longest_chain : Nat := 48
abbrev f_Graph_ladder : Nat := 49
abbrev f_Graph_degree : Nat := 50
abbrev f_Graph_levels : Nat := 51
abbrev f_Graph_group : Nat := 52
abbrev f_growth : Nat := 53
abbrev f_is_text : Nat := 20
abbrev f_is_word : Nat := 21
abbrev f_check_text : Nat := 22
abbrev f_Run_init : Nat := 23
abbrev f_Run_tried : Nat := 24
abbrev f_run_of : Nat := 25
abbrev f_steps : Nat := 27
abbrev f_Attempts_init : Nat := 28
abbrev f_Attempts_descend : Nat := 29
abbrev f_attempts : Nat := 30
abbrev f_path_counts : Nat := 32
abbrev f_advanced : Nat := 33
abbrev f_paths_to : Nat := 34
abbrev f_all_texts : Nat := 35
abbrev f_worst : Nat := 36
abbrev f_counts_from : Nat := 57
abbrev f_are_words : Nat := 58
abbrev f_crossings_of : Nat := 60
abbrev f_is_ladder : Nat := 61
abbrev f_grouped : Nat := 92
abbrev f_written : Nat := 93
abbrev f_Reader_init : Nat := 95
abbrev f_Reader_peek : Nat := 96
abbrev f_Reader_take : Nat := 97
abbrev f_Reader_sequence : Nat := 98
abbrev f_Reader_repeated : Nat := 99
abbrev f_Reader_atom : Nat := 100
abbrev f_parse : Nat := 101
abbrev f_Suite_init : Nat := 82
abbrev f_Suite_len : Nat := 83
abbrev f_Suite_counts : Nat := 84
abbrev f_Suite_add : Nat := 85
abbrev f_Suite_replace : Nat := 86
abbrev f_Suite_over : Nat := 87
abbrev f_Suite_total : Nat := 88
abbrev f_Suite_slowest : Nat := 89
abbrev f_Suite_undo : Nat := 90
abbrev f_Suite_pattern : Nat := 91
abbrev f_l_cell : Nat := 105
abbrev f_l_drawn : Nat := 106
abbrev f_l_roll : Nat := 107
abbrev f_l_rounds : Nat := 108
abbrev f_l_met : Nat := 146
abbrev f_l_alone : Nat := 147
abbrev f_law : Nat := 149
def b_is_integer : FD := ⟨3, 3, [.ret (some (.and (.prim (.isi .int) [.e (.var 0)]) (.and (.not (.prim (.isi .bool) [.e (.var 0)])) (.chain .le .le (.var 1) (.var 0) (.var 2)))))], false⟩
def i_is_integer : FnI := ⟨["value", "low", "high"], ["value", "low", "high"]⟩
def b_is_letters : FD := ⟨1, 4, [.ife (.or (.not (.prim (.isi .str) [.e (.var 0)])) (.or (.not (.chain .le .le (.cst (.int 1)) (.prim .len [.e (.var 0)]) (.cst (.int 3)))) (.not (.prim .all [.e (.lc (.it (.e (.var 0))) (.nm 1) none (.prim .inn [.e (.var 1), .e (.glb 0 (.str [97, 98, 99]))]))])))) [.ret (some (.cst (.bl false)))] [], .ret (some (.prim .all [.e (.lc (.zip (.e (.var 0)) (.e (.prim (.sl true false) [.e (.var 0), .e (.cst (.int 1))]))) (.tup [(.nm 2), (.nm 3)]) none (.prim .lt [.e (.var 2), .e (.var 3)]))]))], false⟩
def i_is_letters : FnI := ⟨["value", "letter", "one", "other"], ["value"]⟩
def b_has_shape : FD := ⟨2, 3, [.ife (.or (.prim .eq [.e (.var 1), .e (.cst (.int 0))]) (.or (.not (.prim (.isi .tuple) [.e (.var 0)])) (.or (.prim .ne [.e (.prim .len [.e (.var 0)]), .e (.cst (.int 2))]) (.not (.prim (.isi .str) [.e (.prim .idx [.e (.var 0), .e (.cst (.int 0))])]))))) [.ret (some (.cst (.bl false)))] [], .ife (.prim .eq [.e (.prim .idx [.e (.var 0), .e (.cst (.int 0))]), .e (.cst (.str [115, 101, 116]))]) [.ret (some (.call .fn f_is_letters [.e (.prim .idx [.e (.var 0), .e (.cst (.int 1))])]))] [], .ife (.prim .inn [.e (.prim .idx [.e (.var 0), .e (.cst (.int 0))]), .e (.tup [(.cst (.str [115, 101, 113])), (.cst (.str [97, 108, 116]))])]) [.ife (.or (.not (.prim (.isi .tuple) [.e (.prim .idx [.e (.var 0), .e (.cst (.int 1))])])) (.not (.chain .le .le (.cst (.int 2)) (.prim .len [.e (.prim .idx [.e (.var 0), .e (.cst (.int 1))])]) (.cst (.int 4))))) [.ret (some (.cst (.bl false)))] [], .ret (some (.prim .all [.e (.lc (.it (.e (.prim .idx [.e (.var 0), .e (.cst (.int 1))]))) (.nm 2) none (.call .fn f_has_shape [.e (.var 2), .e (.prim .sub [.e (.var 1), .e (.cst (.int 1))])]))]))] [], .ret (some (.and (.prim .inn [.e (.prim .idx [.e (.var 0), .e (.cst (.int 0))]), .e (.tup [(.cst (.str [111, 112, 116])), (.cst (.str [115, 116, 97, 114]))])]) (.call .fn f_has_shape [.e (.prim .idx [.e (.var 0), .e (.cst (.int 1))]), .e (.prim .sub [.e (.var 1), .e (.cst (.int 1))])])))], false⟩
def i_has_shape : FnI := ⟨["value", "depth", "item"], ["value", "depth"]⟩
def b_items_of : FD := ⟨1, 1, [.ife (.prim .eq [.e (.prim .idx [.e (.var 0), .e (.cst (.int 0))]), .e (.cst (.str [115, 101, 116]))]) [.ret (some (.tup []))] [], .ret (some (.ite (.prim .inn [.e (.prim .idx [.e (.var 0), .e (.cst (.int 0))]), .e (.tup [(.cst (.str [115, 101, 113])), (.cst (.str [97, 108, 116]))])]) (.prim .idx [.e (.var 0), .e (.cst (.int 1))]) (.tup [(.prim .idx [.e (.var 0), .e (.cst (.int 1))])])))], false⟩
def i_items_of : FnI := ⟨["pattern"], ["pattern"]⟩
def b_nullable : FD := ⟨1, 3, [.asg 1 false (.lc (.it (.e (.call .fn f_items_of [.e (.var 0)]))) (.nm 2) none (.call .fn f_nullable [.e (.var 2)])), .ife (.prim .eq [.e (.prim .idx [.e (.var 0), .e (.cst (.int 0))]), .e (.cst (.str [115, 101, 113]))]) [.ret (some (.prim .all [.e (.var 1)]))] [], .ret (some (.ite (.prim .eq [.e (.prim .idx [.e (.var 0), .e (.cst (.int 0))]), .e (.cst (.str [97, 108, 116]))]) (.prim .any [.e (.var 1)]) (.prim .inn [.e (.prim .idx [.e (.var 0), .e (.cst (.int 0))]), .e (.tup [(.cst (.str [111, 112, 116])), (.cst (.str [115, 116, 97, 114]))])])))], false⟩
def i_nullable : FnI := ⟨["pattern", "some", "item"], ["pattern"]⟩
def b_all_sets : FD := ⟨1, 3, [.ife (.prim .eq [.e (.prim .idx [.e (.var 0), .e (.cst (.int 0))]), .e (.cst (.str [115, 101, 116]))]) [.ret (some (.tup [(.prim .idx [.e (.var 0), .e (.cst (.int 1))])]))] [], .asg 1 false (.tup []), .for_ (.it (.e (.call .fn f_items_of [.e (.var 0)]))) (.nm 2) [.asg 1 false (.prim .add [.e (.var 1), .e (.call .fn f_all_sets [.e (.var 2)])])], .ret (some (.var 1))], false⟩
def i_all_sets : FnI := ⟨["pattern", "found", "item"], ["pattern"]⟩
def b_node_count : FD := ⟨1, 2, [.ret (some (.prim .add [.e (.cst (.int 1)), .e (.prim .sum [.e (.lc (.it (.e (.call .fn f_items_of [.e (.var 0)]))) (.nm 1) none (.call .fn f_node_count [.e (.var 1)]))])]))], false⟩
def i_node_count : FnI := ⟨["pattern", "item"], ["pattern"]⟩
def b_stars_are_good : FD := ⟨1, 2, [.ife (.and (.prim .eq [.e (.prim .idx [.e (.var 0), .e (.cst (.int 0))]), .e (.cst (.str [115, 116, 97, 114]))]) (.call .fn f_nullable [.e (.prim .idx [.e (.var 0), .e (.cst (.int 1))])])) [.ret (some (.cst (.bl false)))] [], .ret (some (.prim .all [.e (.lc (.it (.e (.call .fn f_items_of [.e (.var 0)]))) (.nm 1) none (.call .fn f_stars_are_good [.e (.var 1)]))]))], false⟩
def i_stars_are_good : FnI := ⟨["pattern", "item"], ["pattern"]⟩
def b_is_pattern : FD := ⟨1, 1, [.ife (.not (.call .fn f_has_shape [.e (.var 0), .e (.prim .add [.e (.glb 2 (.int 16)), .e (.cst (.int 1))])])) [.ret (some (.cst (.bl false)))] [], .ret (some (.and (.prim .le [.e (.call .fn f_node_count [.e (.var 0)]), .e (.glb 2 (.int 16))]) (.and (.prim .le [.e (.prim .len [.e (.call .fn f_all_sets [.e (.var 0)])]), .e (.glb 1 (.int 8))]) (.call .fn f_stars_are_good [.e (.var 0)]))))], false⟩
def i_is_pattern : FnI := ⟨["value"], ["value"]⟩
def b_check_pattern : FD := ⟨1, 1, [.ife (.not (.call .fn f_is_pattern [.e (.var 0)])) [.rais 1] []], false⟩
def i_check_pattern : FnI := ⟨["pattern"], ["pattern"]⟩
def b_Machine_init : FD := ⟨2, 3, [.fld 0 20 0 false (.call .fn f_all_sets [.e (.var 1)]), .fld 0 20 1 true (.lc (.it (.e (.attr (.p (.s 0)) 20 0))) (.nm 2) none (.lst [])), .fld 0 20 2 false (.call (.meth 20 0) f_Machine_choices (.bw 0 :: [.e (.var 1), .e (.cst (.int 0)), .e (.lst [(.glb 3 (.int (-1)))])])), .exp (.call (.meth 20 0) f_Machine_assign (.bw 0 :: [.e (.var 1), .e (.cst (.int 0)), .e (.lst [(.glb 3 (.int (-1)))])]))], false⟩
def i_Machine_init : FnI := ⟨["self", "pattern", "letters"], ["self", "pattern"]⟩
def b_Machine_choices : FD := ⟨4, 8, [.ife (.prim .eq [.e (.prim .idx [.e (.var 1), .e (.cst (.int 0))]), .e (.cst (.str [115, 101, 116]))]) [.ret (some (.lst [(.var 2)]))] [], .ife (.prim .eq [.e (.prim .idx [.e (.var 1), .e (.cst (.int 0))]), .e (.cst (.str [115, 116, 97, 114]))]) [.ret (some (.prim .add [.e (.call (.meth 20 0) f_Machine_choices (.bw 0 :: [.e (.prim .idx [.e (.var 1), .e (.cst (.int 1))]), .e (.var 2), .e (.lst [])])), .e (.var 3)]))] [], .ife (.prim .eq [.e (.prim .idx [.e (.var 1), .e (.cst (.int 0))]), .e (.cst (.str [111, 112, 116]))]) [.ret (some (.prim .add [.e (.call (.meth 20 0) f_Machine_choices (.bw 0 :: [.e (.prim .idx [.e (.var 1), .e (.cst (.int 1))]), .e (.var 2), .e (.var 3)])), .e (.var 3)]))] [], .par [(4, false), (5, false)] [(.call (.meth 20 0) f_Machine_firsts (.bw 0 :: [.e (.var 1), .e (.var 2)])), (.lst [])], .ife (.prim .eq [.e (.prim .idx [.e (.var 1), .e (.cst (.int 0))]), .e (.cst (.str [97, 108, 116]))]) [.for_ (.zip (.e (.prim .idx [.e (.var 1), .e (.cst (.int 1))])) (.e (.var 4))) (.tup [(.nm 6), (.nm 7)]) [.asg 5 false (.prim .add [.e (.var 5), .e (.call (.meth 20 0) f_Machine_choices (.bw 0 :: [.e (.var 6), .e (.var 7), .e (.var 3)]))])], .ret (some (.var 5))] [], .exp stk], false⟩
def i_Machine_choices : FnI := ⟨["self", "pattern", "first", "rest", "firsts", "found", "item", "own"], ["self", "pattern", "first", "rest"]⟩
def b_Machine_firsts : FD := ⟨3, 5, [.asg 3 true (.lst []), .for_ (.it (.e (.call .fn f_items_of [.e (.var 1)]))) (.nm 4) [.app (.s 3) (.var 2), .asg 2 false (.prim .add [.e (.var 2), .e (.prim .len [.e (.call .fn f_all_sets [.e (.var 4)])])])], .ret (some (.mv 3))], false⟩
def i_Machine_firsts : FnI := ⟨["self", "pattern", "first", "found", "item"], ["self", "pattern", "first"]⟩
def b_Machine_assign : FD := ⟨4, 6, [.ife (.prim .eq [.e (.prim .idx [.e (.var 1), .e (.cst (.int 0))]), .e (.cst (.str [115, 101, 116]))]) [.sub (.f 0 20 1) (.var 2) (.prim .list [.e (.var 3)])] [.ife (.prim .eq [.e (.prim .idx [.e (.var 1), .e (.cst (.int 0))]), .e (.cst (.str [115, 116, 97, 114]))]) [.exp (.call (.meth 20 0) f_Machine_assign (.bw 0 :: [.e (.prim .idx [.e (.var 1), .e (.cst (.int 1))]), .e (.var 2), .e (.call (.meth 20 0) f_Machine_choices (.bw 0 :: [.e (.var 1), .e (.var 2), .e (.var 3)]))]))] [.ife (.prim .eq [.e (.prim .idx [.e (.var 1), .e (.cst (.int 0))]), .e (.cst (.str [115, 101, 113]))]) [.exp stk] [.for_ (.zip (.e (.call .fn f_items_of [.e (.var 1)])) (.e (.call (.meth 20 0) f_Machine_firsts (.bw 0 :: [.e (.var 1), .e (.var 2)])))) (.tup [(.nm 4), (.nm 5)]) [.exp (.call (.meth 20 0) f_Machine_assign (.bw 0 :: [.e (.var 4), .e (.var 5), .e (.var 3)]))]]]]], false⟩
def i_Machine_assign : FnI := ⟨["self", "pattern", "first", "rest", "item", "own"], ["self", "pattern", "first", "rest"]⟩
def b_Machine_reached : FD := ⟨3, 4, [.ife (.prim .nin [.e (.var 2), .e (.prim .idx [.e (.attr (.p (.s 0)) 20 0), .e (.var 1)])]) [.ret (some (.lst []))] [], .ret (some (.lc (.it (.e (.prim .idx [.e (.attr (.p (.s 0)) 20 1), .e (.var 1)]))) (.nm 3) (some (.prim .ne [.e (.var 3), .e (.glb 3 (.int (-1)))])) (.var 3)))], false⟩
def i_Machine_reached : FnI := ⟨["self", "position", "letter", "other"], ["self", "position", "letter"]⟩
def b_check_position : FD := ⟨2, 2, [.ife (.not (.call .fn f_is_integer [.e (.var 1), .e (.cst (.int 0)), .e (.prim .sub [.e (.prim .len [.e (.call .fn f_all_sets [.e (.var 0)])]), .e (.cst (.int 1))])])) [.rais 4] []], false⟩
def i_check_position : FnI := ⟨["pattern", "position"], ["pattern", "position"]⟩
def b_follow_list : FD := ⟨2, 2, [.exp (.call .fn f_check_pattern [.e (.var 0)]), .exp (.call .fn f_check_position [.e (.var 0), .e (.var 1)]), .ret (some (.prim .idx [.e (.attr (.e (.make 20 f_Machine_init [.e (.var 0)])) 20 1), .e (.var 1)]))], false⟩
def i_follow_list : FnI := ⟨["pattern", "position"], ["pattern", "position"]⟩
def b_search : FD := ⟨3, 10, [.exp stk], false⟩
def i_search : FnI := ⟨["starts", "moves", "goal", "seen", "layer", "state", "fresh", "word", "letter", "other"], ["starts", "moves", "goal"]⟩
def b_Graph_init : FD := ⟨2, 5, [.fld 0 23 0 false (.make 20 f_Machine_init [.e (.var 1)]), .fld 0 23 1 false (.prim .len [.e (.attr (.e (.attr (.p (.s 0)) 23 0)) 20 0)]), .exp stk], false⟩
def i_Graph_init : FnI := ⟨["self", "pattern", "p", "q", "word"], ["self", "pattern"]⟩
def b_Graph_word_between : FD := ⟨3, 6, [.asg 3 false (.call .fn f_search [.e (.var 1), .lam [4, 5] (.call (.meth 20 0) f_Machine_reached (.e (.attr (.p (.s 0)) 23 0) :: [.e (.var 4), .e (.var 5)])), .lam [4] (.prim .eq [.e (.var 4), .e (.var 2)])]), .ret (some (.ite (.prim .isNC [.e (.var 3), .e (.cst .non)]) (.prim .idx [.e (.var 3), .e (.cst (.int 1))]) (.cst .non)))], false⟩
def i_Graph_word_between : FnI := ⟨["self", "starts", "goal", "found", "state", "letter"], ["self", "starts", "goal"]⟩
def b_Graph_from_start : FD := ⟨2, 3, [.ret (some (.call (.meth 23 0) f_Graph_word_between (.bw 0 :: [.e (.lc (.range [(.attr (.p (.s 0)) 23 1)]) (.nm 2) (some (.prim .inn [.e (.var 2), .e (.attr (.e (.attr (.p (.s 0)) 23 0)) 20 2)])) (.var 2)), .e (.var 1)])))], false⟩
def i_Graph_from_start : FnI := ⟨["self", "position", "q"], ["self", "position"]⟩
def b_Graph_twin_moves : FD := ⟨3, 13, [.unp (.tup [(.nm 3), (.nm 4), (.nm 5)]) (.e (.var 1)), .asg 6 true (.lst []), .par [(7, false), (8, false)] [(.call (.meth 20 0) f_Machine_reached (.e (.attr (.p (.s 0)) 23 0) :: [.e (.var 3), .e (.var 2)])), (.call (.meth 20 0) f_Machine_reached (.e (.attr (.p (.s 0)) 23 0) :: [.e (.var 4), .e (.var 2)]))], .for_ (.enum (.e (.var 7))) (.tup [(.nm 9), (.nm 10)]) [.for_ (.enum (.e (.var 8))) (.tup [(.nm 11), (.nm 12)]) [.app (.s 6) (.tup [(.var 10), (.var 12), (.or (.var 5) (.or (.prim .ne [.e (.var 3), .e (.var 4)]) (.prim .ne [.e (.var 9), .e (.var 11)])))])]], .ret (some (.mv 6))], false⟩
def i_Graph_twin_moves : FnI := ⟨["self", "state", "letter", "one", "other", "mark", "found", "firsts", "seconds", "at", "first", "spot", "second"], ["self", "state", "letter"]⟩
def b_Graph_double_loop : FD := ⟨2, 7, [.asg 2 false (.tup [(.var 1), (.var 1), (.cst (.bl true))]), .asg 3 false (.lst [(.tup [(.var 1), (.var 1), (.cst (.bl false))])]), .asg 4 false (.call .fn f_search [.e (.var 3), .lam [5, 6] (.call (.meth 23 0) f_Graph_twin_moves (.bw 0 :: [.e (.var 5), .e (.var 6)])), .lam [5] (.prim .eq [.e (.var 5), .e (.var 2)])]), .ret (some (.ite (.prim .isNC [.e (.var 4), .e (.cst .non)]) (.prim .idx [.e (.var 4), .e (.cst (.int 1))]) (.cst .non)))], false⟩
def i_Graph_double_loop : FnI := ⟨["self", "position", "goal", "starts", "found", "state", "letter"], ["self", "position"]⟩
def b_Graph_loop : FD := ⟨2, 4, [.for_ (.it (.e (.glb 0 (.str [97, 98, 99])))) (.nm 2) [.for_ (.it (.e (.call (.meth 20 0) f_Machine_reached (.e (.attr (.p (.s 0)) 23 0) :: [.e (.var 1), .e (.var 2)])))) (.nm 3) [.exp stk]], .ret (some (.cst .non))], false⟩
def i_Graph_loop : FnI := ⟨["self", "position", "letter", "other"], ["self", "position"]⟩
def b_Graph_pump : FD := ⟨1, 3, [.for_ (.range [(.attr (.p (.s 0)) 23 1)]) (.nm 1) [.asg 2 false (.call (.meth 23 0) f_Graph_double_loop (.bw 0 :: [.e (.var 1)])), .ife (.prim .isNC [.e (.var 2), .e (.cst .non)]) [.ret (some (.tup [(.call (.meth 23 0) f_Graph_from_start (.bw 0 :: [.e (.var 1)])), (.var 2)]))] []], .ret (some (.cst .non))], false⟩
def i_Graph_pump : FnI := ⟨["self", "position", "word"], ["self"]⟩
def b_Graph_longest_chain : FD := ⟨1, 9, [.exp stk], false⟩
def i_Graph_longest_chain : FnI := ⟨["self", "table", "known", "turn", "one", "best", "other", "rows", "pair"], ["self"]⟩
def b_Graph_degree : FD := ⟨1, 3, [.asg 1 false (.call (.meth 23 0) f_Graph_longest_chain (.bw 0 :: [])), .ife (.prim .nemp [.e (.var 1)]) [.ret (some (.prim .add [.e (.prim .len [.e (.var 1)]), .e (.cst (.int 1))]))] [], .ret (some (.ite (.prim .any [.e (.lc (.range [(.attr (.p (.s 0)) 23 1)]) (.nm 2) none (.prim .isNC [.e (.call (.meth 23 0) f_Graph_loop (.bw 0 :: [.e (.var 2)])), .e (.cst .non)]))]) (.cst (.int 1)) (.cst (.int 0))))], false⟩
def i_Graph_degree : FnI := ⟨["self", "found", "position"], ["self"]⟩
def b_growth : FD := ⟨1, 3, [.exp (.call .fn f_check_pattern [.e (.var 0)]), .asg 1 false (.make 23 f_Graph_init [.e (.var 0)]), .ife (.prim .isNC [.e (.call (.meth 23 0) f_Graph_pump (.bw 1 :: [])), .e (.cst .non)]) [.ret (some (.tup [(.cst (.str [101, 120, 112, 111, 110, 101, 110, 116, 105, 97, 108])), (.cst (.int 0))]))] [], .asg 2 false (.call (.meth 23 0) f_Graph_degree (.bw 1 :: [])), .ret (some (.ite (.prim .gt [.e (.var 2), .e (.cst (.int 0))]) (.tup [(.cst (.str [112, 111, 108, 121, 110, 111, 109, 105, 97, 108])), (.var 2)]) (.tup [(.cst (.str [98, 111, 117, 110, 100, 101, 100])), (.cst (.int 0))])))], false⟩
def i_growth : FnI := ⟨["pattern", "graph", "degree"], ["pattern"]⟩
def b_is_text : FD := ⟨2, 3, [.ret (some (.and (.prim (.isi .str) [.e (.var 0)]) (.and (.prim .le [.e (.prim .len [.e (.var 0)]), .e (.var 1)]) (.prim .all [.e (.lc (.it (.e (.var 0))) (.nm 2) none (.prim .inn [.e (.var 2), .e (.glb 7 (.str [97, 98, 99, 120]))]))]))))], false⟩
def i_is_text : FnI := ⟨["value", "most", "sign"], ["value", "most"]⟩
def b_is_word : FD := ⟨2, 3, [.ret (some (.and (.prim (.isi .str) [.e (.var 0)]) (.and (.prim .le [.e (.prim .len [.e (.var 0)]), .e (.var 1)]) (.prim .all [.e (.lc (.it (.e (.var 0))) (.nm 2) none (.prim .inn [.e (.var 2), .e (.glb 0 (.str [97, 98, 99]))]))]))))], false⟩
def i_is_word : FnI := ⟨["value", "most", "sign"], ["value", "most"]⟩
def b_check_text : FD := ⟨2, 2, [.ife (.not (.call .fn f_is_text [.e (.var 0), .e (.var 1)])) [.rais 2] []], false⟩
def i_check_text : FnI := ⟨["text", "most"], ["text", "most"]⟩
def b_Run_init : FD := ⟨3, 6, [.fld 0 21 0 false (.var 1), .fld 0 21 1 false (.var 2), .asg 3 false (.lst []), .for_ (.range [(.prim .len [.e (.var 2)]), (.prim .neg [.e (.cst (.int 1))]), (.prim .neg [.e (.cst (.int 1))])]) (.nm 4) [.asg 3 false (.lc (.it (.e (.prim .add [.e (.attr (.p (.s 1)) 20 1), .e (.lst [(.attr (.p (.s 1)) 20 2)])]))) (.nm 5) none (.call (.meth 21 0) f_Run_tried (.bw 0 :: [.e (.var 5), .e (.var 4), .e (.var 3)])))], .fld 0 21 2 false (.prim .idx [.e (.var 3), .e (.prim .neg [.e (.cst (.int 1))])])], false⟩
def i_Run_init : FnI := ⟨["self", "machine", "text", "later", "index", "choices"], ["self", "machine", "text"]⟩
def b_Run_tried : FD := ⟨4, 8, [.asg 4 false (.cst (.int 0)), .for_ (.it (.e (.var 1))) (.nm 5) [.ife (.prim .eq [.e (.var 5), .e (.glb 3 (.int (-1)))]) [.ife (.prim .eq [.e (.var 2), .e (.prim .len [.e (.attr (.p (.s 0)) 21 1)])]) [.ret (some (.tup [(.cst (.bl true)), (.var 4)]))] []] [.asg 4 false (.prim .add [.e (.var 4), .e (.cst (.int 1))]), .ife (.and (.prim .lt [.e (.var 2), .e (.prim .len [.e (.attr (.p (.s 0)) 21 1)])]) (.prim .inn [.e (.prim .idx [.e (.attr (.p (.s 0)) 21 1), .e (.var 2)]), .e (.prim .idx [.e (.attr (.e (.attr (.p (.s 0)) 21 0)) 20 0), .e (.var 5)])])) [.unp (.tup [(.nm 6), (.nm 7)]) (.e (.prim .idx [.e (.var 3), .e (.var 5)])), .asg 4 false (.prim .add [.e (.var 4), .e (.var 7)]), .ife (.var 6) [.ret (some (.tup [(.cst (.bl true)), (.var 4)]))] []] []]], .ret (some (.tup [(.cst (.bl false)), (.var 4)]))], false⟩
def i_Run_tried : FnI := ⟨["self", "choices", "index", "later", "total", "choice", "success", "more"], ["self", "choices", "index", "later"]⟩
def b_run_of : FD := ⟨2, 2, [.ret (some (.attr (.e (.make 21 f_Run_init [.e (.make 20 f_Machine_init [.e (.var 0)]), .e (.var 1)])) 21 2))], false⟩
def i_run_of : FnI := ⟨["pattern", "text"], ["pattern", "text"]⟩
def b_steps : FD := ⟨2, 2, [.exp (.call .fn f_check_pattern [.e (.var 0)]), .exp (.call .fn f_check_text [.e (.var 1), .e (.glb 4 (.int 60))]), .ret (some (.prim .idx [.e (.call .fn f_run_of [.e (.var 0), .e (.var 1)]), .e (.cst (.int 1))]))], false⟩
def i_steps : FnI := ⟨["pattern", "text"], ["pattern", "text"]⟩
def b_Attempts_init : FD := ⟨3, 3, [.fld 0 22 0 false (.var 1), .fld 0 22 1 false (.var 2), .fld 0 22 2 true (.lst [])], false⟩
def i_Attempts_init : FnI := ⟨["self", "machine", "text"], ["self", "machine", "text"]⟩
def b_Attempts_descend : FD := ⟨3, 4, [.for_ (.it (.e (.var 1))) (.nm 3) [.ife (.prim .eq [.e (.var 3), .e (.glb 3 (.int (-1)))]) [.ife (.prim .eq [.e (.var 2), .e (.prim .len [.e (.attr (.p (.s 0)) 22 1)])]) [.ret (some (.cst (.bl true)))] []] [.app (.f 0 22 2) (.tup [(.var 3), (.var 2)]), .ife (.and (.prim .lt [.e (.var 2), .e (.prim .len [.e (.attr (.p (.s 0)) 22 1)])]) (.prim .inn [.e (.prim .idx [.e (.attr (.p (.s 0)) 22 1), .e (.var 2)]), .e (.prim .idx [.e (.attr (.e (.attr (.p (.s 0)) 22 0)) 20 0), .e (.var 3)])])) [.ife (.call (.meth 22 0) f_Attempts_descend (.bw 0 :: [.e (.prim .idx [.e (.attr (.e (.attr (.p (.s 0)) 22 0)) 20 1), .e (.var 3)]), .e (.prim .add [.e (.var 2), .e (.cst (.int 1))])])) [.ret (some (.cst (.bl true)))] []] []]], .ret (some (.cst (.bl false)))], false⟩
def i_Attempts_descend : FnI := ⟨["self", "choices", "index", "choice"], ["self", "choices", "index"]⟩
def b_attempts : FD := ⟨2, 3, [.exp (.call .fn f_check_pattern [.e (.var 0)]), .exp (.call .fn f_check_text [.e (.var 1), .e (.glb 4 (.int 60))]), .ife (.prim .gt [.e (.prim .idx [.e (.call .fn f_run_of [.e (.var 0), .e (.var 1)]), .e (.cst (.int 1))]), .e (.glb 5 (.int 1000))]) [.rais 9] [], .asg 2 true (.make 22 f_Attempts_init [.e (.make 20 f_Machine_init [.e (.var 0)]), .e (.var 1)]), .exp (.call (.meth 22 0) f_Attempts_descend (.bw 2 :: [.e (.attr (.e (.attr (.p (.s 2)) 22 0)) 20 2), .e (.cst (.int 0))])), .frz 2, .ret (some (.attr (.p (.s 2)) 22 2))], false⟩
def i_attempts : FnI := ⟨["pattern", "text", "search"], ["pattern", "text"]⟩
def b_path_counts : FD := ⟨2, 5, [.exp stk], false⟩
def i_path_counts : FnI := ⟨["machine", "word", "counts", "q", "letter"], ["machine", "word"]⟩
def b_advanced : FD := ⟨3, 7, [.asg 3 true (.lc (.it (.e (.var 1))) (.nm 4) none (.cst (.int 0))), .for_ (.enum (.e (.var 1))) (.tup [(.nm 5), (.nm 4)]) [.for_ (.it (.e (.call (.meth 20 0) f_Machine_reached (.bw 0 :: [.e (.var 5), .e (.var 2)])))) (.nm 6) [.sub (.s 3) (.var 6) (.prim .add [.e (.prim .idx [.p (.s 3), .e (.var 6)]), .e (.var 4)])]], .ret (some (.mv 3))], false⟩
def i_advanced : FnI := ⟨["machine", "counts", "letter", "fresh", "count", "position", "other"], ["machine", "counts", "letter"]⟩
def b_paths_to : FD := ⟨2, 2, [.exp (.call .fn f_check_pattern [.e (.var 0)]), .ife (.not (.call .fn f_is_word [.e (.var 1), .e (.glb 4 (.int 60))])) [.rais 3] [], .ret (some (.prim .tuple [.e (.call .fn f_path_counts [.e (.make 20 f_Machine_init [.e (.var 0)]), .e (.var 1)])]))], false⟩
def i_paths_to : FnI := ⟨["pattern", "word"], ["pattern", "word"]⟩
def b_all_texts : FD := ⟨1, 5, [.asg 1 false (.lst [(.cst (.str []))]), .for_ (.range [(.var 0)]) (.nm 2) [.exp stk], .ret (some (.var 1))], false⟩
def i_all_texts : FnI := ⟨["length", "found", "turn", "text", "sign"], ["length"]⟩
def b_worst : FD := ⟨2, 6, [.exp (.call .fn f_check_pattern [.e (.var 0)]), .ife (.not (.call .fn f_is_integer [.e (.var 1), .e (.cst (.int 0)), .e (.glb 6 (.int 5))])) [.rais 5] [], .par [(2, false), (3, false)] [(.make 20 f_Machine_init [.e (.var 0)]), (.tup [(.prim .neg [.e (.cst (.int 1))]), (.cst (.str []))])], .for_ (.it (.e (.call .fn f_all_texts [.e (.var 1)]))) (.nm 4) [.asg 5 false (.prim .idx [.e (.attr (.e (.make 21 f_Run_init [.e (.var 2), .e (.var 4)])) 21 2), .e (.cst (.int 1))]), .ife (.prim .gt [.e (.var 5), .e (.prim .idx [.e (.var 3), .e (.cst (.int 0))])]) [.asg 3 false (.tup [(.var 5), (.var 4)])] []], .ret (some (.var 3))], false⟩
def i_worst : FnI := ⟨["pattern", "length", "machine", "best", "text", "own"], ["pattern", "length"]⟩
def b_counts_from : FD := ⟨3, 6, [.asg 3 false (.lc (.range [(.prim .len [.e (.attr (.p (.s 0)) 20 0)])]) (.nm 4) none (.ite (.prim .eq [.e (.var 4), .e (.var 1)]) (.cst (.int 1)) (.cst (.int 0)))), .for_ (.it (.e (.var 2))) (.nm 5) [.asg 3 false (.call .fn f_advanced [.e (.var 0), .e (.var 3), .e (.var 5)])], .ret (some (.var 3))], false⟩
def i_counts_from : FnI := ⟨["machine", "position", "word", "counts", "q", "letter"], ["machine", "position", "word"]⟩
def b_are_words : FD := ⟨1, 2, [.ife (.or (.not (.prim (.isi .tuple) [.e (.var 0)])) (.or (.prim .ne [.e (.prim .len [.e (.var 0)]), .e (.cst (.int 2))]) (.not (.prim .all [.e (.lc (.it (.e (.var 0))) (.nm 1) none (.call .fn f_is_word [.e (.var 1), .e (.glb 4 (.int 60))]))])))) [.ret (some (.cst (.bl false)))] [], .ret (some (.prim .ne [.e (.prim .idx [.e (.var 0), .e (.cst (.int 1))]), .e (.cst (.str []))]))], false⟩
def i_are_words : FnI := ⟨["value", "item"], ["value"]⟩
def b_is_ladder : FD := ⟨3, 14, [.exp (.call .fn f_check_pattern [.e (.var 0)]), .ife (.not (.call .fn f_is_integer [.e (.var 1), .e (.cst (.int 1)), .e (.glb 8 (.int 20))])) [.rais 6] [], .ife (.or (.not (.prim (.isi .tuple) [.e (.var 2)])) (.or (.prim .ne [.e (.prim .len [.e (.var 2)]), .e (.prim .max2 [.e (.cst (.int 1)), .e (.prim .sub [.e (.var 1), .e (.cst (.int 1))])])]) (.not (.prim .all [.e (.lc (.it (.e (.var 2))) (.nm 3) none (.call .fn f_are_words [.e (.var 3)]))])))) [.ret (some (.cst (.bl false)))] [], .asg 4 false (.make 20 f_Machine_init [.e (.var 0)]), .asg 5 false (.prim .len [.e (.attr (.p (.s 4)) 20 0)]), .asg 6 false (.call .fn f_path_counts [.e (.var 4), .e (.prim .idx [.e (.prim .idx [.e (.var 2), .e (.cst (.int 0))]), .e (.cst (.int 0))])]), .ife (.prim .eq [.e (.var 1), .e (.cst (.int 1))]) [.ret (some (.prim .any [.e (.lc (.range [(.var 5)]) (.nm 7) none (.and (.prim .gt [.e (.prim .idx [.e (.var 6), .e (.var 7)]), .e (.cst (.int 0))]) (.prim .gt [.e (.prim .idx [.e (.call .fn f_counts_from [.e (.var 4), .e (.var 7), .e (.prim .idx [.e (.prim .idx [.e (.var 2), .e (.cst (.int 0))]), .e (.cst (.int 1))])]), .e (.var 7)]), .e (.cst (.int 0))])))]))] [], .asg 8 false (.lst []), .for_ (.enum (.e (.var 2))) (.tup [(.nm 9), (.tup [(.nm 10), (.nm 11)])]) [.ife (.prim .eq [.e (.var 9), .e (.cst (.int 0))]) [.asg 12 false (.lc (.range [(.var 5)]) (.nm 7) (some (.prim .gt [.e (.prim .idx [.e (.var 6), .e (.var 7)]), .e (.cst (.int 0))])) (.var 7))] [.asg 12 false (.lc (.range [(.var 5)]) (.nm 7) (some (.prim .any [.e (.lc (.it (.e (.var 8))) (.nm 13) none (.prim .gt [.e (.prim .idx [.e (.call .fn f_counts_from [.e (.var 4), .e (.var 13), .e (.var 10)]), .e (.var 7)]), .e (.cst (.int 0))]))])) (.var 7))], .exp stk], .ret (some (.prim .nemp [.e (.var 8)]))], false⟩
def i_is_ladder : FnI := ⟨["pattern", "degree", "value", "item", "machine", "size", "reach", "p", "ends", "at", "bridge", "loop", "firsts", "q"], ["pattern", "degree", "value"]⟩
def b_grouped : FD := ⟨2, 3, [.asg 2 false (.call .fn f_written [.e (.var 0)]), .ret (some (.ite (.prim .inn [.e (.prim .idx [.e (.var 0), .e (.cst (.int 0))]), .e (.var 1)]) (.prim .add [.e (.prim .add [.e (.cst (.str [40])), .e (.var 2)]), .e (.cst (.str [41]))]) (.var 2)))], false⟩
def i_grouped : FnI := ⟨["pattern", "kinds", "text"], ["pattern", "kinds"]⟩
def b_written : FD := ⟨1, 2, [.ife (.prim .eq [.e (.prim .idx [.e (.var 0), .e (.cst (.int 0))]), .e (.cst (.str [115, 101, 116]))]) [.ret (some (.ite (.prim .eq [.e (.prim .len [.e (.prim .idx [.e (.var 0), .e (.cst (.int 1))])]), .e (.cst (.int 1))]) (.prim .idx [.e (.var 0), .e (.cst (.int 1))]) (.prim .add [.e (.prim .add [.e (.cst (.str [91])), .e (.prim .idx [.e (.var 0), .e (.cst (.int 1))])]), .e (.cst (.str [93]))])))] [], .ife (.prim .eq [.e (.prim .idx [.e (.var 0), .e (.cst (.int 0))]), .e (.cst (.str [97, 108, 116]))]) [.exp stk] [], .ife (.prim .eq [.e (.prim .idx [.e (.var 0), .e (.cst (.int 0))]), .e (.cst (.str [115, 101, 113]))]) [.exp stk] [], .ret (some (.prim .add [.e (.call .fn f_grouped [.e (.prim .idx [.e (.var 0), .e (.cst (.int 1))]), .e (.tup [(.cst (.str [115, 101, 113])), (.cst (.str [111, 112, 116])), (.cst (.str [115, 116, 97, 114]))])]), .e (.ite (.prim .eq [.e (.prim .idx [.e (.var 0), .e (.cst (.int 0))]), .e (.cst (.str [111, 112, 116]))]) (.cst (.str [63])) (.cst (.str [42])))]))], false⟩
def i_written : FnI := ⟨["pattern", "item"], ["pattern"]⟩
def b_Reader_init : FD := ⟨2, 2, [.fld 0 27 0 false (.var 1), .fld 0 27 1 false (.cst (.int 0))], false⟩
def i_Reader_init : FnI := ⟨["self", "string"], ["self", "string"]⟩
def b_Reader_peek : FD := ⟨1, 1, [.ret (some (.prim (.sl true true) [.e (.attr (.p (.s 0)) 27 0), .e (.attr (.p (.s 0)) 27 1), .e (.prim .add [.e (.attr (.p (.s 0)) 27 1), .e (.cst (.int 1))])]))], false⟩
def i_Reader_peek : FnI := ⟨["self"], ["self"]⟩
def b_Reader_take : FD := ⟨1, 2, [.asg 1 false (.call (.meth 27 0) f_Reader_peek (.bw 0 :: [])), .fld 0 27 1 false (.prim .add [.e (.attr (.p (.s 0)) 27 1), .e (.cst (.int 1))]), .ret (some (.var 1))], false⟩
def i_Reader_take : FnI := ⟨["self", "sign"], ["self"]⟩
def b_Reader_sequence : FD := ⟨1, 2, [.asg 1 true (.lst []), .whl (.and (.prim .ne [.e (.call (.meth 27 0) f_Reader_peek (.bw 0 :: [])), .e (.cst (.str []))]) (.prim .nin [.e (.call (.meth 27 0) f_Reader_peek (.bw 0 :: [])), .e (.cst (.str [124, 41]))])) [.app (.s 1) (.call (.meth 27 0) f_Reader_repeated (.bw 0 :: []))], .ife (.prim .emp [.p (.s 1)]) [.rais 8] [], .ret (some (.ite (.prim .eq [.e (.prim .len [.p (.s 1)]), .e (.cst (.int 1))]) (.prim .idx [.p (.s 1), .e (.cst (.int 0))]) (.tup [(.cst (.str [115, 101, 113])), (.prim .tuple [.p (.s 1)])])))], false⟩
def i_Reader_sequence : FnI := ⟨["self", "items"], ["self"]⟩
def b_Reader_repeated : FD := ⟨1, 2, [.asg 1 false (.call (.meth 27 0) f_Reader_atom (.bw 0 :: [])), .whl (.and (.prim .ne [.e (.call (.meth 27 0) f_Reader_peek (.bw 0 :: [])), .e (.cst (.str []))]) (.prim .inn [.e (.call (.meth 27 0) f_Reader_peek (.bw 0 :: [])), .e (.cst (.str [63, 42]))])) [.asg 1 false (.tup [(.ite (.prim .eq [.e (.call (.meth 27 0) f_Reader_take (.bw 0 :: [])), .e (.cst (.str [63]))]) (.cst (.str [111, 112, 116])) (.cst (.str [115, 116, 97, 114]))), (.var 1)])], .ret (some (.var 1))], false⟩
def i_Reader_repeated : FnI := ⟨["self", "part"], ["self"]⟩
def b_Reader_atom : FD := ⟨1, 4, [.asg 1 false (.call (.meth 27 0) f_Reader_take (.bw 0 :: [])), .ife (.and (.prim .ne [.e (.var 1), .e (.cst (.str []))]) (.prim .inn [.e (.var 1), .e (.glb 0 (.str [97, 98, 99]))])) [.ret (some (.tup [(.cst (.str [115, 101, 116])), (.var 1)]))] [], .ife (.prim .eq [.e (.var 1), .e (.cst (.str [91]))]) [.asg 2 false (.cst (.str [])), .whl (.and (.prim .ne [.e (.call (.meth 27 0) f_Reader_peek (.bw 0 :: [])), .e (.cst (.str []))]) (.prim .inn [.e (.call (.meth 27 0) f_Reader_peek (.bw 0 :: [])), .e (.glb 0 (.str [97, 98, 99]))])) [.asg 2 false (.prim .add [.e (.var 2), .e (.call (.meth 27 0) f_Reader_take (.bw 0 :: []))])], .ife (.prim .ne [.e (.call (.meth 27 0) f_Reader_take (.bw 0 :: [])), .e (.cst (.str [93]))]) [.rais 8] [], .ret (some (.tup [(.cst (.str [115, 101, 116])), (.var 2)]))] [], .ife (.prim .ne [.e (.var 1), .e (.cst (.str [40]))]) [.rais 8] [], .asg 3 true (.lst [(.call (.meth 27 0) f_Reader_sequence (.bw 0 :: []))]), .whl (.prim .eq [.e (.call (.meth 27 0) f_Reader_peek (.bw 0 :: [])), .e (.cst (.str [124]))]) [.exp (.call (.meth 27 0) f_Reader_take (.bw 0 :: [])), .app (.s 3) (.call (.meth 27 0) f_Reader_sequence (.bw 0 :: []))], .ife (.prim .ne [.e (.call (.meth 27 0) f_Reader_take (.bw 0 :: [])), .e (.cst (.str [41]))]) [.rais 8] [], .ret (some (.ite (.prim .eq [.e (.prim .len [.p (.s 3)]), .e (.cst (.int 1))]) (.prim .idx [.p (.s 3), .e (.cst (.int 0))]) (.tup [(.cst (.str [97, 108, 116])), (.prim .tuple [.p (.s 3)])])))], false⟩
def i_Reader_atom : FnI := ⟨["self", "sign", "letters", "items"], ["self"]⟩
def b_parse : FD := ⟨1, 3, [.ife (.or (.not (.prim (.isi .str) [.e (.var 0)])) (.prim .gt [.e (.prim .len [.e (.var 0)]), .e (.cst (.int 200))])) [.rais 8] [], .asg 1 true (.make 27 f_Reader_init [.e (.var 0)]), .asg 2 false (.call (.meth 27 0) f_Reader_sequence (.bw 1 :: [])), .ife (.or (.prim .ne [.e (.call (.meth 27 0) f_Reader_peek (.bw 1 :: [])), .e (.cst (.str []))]) (.or (.not (.call .fn f_is_pattern [.e (.var 2)])) (.prim .ne [.e (.call .fn f_written [.e (.var 2)]), .e (.var 0)]))) [.rais 8] [], .ret (some (.var 2))], false⟩
def i_parse : FnI := ⟨["string", "reader", "pattern"], ["string"]⟩
def b_Suite_init : FD := ⟨3, 3, [.exp (.call .fn f_check_pattern [.e (.var 1)]), .ife (.not (.call .fn f_is_integer [.e (.var 2), .e (.cst (.int 1)), .e (.glb 10 (.int 1000000))])) [.rais 7] [], .fld 0 26 0 false (.var 1), .fld 0 26 1 false (.var 2), .fld 0 26 2 true (.lst []), .fld 0 26 3 true (.lst [])], false⟩
def i_Suite_init : FnI := ⟨["self", "pattern", "budget"], ["self", "pattern", "budget"]⟩
def b_Suite_undo : FD := ⟨1, 3, [.ife (.prim .emp [.p (.f 0 26 3)]) [.rais 10] [], .exp stk], false⟩
def i_Suite_undo : FnI := ⟨["self", "word", "before"], ["self"]⟩
def b_l_cell : FD := ⟨2, 2, [.ife (.prim .emp [.e (.var 0)]) [.ret (some (.prim .mul [.e (.var 1), .e (.cst (.int 7919))]))] [], .ret (some (.prim .add [.e (.prim .idx [.e (.var 0), .e (.prim .mod [.e (.var 1), .e (.prim .len [.e (.var 0)])])]), .e (.prim .mul [.e (.prim .fdiv [.e (.var 1), .e (.prim .len [.e (.var 0)])]), .e (.cst (.int 104729))])]))], false⟩
def i_l_cell : FnI := ⟨["_law_script", "_law_k"], ["_law_script", "_law_k"]⟩
def b_l_drawn : FD := ⟨2, 3, [.asg 2 false (.prim .mod [.e (.prim .add [.e (.prim .mul [.e (.var 0), .e (.cst (.int 6364136223846793005))]), .e (.prim .mul [.e (.prim .add [.e (.var 1), .e (.cst (.int 1))]), .e (.cst (.int 1442695040888963407))])]), .e (.cst (.int 340282366920938463463374607431768211507))]), .asg 2 false (.prim .mod [.e (.prim .mul [.e (.var 2), .e (.var 2)]), .e (.cst (.int 340282366920938463463374607431768211297))]), .asg 2 false (.prim .mul [.e (.prim .mul [.e (.prim .add [.e (.prim .mod [.e (.var 2), .e (.cst (.int 18446744073709551557))]), .e (.cst (.int 1))]), .e (.prim .add [.e (.prim .fdiv [.e (.var 2), .e (.cst (.int 18446744073709551557))]), .e (.cst (.int 1))])]), .e (.var 2)]), .ret (some (.prim .mod [.e (.var 2), .e (.cst (.int 340282366920938463463374607431768211507))]))], false⟩
def i_l_drawn : FnI := ⟨["_law_cell_here", "_law_k", "_law_more"], ["_law_cell_here", "_law_k"]⟩
def b_l_roll : FD := ⟨2, 3, [.ife (.prim .ge [.e (.prim .idx [.p (.s 0), .e (.cst (.int 0))]), .e (.prim .pow [.e (.cst (.int 10)), .e (.cst (.int 18))])]) [.asg 2 false (.prim .mod [.e (.prim .idx [.p (.s 0), .e (.cst (.int 0))]), .e (.var 1)]), .sub (.s 0) (.cst (.int 0)) (.prim .fdiv [.e (.prim .idx [.p (.s 0), .e (.cst (.int 0))]), .e (.var 1)]), .ret (some (.var 2))] [], .sub (.s 0) (.cst (.int 1)) (.prim .add [.e (.prim .idx [.p (.s 0), .e (.cst (.int 1))]), .e (.cst (.int 1))]), .ret (some (.prim .mod [.e (.prim .fdiv [.e (.call .fn f_l_drawn [.e (.prim .idx [.p (.s 0), .e (.cst (.int 0))]), .e (.prim .idx [.p (.s 0), .e (.cst (.int 1))])]), .e (.cst (.int 8))]), .e (.var 1)]))], false⟩
def i_l_roll : FnI := ⟨["_law_dice", "_law_many", "_law_told"], ["_law_dice", "_law_many"]⟩
def b_l_rounds : FD := ⟨2, 3, [.ret (some (.lc (.range [(.prim .max2 [.e (.cst (.int 1)), .e (.prim .min2 [.e (.var 1), .e (.prim .len [.e (.var 0)])])])]) (.nm 2) none (.lst [(.call .fn f_l_cell [.e (.var 0), .e (.var 2)]), (.cst (.int 0))])))], false⟩
def i_l_rounds : FnI := ⟨["_law_script", "_law_high", "_law_k"], ["_law_script", "_law_high"]⟩
def b_l_met : FD := ⟨1, 2, [.try_ [.exp (.ccall 0 [])] 0 (some 1) [.ret (some (.var 1))], .ret (some (.cst .non))], false⟩
def i_l_met : FnI := ⟨["_law_deed", "_law_e"], ["_law_deed"]⟩
def b_l_alone : FD := ⟨2, 4, [.asg 2 false (.lst [(.prim (.isi (.exc 1)) [.e (.var 0)]), (.prim (.isi (.exc 2)) [.e (.var 0)]), (.prim (.isi (.exc 3)) [.e (.var 0)])]), .asg 2 false (.prim .add [.e (.var 2), .e (.lst [(.prim (.isi (.exc 4)) [.e (.var 0)])])]), .asg 2 false (.prim .add [.e (.var 2), .e (.lst [(.prim (.isi (.exc 5)) [.e (.var 0)]), (.prim (.isi (.exc 6)) [.e (.var 0)]), (.prim (.isi (.exc 7)) [.e (.var 0)])])]), .asg 2 false (.prim .add [.e (.var 2), .e (.lst [(.prim (.isi (.exc 8)) [.e (.var 0)]), (.prim (.isi (.exc 9)) [.e (.var 0)]), (.prim (.isi (.exc 10)) [.e (.var 0)])])]), .ret (some (.and (.prim (.isi .valueError) [.e (.var 0)]) (.prim .eq [.e (.var 2), .e (.lc (.range [(.cst (.int 10))]) (.nm 3) none (.prim .eq [.e (.var 3), .e (.var 1)]))])))], false⟩
def i_l_alone : FnI := ⟨["_law_e", "_law_own", "_law_some", "_law_at"], ["_law_e", "_law_own"]⟩
def b_law : FD := ⟨2, 8, [.unp (.tup [(.nm 2), (.nm 3)]) (.e (.tup [(.prim .add [.e (.cst (.int 1)), .e (.call .fn f_l_roll [.bw 1, .e (.cst (.int 9))])]), (.tup [(.cst (.str [115, 101, 116])), (.cst (.str [97]))])])), .asg 4 false (.tup [(.cst (.str [115, 116, 97, 114])), (.tup [(.cst (.str [97, 108, 116])), (.tup [(.var 3), (.var 3)])])]), .asg 5 true (.lst [(.call .fn f_l_met [.lam [] (.call .fn f_growth [.e (.tup [(.cst (.str [115, 101, 116])), (.prim .mul [.e (.cst (.str [97])), .e (.prim .add [.e (.cst (.int 1)), .e (.var 2)])])])])])]), .app (.s 5) (.call .fn f_l_met [.lam [] (.call .fn f_steps [.e (.var 3), .e (.prim .mul [.e (.cst (.str [100])), .e (.var 2)])])]), .app (.s 5) (.call .fn f_l_met [.lam [] (.call .fn f_paths_to [.e (.var 3), .e (.prim .mul [.e (.cst (.str [120])), .e (.var 2)])])]), .app (.s 5) (.call .fn f_l_met [.lam [] (.call .fn f_follow_list [.e (.var 3), .e (.var 2)])]), .app (.s 5) (.call .fn f_l_met [.lam [] (.call .fn f_worst [.e (.var 3), .e (.prim .add [.e (.cst (.int 5)), .e (.var 2)])])]), .app (.s 5) (.call .fn f_l_met [.lam [] (.call .fn f_is_ladder [.e (.var 3), .e (.prim .add [.e (.cst (.int 20)), .e (.var 2)]), .e (.cst .non)])]), .app (.s 5) (.call .fn f_l_met [.lam [] (.make 26 f_Suite_init [.e (.var 3), .e (.prim .add [.e (.cst (.int 1000000)), .e (.var 2)])])]), .app (.s 5) (.call .fn f_l_met [.lam [] (.call .fn f_parse [.e (.prim .mul [.e (.cst (.str [40])), .e (.var 2)])])]), .app (.s 5) (.call .fn f_l_met [.lam [] (.call .fn f_attempts [.e (.var 4), .e (.prim .add [.e (.prim .mul [.e (.cst (.str [97])), .e (.prim .add [.e (.cst (.int 8)), .e (.var 2)])]), .e (.cst (.str [120]))])])]), .app (.s 5) (.call .fn f_l_met [.lam [] (.call (.meth 26 0) f_Suite_undo (.e (.make 26 f_Suite_init [.e (.var 4), .e (.var 2)]) :: []))]), .ife (.not (.prim .all [.e (.lc (.enum (.p (.s 5))) (.tup [(.nm 6), (.nm 7)]) none (.call .fn f_l_alone [.e (.var 7), .e (.var 6)]))])) [.ret (some (.cst (.bl false)))] []], false⟩
def i_law : FnI := ⟨["_law_script", "_law_dice", "_law_more", "_law_one", "_law_double", "_law_made", "_law_at", "_law_e"], ["_law_script"]⟩
def ent (n : Nat) : Option (FD × FnI) := (if n < 36 then (if n < 18 then (if n < 7 then (if n < 3 then (if n < 1 then (if n = 0 then some (b_is_integer, i_is_integer) else none) else (if n < 2 then (if n = 1 then some (b_is_letters, i_is_letters) else none) else (if n = 2 then some (b_has_shape, i_has_shape) else none))) else (if n < 5 then (if n < 4 then (if n = 3 then some (b_items_of, i_items_of) else none) else (if n = 4 then some (b_nullable, i_nullable) else none)) else (if n < 6 then (if n = 5 then some (b_all_sets, i_all_sets) else none) else (if n = 6 then some (b_node_count, i_node_count) else none)))) else (if n < 13 then (if n < 9 then (if n < 8 then (if n = 7 then some (b_stars_are_good, i_stars_are_good) else none) else (if n = 8 then some (b_is_pattern, i_is_pattern) else none)) else (if n < 12 then (if n = 9 then some (b_check_pattern, i_check_pattern) else none) else (if n = 12 then some (b_Machine_init, i_Machine_init) else none))) else (if n < 15 then (if n < 14 then (if n = 13 then some (b_Machine_choices, i_Machine_choices) else none) else (if n = 14 then some (b_Machine_firsts, i_Machine_firsts) else none)) else (if n < 16 then (if n = 15 then some (b_Machine_assign, i_Machine_assign) else none) else (if n = 16 then some (b_Machine_reached, i_Machine_reached) else none))))) else (if n < 27 then (if n < 22 then (if n < 20 then (if n < 19 then (if n = 18 then some (b_check_position, i_check_position) else none) else (if n = 19 then some (b_follow_list, i_follow_list) else none)) else (if n < 21 then (if n = 20 then some (b_is_text, i_is_text) else none) else (if n = 21 then some (b_is_word, i_is_word) else none))) else (if n < 24 then (if n < 23 then (if n = 22 then some (b_check_text, i_check_text) else none) else (if n = 23 then some (b_Run_init, i_Run_init) else none)) else (if n < 25 then (if n = 24 then some (b_Run_tried, i_Run_tried) else none) else (if n = 25 then some (b_run_of, i_run_of) else none)))) else (if n < 32 then (if n < 29 then (if n < 28 then (if n = 27 then some (b_steps, i_steps) else none) else (if n = 28 then some (b_Attempts_init, i_Attempts_init) else none)) else (if n < 30 then (if n = 29 then some (b_Attempts_descend, i_Attempts_descend) else none) else (if n = 30 then some (b_attempts, i_attempts) else none))) else (if n < 34 then (if n < 33 then (if n = 32 then some (b_path_counts, i_path_counts) else none) else (if n = 33 then some (b_advanced, i_advanced) else none)) else (if n < 35 then (if n = 34 then some (b_paths_to, i_paths_to) else none) else (if n = 35 then some (b_all_texts, i_all_texts) else none)))))) else (if n < 90 then (if n < 46 then (if n < 40 then (if n < 38 then (if n < 37 then (if n = 36 then some (b_worst, i_worst) else none) else (if n = 37 then some (b_search, i_search) else none)) else (if n < 39 then (if n = 38 then some (b_Graph_init, i_Graph_init) else none) else (if n = 39 then some (b_Graph_word_between, i_Graph_word_between) else none))) else (if n < 42 then (if n < 41 then (if n = 40 then some (b_Graph_from_start, i_Graph_from_start) else none) else (if n = 41 then some (b_Graph_twin_moves, i_Graph_twin_moves) else none)) else (if n < 45 then (if n = 42 then some (b_Graph_double_loop, i_Graph_double_loop) else none) else (if n = 45 then some (b_Graph_loop, i_Graph_loop) else none)))) else (if n < 57 then (if n < 50 then (if n < 48 then (if n = 46 then some (b_Graph_pump, i_Graph_pump) else none) else (if n = 48 then some (b_Graph_longest_chain, i_Graph_longest_chain) else none)) else (if n < 53 then (if n = 50 then some (b_Graph_degree, i_Graph_degree) else none) else (if n = 53 then some (b_growth, i_growth) else none))) else (if n < 61 then (if n < 58 then (if n = 57 then some (b_counts_from, i_counts_from) else none) else (if n = 58 then some (b_are_words, i_are_words) else none)) else (if n < 82 then (if n = 61 then some (b_is_ladder, i_is_ladder) else none) else (if n = 82 then some (b_Suite_init, i_Suite_init) else none))))) else (if n < 100 then (if n < 96 then (if n < 93 then (if n < 92 then (if n = 90 then some (b_Suite_undo, i_Suite_undo) else none) else (if n = 92 then some (b_grouped, i_grouped) else none)) else (if n < 95 then (if n = 93 then some (b_written, i_written) else none) else (if n = 95 then some (b_Reader_init, i_Reader_init) else none))) else (if n < 98 then (if n < 97 then (if n = 96 then some (b_Reader_peek, i_Reader_peek) else none) else (if n = 97 then some (b_Reader_take, i_Reader_take) else none)) else (if n < 99 then (if n = 98 then some (b_Reader_sequence, i_Reader_sequence) else none) else (if n = 99 then some (b_Reader_repeated, i_Reader_repeated) else none)))) else (if n < 107 then (if n < 105 then (if n < 101 then (if n = 100 then some (b_Reader_atom, i_Reader_atom) else none) else (if n = 101 then some (b_parse, i_parse) else none)) else (if n < 106 then (if n = 105 then some (b_l_cell, i_l_cell) else none) else (if n = 106 then some (b_l_drawn, i_l_drawn) else none))) else (if n < 146 then (if n < 108 then (if n = 107 then some (b_l_roll, i_l_roll) else none) else (if n = 108 then some (b_l_rounds, i_l_rounds) else none)) else (if n < 147 then (if n = 146 then some (b_l_met, i_l_met) else none) else (if n = 147 then some (b_l_alone, i_l_alone) else none)))))))
def tt : Tb := ⟨fun n => (ent n).map (·.1), fun n => (ent n).map (·.2), 60, 1000000⟩
theorem hT : ∀ f, tt.fi f = none → tt.tab f = none := fun f h => by
  cases e : ent f with
  | none => show (ent f).map _ = none; rw [e]; rfl
  | some x => have h : (ent f).map _ = none := h; rw [e] at h; cases h
theorem fi_is_integer : tt.fi f_is_integer = some i_is_integer := rfl
theorem fi_is_letters : tt.fi f_is_letters = some i_is_letters := rfl
theorem fi_has_shape : tt.fi f_has_shape = some i_has_shape := rfl
theorem fi_items_of : tt.fi f_items_of = some i_items_of := rfl
theorem fi_nullable : tt.fi f_nullable = some i_nullable := rfl
theorem fi_all_sets : tt.fi f_all_sets = some i_all_sets := rfl
theorem fi_node_count : tt.fi f_node_count = some i_node_count := rfl
theorem fi_stars_are_good : tt.fi f_stars_are_good = some i_stars_are_good := rfl
theorem fi_is_pattern : tt.fi f_is_pattern = some i_is_pattern := rfl
theorem fi_check_pattern : tt.fi f_check_pattern = some i_check_pattern := rfl
theorem fi_Machine_init : tt.fi f_Machine_init = some i_Machine_init := rfl
theorem fi_Machine_choices : tt.fi f_Machine_choices = some i_Machine_choices := rfl
theorem fi_Machine_firsts : tt.fi f_Machine_firsts = some i_Machine_firsts := rfl
theorem fi_Machine_assign : tt.fi f_Machine_assign = some i_Machine_assign := rfl
theorem fi_Machine_reached : tt.fi f_Machine_reached = some i_Machine_reached := rfl
theorem fi_check_position : tt.fi f_check_position = some i_check_position := rfl
theorem fi_follow_list : tt.fi f_follow_list = some i_follow_list := rfl
theorem fi_search : tt.fi f_search = some i_search := rfl
theorem fi_Graph_init : tt.fi f_Graph_init = some i_Graph_init := rfl
theorem fi_Graph_word_between : tt.fi f_Graph_word_between = some i_Graph_word_between := rfl
theorem fi_Graph_from_start : tt.fi f_Graph_from_start = some i_Graph_from_start := rfl
theorem fi_Graph_twin_moves : tt.fi f_Graph_twin_moves = some i_Graph_twin_moves := rfl
theorem fi_Graph_double_loop : tt.fi f_Graph_double_loop = some i_Graph_double_loop := rfl
theorem fi_Graph_loop : tt.fi f_Graph_loop = some i_Graph_loop := rfl
theorem fi_Graph_pump : tt.fi f_Graph_pump = some i_Graph_pump := rfl
theorem fi_Graph_longest_chain : tt.fi f_Graph_longest_chain = some i_Graph_longest_chain := rfl
theorem fi_Graph_degree : tt.fi f_Graph_degree = some i_Graph_degree := rfl
theorem fi_growth : tt.fi f_growth = some i_growth := rfl
theorem fi_is_text : tt.fi f_is_text = some i_is_text := rfl
theorem fi_is_word : tt.fi f_is_word = some i_is_word := rfl
theorem fi_check_text : tt.fi f_check_text = some i_check_text := rfl
theorem fi_Run_init : tt.fi f_Run_init = some i_Run_init := rfl
theorem fi_Run_tried : tt.fi f_Run_tried = some i_Run_tried := rfl
theorem fi_run_of : tt.fi f_run_of = some i_run_of := rfl
theorem fi_steps : tt.fi f_steps = some i_steps := rfl
theorem fi_Attempts_init : tt.fi f_Attempts_init = some i_Attempts_init := rfl
theorem fi_Attempts_descend : tt.fi f_Attempts_descend = some i_Attempts_descend := rfl
theorem fi_attempts : tt.fi f_attempts = some i_attempts := rfl
theorem fi_path_counts : tt.fi f_path_counts = some i_path_counts := rfl
theorem fi_advanced : tt.fi f_advanced = some i_advanced := rfl
theorem fi_paths_to : tt.fi f_paths_to = some i_paths_to := rfl
theorem fi_all_texts : tt.fi f_all_texts = some i_all_texts := rfl
theorem fi_worst : tt.fi f_worst = some i_worst := rfl
theorem fi_counts_from : tt.fi f_counts_from = some i_counts_from := rfl
theorem fi_are_words : tt.fi f_are_words = some i_are_words := rfl
theorem fi_is_ladder : tt.fi f_is_ladder = some i_is_ladder := rfl
theorem fi_grouped : tt.fi f_grouped = some i_grouped := rfl
theorem fi_written : tt.fi f_written = some i_written := rfl
theorem fi_Reader_init : tt.fi f_Reader_init = some i_Reader_init := rfl
theorem fi_Reader_peek : tt.fi f_Reader_peek = some i_Reader_peek := rfl
theorem fi_Reader_take : tt.fi f_Reader_take = some i_Reader_take := rfl
theorem fi_Reader_sequence : tt.fi f_Reader_sequence = some i_Reader_sequence := rfl
theorem fi_Reader_repeated : tt.fi f_Reader_repeated = some i_Reader_repeated := rfl
theorem fi_Reader_atom : tt.fi f_Reader_atom = some i_Reader_atom := rfl
theorem fi_parse : tt.fi f_parse = some i_parse := rfl
theorem fi_Suite_init : tt.fi f_Suite_init = some i_Suite_init := rfl
theorem fi_Suite_undo : tt.fi f_Suite_undo = some i_Suite_undo := rfl
theorem fi_l_cell : tt.fi f_l_cell = some i_l_cell := rfl
theorem fi_l_drawn : tt.fi f_l_drawn = some i_l_drawn := rfl
theorem fi_l_roll : tt.fi f_l_roll = some i_l_roll := rfl
theorem fi_l_rounds : tt.fi f_l_rounds = some i_l_rounds := rfl
theorem fi_l_met : tt.fi f_l_met = some i_l_met := rfl
theorem fi_l_alone : tt.fi f_l_alone = some i_l_alone := rfl
def gt : List (Str × GK) := [(("StepError" : Str), GK.exc 0), (("BadPattern" : Str), GK.exc 1), (("BadText" : Str), GK.exc 2), (("BadWord" : Str), GK.exc 3), (("BadPosition" : Str), GK.exc 4), (("BadLength" : Str), GK.exc 5), (("BadDegree" : Str), GK.exc 6), (("BadBudget" : Str), GK.exc 7), (("BadSyntax" : Str), GK.exc 8), (("TooMany" : Str), GK.exc 9), (("NothingToUndo" : Str), GK.exc 10), (("LETTERS" : Str), GK.cst (.str "abc")), (("MOST_SETS" : Str), GK.cst (.int (8))), (("MOST_NODES" : Str), GK.cst (.int (16))), (("END" : Str), GK.cst (.int (-1))), (("is_integer" : Str), GK.fn f_is_integer), (("is_letters" : Str), GK.fn f_is_letters), (("has_shape" : Str), GK.fn f_has_shape), (("items_of" : Str), GK.fn f_items_of), (("nullable" : Str), GK.fn f_nullable), (("all_sets" : Str), GK.fn f_all_sets), (("node_count" : Str), GK.fn f_node_count), (("stars_are_good" : Str), GK.fn f_stars_are_good), (("is_pattern" : Str), GK.fn f_is_pattern), (("check_pattern" : Str), GK.fn f_check_pattern), (("Machine" : Str), GK.cls 20), (("check_position" : Str), GK.fn f_check_position), (("follow_list" : Str), GK.fn f_follow_list), (("search" : Str), GK.fn f_search), (("Graph" : Str), GK.cls 23), (("growth" : Str), GK.fn f_growth), (("MOST_TEXT" : Str), GK.cst (.int (60))), (("MOST_ATTEMPTS" : Str), GK.cst (.int (1000))), (("LONGEST_WORST" : Str), GK.cst (.int (5))), (("CHARACTERS" : Str), GK.cst (.str "abcx")), (("is_text" : Str), GK.fn f_is_text), (("is_word" : Str), GK.fn f_is_word), (("check_text" : Str), GK.fn f_check_text), (("Run" : Str), GK.cls 21), (("run_of" : Str), GK.fn f_run_of), (("steps" : Str), GK.fn f_steps), (("Attempts" : Str), GK.cls 22), (("attempts" : Str), GK.fn f_attempts), (("path_counts" : Str), GK.fn f_path_counts), (("advanced" : Str), GK.fn f_advanced), (("paths_to" : Str), GK.fn f_paths_to), (("all_texts" : Str), GK.fn f_all_texts), (("worst" : Str), GK.fn f_worst), (("MOST_DEGREE" : Str), GK.cst (.int (20))), (("counts_from" : Str), GK.fn f_counts_from), (("are_words" : Str), GK.fn f_are_words), (("crossings_of" : Str), GK.fn f_crossings_of), (("is_ladder" : Str), GK.fn f_is_ladder), (("grouped" : Str), GK.fn f_grouped), (("written" : Str), GK.fn f_written), (("Reader" : Str), GK.cls 27), (("parse" : Str), GK.fn f_parse), (("MOST_BUDGET" : Str), GK.cst (.int (1000000))), (("Suite" : Str), GK.cls 26), (("_law_cell" : Str), GK.fn f_l_cell), (("_law_drawn" : Str), GK.fn f_l_drawn), (("_law_roll" : Str), GK.fn f_l_roll), (("_law_rounds" : Str), GK.fn f_l_rounds), (("_law_met" : Str), GK.fn f_l_met), (("_law_alone" : Str), GK.fn f_l_alone), (("ValueError" : Str), GK.bi), (("all" : Str), GK.bi), (("any" : Str), GK.bi), (("bool" : Str), GK.bi), (("enumerate" : Str), GK.bi), (("int" : Str), GK.bi), (("isinstance" : Str), GK.bi), (("len" : Str), GK.bi), (("list" : Str), GK.bi), (("max" : Str), GK.bi), (("min" : Str), GK.bi), (("range" : Str), GK.bi), (("set" : Str), GK.bi), (("sorted" : Str), GK.bi), (("str" : Str), GK.bi), (("sum" : Str), GK.bi), (("tuple" : Str), GK.bi), (("zip" : Str), GK.bi), (("law" : Str), GK.fn f_law)]
abbrev g_is_integer : GX := ⟨i_is_integer.N, defScope (top 18), gt⟩
abbrev g_is_letters : GX := ⟨i_is_letters.N, defScope (top 19), gt⟩
abbrev g_has_shape : GX := ⟨i_has_shape.N, defScope (top 20), gt⟩
abbrev g_items_of : GX := ⟨i_items_of.N, defScope (top 21), gt⟩
abbrev g_nullable : GX := ⟨i_nullable.N, defScope (top 22), gt⟩
abbrev g_all_sets : GX := ⟨i_all_sets.N, defScope (top 23), gt⟩
abbrev g_node_count : GX := ⟨i_node_count.N, defScope (top 24), gt⟩
abbrev g_stars_are_good : GX := ⟨i_stars_are_good.N, defScope (top 25), gt⟩
abbrev g_is_pattern : GX := ⟨i_is_pattern.N, defScope (top 26), gt⟩
abbrev g_check_pattern : GX := ⟨i_check_pattern.N, defScope (top 27), gt⟩
abbrev g_Machine_init : GX := ⟨i_Machine_init.N, defScope (inClass (top 28) 0), gt⟩
abbrev g_Machine_choices : GX := ⟨i_Machine_choices.N, defScope (inClass (top 28) 1), gt⟩
abbrev g_Machine_firsts : GX := ⟨i_Machine_firsts.N, defScope (inClass (top 28) 2), gt⟩
abbrev g_Machine_assign : GX := ⟨i_Machine_assign.N, defScope (inClass (top 28) 3), gt⟩
abbrev g_Machine_reached : GX := ⟨i_Machine_reached.N, defScope (inClass (top 28) 4), gt⟩
abbrev g_check_position : GX := ⟨i_check_position.N, defScope (top 29), gt⟩
abbrev g_follow_list : GX := ⟨i_follow_list.N, defScope (top 30), gt⟩
abbrev g_search : GX := ⟨i_search.N, defScope (top 32), gt⟩
abbrev g_Graph_init : GX := ⟨i_Graph_init.N, defScope (inClass (top 33) 0), gt⟩
abbrev g_Graph_word_between : GX := ⟨i_Graph_word_between.N, defScope (inClass (top 33) 1), gt⟩
abbrev g_Graph_from_start : GX := ⟨i_Graph_from_start.N, defScope (inClass (top 33) 2), gt⟩
abbrev g_Graph_twin_moves : GX := ⟨i_Graph_twin_moves.N, defScope (inClass (top 33) 3), gt⟩
abbrev g_Graph_double_loop : GX := ⟨i_Graph_double_loop.N, defScope (inClass (top 33) 4), gt⟩
abbrev g_Graph_loop : GX := ⟨i_Graph_loop.N, defScope (inClass (top 33) 7), gt⟩
abbrev g_Graph_pump : GX := ⟨i_Graph_pump.N, defScope (inClass (top 33) 8), gt⟩
abbrev g_Graph_longest_chain : GX := ⟨i_Graph_longest_chain.N, defScope (inClass (top 33) 10), gt⟩
abbrev g_Graph_degree : GX := ⟨i_Graph_degree.N, defScope (inClass (top 33) 12), gt⟩
abbrev g_growth : GX := ⟨i_growth.N, defScope (top 34), gt⟩
abbrev g_is_text : GX := ⟨i_is_text.N, defScope (top 40), gt⟩
abbrev g_is_word : GX := ⟨i_is_word.N, defScope (top 41), gt⟩
abbrev g_check_text : GX := ⟨i_check_text.N, defScope (top 42), gt⟩
abbrev g_Run_init : GX := ⟨i_Run_init.N, defScope (inClass (top 43) 0), gt⟩
abbrev g_Run_tried : GX := ⟨i_Run_tried.N, defScope (inClass (top 43) 1), gt⟩
abbrev g_run_of : GX := ⟨i_run_of.N, defScope (top 44), gt⟩
abbrev g_steps : GX := ⟨i_steps.N, defScope (top 45), gt⟩
abbrev g_Attempts_init : GX := ⟨i_Attempts_init.N, defScope (inClass (top 46) 0), gt⟩
abbrev g_Attempts_descend : GX := ⟨i_Attempts_descend.N, defScope (inClass (top 46) 1), gt⟩
abbrev g_attempts : GX := ⟨i_attempts.N, defScope (top 47), gt⟩
abbrev g_path_counts : GX := ⟨i_path_counts.N, defScope (top 48), gt⟩
abbrev g_advanced : GX := ⟨i_advanced.N, defScope (top 49), gt⟩
abbrev g_paths_to : GX := ⟨i_paths_to.N, defScope (top 50), gt⟩
abbrev g_all_texts : GX := ⟨i_all_texts.N, defScope (top 51), gt⟩
abbrev g_worst : GX := ⟨i_worst.N, defScope (top 52), gt⟩
abbrev g_counts_from : GX := ⟨i_counts_from.N, defScope (top 55), gt⟩
abbrev g_are_words : GX := ⟨i_are_words.N, defScope (top 56), gt⟩
abbrev g_is_ladder : GX := ⟨i_is_ladder.N, defScope (top 58), gt⟩
abbrev g_grouped : GX := ⟨i_grouped.N, defScope (top 60), gt⟩
abbrev g_written : GX := ⟨i_written.N, defScope (top 61), gt⟩
abbrev g_Reader_init : GX := ⟨i_Reader_init.N, defScope (inClass (top 62) 0), gt⟩
abbrev g_Reader_peek : GX := ⟨i_Reader_peek.N, defScope (inClass (top 62) 1), gt⟩
abbrev g_Reader_take : GX := ⟨i_Reader_take.N, defScope (inClass (top 62) 2), gt⟩
abbrev g_Reader_sequence : GX := ⟨i_Reader_sequence.N, defScope (inClass (top 62) 3), gt⟩
abbrev g_Reader_repeated : GX := ⟨i_Reader_repeated.N, defScope (inClass (top 62) 4), gt⟩
abbrev g_Reader_atom : GX := ⟨i_Reader_atom.N, defScope (inClass (top 62) 5), gt⟩
abbrev g_parse : GX := ⟨i_parse.N, defScope (top 63), gt⟩
abbrev g_Suite_init : GX := ⟨i_Suite_init.N, defScope (inClass (top 66) 0), gt⟩
abbrev g_Suite_undo : GX := ⟨i_Suite_undo.N, defScope (inClass (top 66) 8), gt⟩
abbrev g_l_cell : GX := ⟨i_l_cell.N, defScope (top 68), gt⟩
abbrev g_l_drawn : GX := ⟨i_l_drawn.N, defScope (top 69), gt⟩
abbrev g_l_roll : GX := ⟨i_l_roll.N, defScope (top 70), gt⟩
abbrev g_l_rounds : GX := ⟨i_l_rounds.N, defScope (top 71), gt⟩
abbrev g_l_met : GX := ⟨i_l_met.N, defScope (top 72), gt⟩
abbrev g_l_alone : GX := ⟨i_l_alone.N, defScope (top 73), gt⟩
abbrev g_law : GX := ⟨i_law.N, defScope (top 74), gt⟩
structure Wk (W : Wd) : Prop where
  c20 : ClsOk W 20
  c21 : ClsOk W 21
  c22 : ClsOk W 22
  c23 : ClsOk W 23
  c26 : ClsOk W 26
  c27 : ClsOk W 27
  mk22 : Mk W.K (W.cls 22) (W.fnA f_Attempts_init)
  mk23 : Mk W.K (W.cls 23) (W.fnA f_Graph_init)
  mk20 : Mk W.K (W.cls 20) (W.fnA f_Machine_init)
  mk27 : Mk W.K (W.cls 27) (W.fnA f_Reader_init)
  mk21 : Mk W.K (W.cls 21) (W.fnA f_Run_init)
  mk26 : Mk W.K (W.cls 26) (W.fnA f_Suite_init)
  m_Attempts_descend : MetOk W 22 f_Attempts_descend "descend"
  m_Graph_degree : MetOk W 23 f_Graph_degree "degree"
  m_Graph_double_loop : MetOk W 23 f_Graph_double_loop "double_loop"
  m_Graph_from_start : MetOk W 23 f_Graph_from_start "from_start"
  m_Graph_longest_chain : MetOk W 23 f_Graph_longest_chain "longest_chain"
  m_Graph_loop : MetOk W 23 f_Graph_loop "loop"
  m_Graph_pump : MetOk W 23 f_Graph_pump "pump"
  m_Graph_twin_moves : MetOk W 23 f_Graph_twin_moves "twin_moves"
  m_Graph_word_between : MetOk W 23 f_Graph_word_between "word_between"
  m_Machine_assign : MetOk W 20 f_Machine_assign "assign"
  m_Machine_choices : MetOk W 20 f_Machine_choices "choices"
  m_Machine_firsts : MetOk W 20 f_Machine_firsts "firsts"
  m_Machine_reached : MetOk W 20 f_Machine_reached "reached"
  m_Reader_atom : MetOk W 27 f_Reader_atom "atom"
  m_Reader_peek : MetOk W 27 f_Reader_peek "peek"
  m_Reader_repeated : MetOk W 27 f_Reader_repeated "repeated"
  m_Reader_sequence : MetOk W 27 f_Reader_sequence "sequence"
  m_Reader_take : MetOk W 27 f_Reader_take "take"
  m_Run_tried : MetOk W 21 f_Run_tried "tried"
  m_Suite_undo : MetOk W 26 f_Suite_undo "undo"
  xs : W.xs = true
  x0 : ExcOk W 0
  x1 : ExcOk W 1
  x2 : ExcOk W 2
  x3 : ExcOk W 3
  x4 : ExcOk W 4
  x5 : ExcOk W 5
  x6 : ExcOk W 6
  x7 : ExcOk W 7
  x8 : ExcOk W 8
  x9 : ExcOk W 9
  x10 : ExcOk W 10
  kp_is_integer : PySem.W.keepIn W.K (.ref (W.fnA f_is_integer)) = true
  kp_is_letters : PySem.W.keepIn W.K (.ref (W.fnA f_is_letters)) = true
  kp_has_shape : PySem.W.keepIn W.K (.ref (W.fnA f_has_shape)) = true
  kp_items_of : PySem.W.keepIn W.K (.ref (W.fnA f_items_of)) = true
  kp_nullable : PySem.W.keepIn W.K (.ref (W.fnA f_nullable)) = true
  kp_all_sets : PySem.W.keepIn W.K (.ref (W.fnA f_all_sets)) = true
  kp_node_count : PySem.W.keepIn W.K (.ref (W.fnA f_node_count)) = true
  kp_stars_are_good : PySem.W.keepIn W.K (.ref (W.fnA f_stars_are_good)) = true
  kp_is_pattern : PySem.W.keepIn W.K (.ref (W.fnA f_is_pattern)) = true
  kp_check_pattern : PySem.W.keepIn W.K (.ref (W.fnA f_check_pattern)) = true
  kp_check_position : PySem.W.keepIn W.K (.ref (W.fnA f_check_position)) = true
  kp_follow_list : PySem.W.keepIn W.K (.ref (W.fnA f_follow_list)) = true
  kp_search : PySem.W.keepIn W.K (.ref (W.fnA f_search)) = true
  kp_growth : PySem.W.keepIn W.K (.ref (W.fnA f_growth)) = true
  kp_is_text : PySem.W.keepIn W.K (.ref (W.fnA f_is_text)) = true
  kp_is_word : PySem.W.keepIn W.K (.ref (W.fnA f_is_word)) = true
  kp_check_text : PySem.W.keepIn W.K (.ref (W.fnA f_check_text)) = true
  kp_run_of : PySem.W.keepIn W.K (.ref (W.fnA f_run_of)) = true
  kp_steps : PySem.W.keepIn W.K (.ref (W.fnA f_steps)) = true
  kp_attempts : PySem.W.keepIn W.K (.ref (W.fnA f_attempts)) = true
  kp_path_counts : PySem.W.keepIn W.K (.ref (W.fnA f_path_counts)) = true
  kp_advanced : PySem.W.keepIn W.K (.ref (W.fnA f_advanced)) = true
  kp_paths_to : PySem.W.keepIn W.K (.ref (W.fnA f_paths_to)) = true
  kp_all_texts : PySem.W.keepIn W.K (.ref (W.fnA f_all_texts)) = true
  kp_worst : PySem.W.keepIn W.K (.ref (W.fnA f_worst)) = true
  kp_counts_from : PySem.W.keepIn W.K (.ref (W.fnA f_counts_from)) = true
  kp_are_words : PySem.W.keepIn W.K (.ref (W.fnA f_are_words)) = true
  kp_is_ladder : PySem.W.keepIn W.K (.ref (W.fnA f_is_ladder)) = true
  kp_grouped : PySem.W.keepIn W.K (.ref (W.fnA f_grouped)) = true
  kp_written : PySem.W.keepIn W.K (.ref (W.fnA f_written)) = true
  kp_parse : PySem.W.keepIn W.K (.ref (W.fnA f_parse)) = true
  kp_l_cell : PySem.W.keepIn W.K (.ref (W.fnA f_l_cell)) = true
  kp_l_drawn : PySem.W.keepIn W.K (.ref (W.fnA f_l_drawn)) = true
  kp_l_roll : PySem.W.keepIn W.K (.ref (W.fnA f_l_roll)) = true
  kp_l_rounds : PySem.W.keepIn W.K (.ref (W.fnA f_l_rounds)) = true
  kp_l_met : PySem.W.keepIn W.K (.ref (W.fnA f_l_met)) = true
  kp_l_alone : PySem.W.keepIn W.K (.ref (W.fnA f_l_alone)) = true
theorem d_is_integer {X : Cx} {p : Pt} {k : Nat} {cx : CX} (h : Cl tt g_is_integer X p k cx) (w : Wk p.W) : AS X p cx (defBody (top 18)) b_is_integer.body :=
  (as_cons (as1_ret (ae_and (ae_isi h.toRd.c rfl (i := 71) rfl rfl rfl rfl (ao_e (ae_var h.toRd.c rfl rfl rfl)) (pe_tyB h.toRd.c (i := 70) rfl rfl rfl rfl)) (ae_and (ae_not (ae_isi h.toRd.c rfl (i := 71) rfl rfl rfl rfl (ao_e (ae_var h.toRd.c rfl rfl rfl)) (pe_tyB h.toRd.c (i := 68) rfl rfl rfl rfl))) (ae_bool1 (ae_chain opP_le opP_le (ae_var h.toRd.c rfl rfl rfl) (ae_var h.toRd.c rfl rfl rfl) (ae_var h.toRd.c rfl rfl rfl)))))) as_nil)
theorem d_is_letters {X : Cx} {p : Pt} {k : Nat} {cx : CX} (h : Cl tt g_is_letters X p k cx) (w : Wk p.W) : AS X p cx (defBody (top 19)) b_is_letters.body :=
  (as_cons (as1_if (aw_ab (aw_or (ab_not (ab_val (ae_isi h.toRd.c rfl (i := 71) rfl rfl rfl rfl (ao_e (ae_var h.toRd.c rfl rfl rfl)) (pe_tyB h.toRd.c (i := 79) rfl rfl rfl rfl)))) (aw_or (ab_not (ab_chain opP_le opP_le ae_int (ae_bi h.toRd.c (Rd.len h.toRd) (i := 72) rfl rfl rfl rfl (ap1_cons (ao_e (ae_var h.toRd.c rfl rfl rfl)) ap1_nil)) ae_int)) (aw_or1 (ab_not (ab_val (ae_bi h.toRd.c (callP_all h.toRd.c.calm) (i := 66) rfl rfl rfl rfl (ap1_cons (ao_e (ae_lc h.toRd.c (own := [("letter", 1)]) (ai_it (ao_e (ae_var h.toRd.c rfl rfl rfl))) rfl rfl (inB h.toRd fun X' h21 => (ag_nm h21.c rfl (.inl rfl))) (inB h.toRd fun X' h' => aif_no) (inB h.toRd fun X' h22 => (ae_cmp (Rd.inn h22) (ao_e (ae_var h22.c rfl rfl rfl)) (ao_e (ae_glb h22.c (i := 11) rfl rfl rfl fun G => .str _)) rfl)))) ap1_nil)))))))) (as_cons (as1_ret ae_bl) as_nil) as_nil) (as_cons (as1_ret (ae_bi h.toRd.c (callP_all h.toRd.c.calm) (i := 66) rfl rfl rfl rfl (ap1_cons (ao_e (ae_lc h.toRd.c (own := [("one", 2), ("other", 3)]) (ai_zip h.toRd.c (i := 82) rfl rfl (ao_e (ae_var h.toRd.c rfl rfl rfl)) (ao_e (ae_sl10 (ao_e (ae_var h.toRd.c rfl rfl rfl)) (ao_e ae_int)))) rfl rfl (inB h.toRd fun X' h23 => (ag_tup h23.c (ags_cons (ag_nm h23.c rfl (.inl rfl)) (ags_cons (ag_nm h23.c rfl (.inl rfl)) ags_nil)))) (inB h.toRd fun X' h' => aif_no) (inB h.toRd fun X' h24 => (ae_cmp opP_lt (ao_e (ae_var h24.c rfl rfl rfl)) (ao_e (ae_var h24.c rfl rfl rfl)) rfl)))) ap1_nil))) as_nil))
theorem d_has_shape {X : Cx} {p : Pt} {k : Nat} {cx : CX} (h : Cl tt g_has_shape X p k cx) (w : Wk p.W) : AS X p cx (defBody (top 20)) b_has_shape.body :=
  (as_cons (as1_if (aw_ab (aw_or (ab_two (Rd.eq h.toRd) (ao_e (ae_var h.toRd.c rfl rfl rfl)) (ao_e ae_int) rfl) (aw_or (ab_not (ab_val (ae_isi h.toRd.c rfl (i := 71) rfl rfl rfl rfl (ao_e (ae_var h.toRd.c rfl rfl rfl)) (pe_tyB h.toRd.c (i := 81) rfl rfl rfl rfl)))) (aw_or (ab_two (Rd.ne h.toRd) (ao_e (ae_bi h.toRd.c (Rd.len h.toRd) (i := 72) rfl rfl rfl rfl (ap1_cons (ao_e (ae_var h.toRd.c rfl rfl rfl)) ap1_nil))) (ao_e ae_int) rfl) (aw_or1 (ab_not (ab_val (ae_isi h.toRd.c rfl (i := 71) rfl rfl rfl rfl (ao_e (ae_idx (Rd.idx h.toRd) (ao_e (ae_var h.toRd.c rfl rfl rfl)) (ao_e ae_int) (fun _ _ => rfl))) (pe_tyB h.toRd.c (i := 79) rfl rfl rfl rfl))))))))) (as_cons (as1_ret ae_bl) as_nil) as_nil) (as_cons (as1_if (ab_two (Rd.eq h.toRd) (ao_e (ae_idx (Rd.idx h.toRd) (ao_e (ae_var h.toRd.c rfl rfl rfl)) (ao_e ae_int) (fun _ _ => rfl))) (ao_e (ae_str rfl)) rfl) (as_cons (as1_ret (ae_call h.toRd fi_is_letters (j := 16) rfl rfl rfl (aas_e (ae_idx (Rd.idx h.toRd) (ao_e (ae_var h.toRd.c rfl rfl rfl)) (ao_e ae_int) (fun _ _ => rfl)) aas_nil))) as_nil) as_nil) (as_cons (as1_if (ab_two (Rd.inn h.toRd) (ao_e (ae_idx (Rd.idx h.toRd) (ao_e (ae_var h.toRd.c rfl rfl rfl)) (ao_e ae_int) (fun _ _ => rfl))) (ao_e (ae_tup (ads_cons (ae_str rfl) (ads_cons (ae_str rfl) ads_nil)))) rfl) (as_cons (as1_if (aw_ab (aw_or (ab_not (ab_val (ae_isi h.toRd.c rfl (i := 71) rfl rfl rfl rfl (ao_e (ae_idx (Rd.idx h.toRd) (ao_e (ae_var h.toRd.c rfl rfl rfl)) (ao_e ae_int) (fun _ _ => rfl))) (pe_tyB h.toRd.c (i := 81) rfl rfl rfl rfl)))) (aw_or1 (ab_not (ab_chain opP_le opP_le ae_int (ae_bi h.toRd.c (Rd.len h.toRd) (i := 72) rfl rfl rfl rfl (ap1_cons (ao_e (ae_idx (Rd.idx h.toRd) (ao_e (ae_var h.toRd.c rfl rfl rfl)) (ao_e ae_int) (fun _ _ => rfl))) ap1_nil)) ae_int))))) (as_cons (as1_ret ae_bl) as_nil) as_nil) (as_cons (as1_ret (ae_bi h.toRd.c (callP_all h.toRd.c.calm) (i := 66) rfl rfl rfl rfl (ap1_cons (ao_e (ae_lc h.toRd.c (own := [("item", 2)]) (ai_it (ao_e (ae_idx (Rd.idx h.toRd) (ao_e (ae_var h.toRd.c rfl rfl rfl)) (ao_e ae_int) (fun _ _ => rfl)))) rfl rfl (inB h.toRd fun X' h19 => (ag_nm h19.c rfl (.inl rfl))) (inB h.toRd fun X' h' => aif_no) (inB h.toRd fun X' h20 => (ae_call h20 fi_has_shape (j := 17) rfl rfl rfl (aas_e (ae_var h20.c rfl rfl rfl) (aas_e (ae_bin opP_sub (ao_e (ae_var h20.c rfl rfl rfl)) (ao_e ae_int)) aas_nil)))))) ap1_nil))) as_nil)) as_nil) (as_cons (as1_ret (ae_and (ae_cmp (Rd.inn h.toRd) (ao_e (ae_idx (Rd.idx h.toRd) (ao_e (ae_var h.toRd.c rfl rfl rfl)) (ao_e ae_int) (fun _ _ => rfl))) (ao_e (ae_tup (ads_cons (ae_str rfl) (ads_cons (ae_str rfl) ads_nil)))) rfl) (ae_bool1 (ae_call h.toRd fi_has_shape (j := 17) rfl rfl rfl (aas_e (ae_idx (Rd.idx h.toRd) (ao_e (ae_var h.toRd.c rfl rfl rfl)) (ao_e ae_int) (fun _ _ => rfl)) (aas_e (ae_bin opP_sub (ao_e (ae_var h.toRd.c rfl rfl rfl)) (ao_e ae_int)) aas_nil)))))) as_nil))))
theorem d_items_of {X : Cx} {p : Pt} {k : Nat} {cx : CX} (h : Cl tt g_items_of X p k cx) (w : Wk p.W) : AS X p cx (defBody (top 21)) b_items_of.body :=
  (as_cons (as1_if (ab_two (Rd.eq h.toRd) (ao_e (ae_idx (Rd.idx h.toRd) (ao_e (ae_var h.toRd.c rfl rfl rfl)) (ao_e ae_int) (fun _ _ => rfl))) (ao_e (ae_str rfl)) rfl) (as_cons (as1_ret (ae_tup ads_nil)) as_nil) as_nil) (as_cons (as1_ret (ae_ite (ab_two (Rd.inn h.toRd) (ao_e (ae_idx (Rd.idx h.toRd) (ao_e (ae_var h.toRd.c rfl rfl rfl)) (ao_e ae_int) (fun _ _ => rfl))) (ao_e (ae_tup (ads_cons (ae_str rfl) (ads_cons (ae_str rfl) ads_nil)))) rfl) (ae_idx (Rd.idx h.toRd) (ao_e (ae_var h.toRd.c rfl rfl rfl)) (ao_e ae_int) (fun _ _ => rfl)) (ae_tup (ads_cons (ae_idx (Rd.idx h.toRd) (ao_e (ae_var h.toRd.c rfl rfl rfl)) (ao_e ae_int) (fun _ _ => rfl)) ads_nil)))) as_nil))
theorem d_nullable {X : Cx} {p : Pt} {k : Nat} {cx : CX} (h : Cl tt g_nullable X p k cx) (w : Wk p.W) : AS X p cx (defBody (top 22)) b_nullable.body :=
  (as_cons (as1_setLcD h.toRd.c (own := [("item", 2)]) rfl rfl (ai_it (ao_e (ae_call h.toRd fi_items_of (j := 18) rfl rfl rfl (aas_e (ae_var h.toRd.c rfl rfl rfl) aas_nil)))) rfl rfl (inB h.toRd fun X' h15 => (ag_nm h15.c rfl (.inl rfl))) (inB h.toRd fun X' h' => aif_no) (inB h.toRd fun X' h16 => (ae_call h16 fi_nullable (j := 19) rfl rfl rfl (aas_e (ae_var h16.c rfl rfl rfl) aas_nil))) rfl) (as_cons (as1_if (ab_two (Rd.eq h.toRd) (ao_e (ae_idx (Rd.idx h.toRd) (ao_e (ae_var h.toRd.c rfl rfl rfl)) (ao_e ae_int) (fun _ _ => rfl))) (ao_e (ae_str rfl)) rfl) (as_cons (as1_ret (ae_bi h.toRd.c (callP_all h.toRd.c.calm) (i := 66) rfl rfl rfl rfl (ap1_cons (ao_e (ae_var h.toRd.c rfl rfl rfl)) ap1_nil))) as_nil) as_nil) (as_cons (as1_ret (ae_ite (ab_two (Rd.eq h.toRd) (ao_e (ae_idx (Rd.idx h.toRd) (ao_e (ae_var h.toRd.c rfl rfl rfl)) (ao_e ae_int) (fun _ _ => rfl))) (ao_e (ae_str rfl)) rfl) (ae_bi h.toRd.c (callP_any h.toRd.c.calm) (i := 67) rfl rfl rfl rfl (ap1_cons (ao_e (ae_var h.toRd.c rfl rfl rfl)) ap1_nil)) (ae_cmp (Rd.inn h.toRd) (ao_e (ae_idx (Rd.idx h.toRd) (ao_e (ae_var h.toRd.c rfl rfl rfl)) (ao_e ae_int) (fun _ _ => rfl))) (ao_e (ae_tup (ads_cons (ae_str rfl) (ads_cons (ae_str rfl) ads_nil)))) rfl))) as_nil)))
theorem d_all_sets {X : Cx} {p : Pt} {k : Nat} {cx : CX} (h : Cl tt g_all_sets X p k cx) (w : Wk p.W) : AS X p cx (defBody (top 23)) b_all_sets.body :=
  (as_cons (as1_if (ab_two (Rd.eq h.toRd) (ao_e (ae_idx (Rd.idx h.toRd) (ao_e (ae_var h.toRd.c rfl rfl rfl)) (ao_e ae_int) (fun _ _ => rfl))) (ao_e (ae_str rfl)) rfl) (as_cons (as1_ret (ae_tup (ads_cons (ae_idx (Rd.idx h.toRd) (ao_e (ae_var h.toRd.c rfl rfl rfl)) (ao_e ae_int) (fun _ _ => rfl)) ads_nil))) as_nil) as_nil) (as_cons (as1_set h.toRd.c (ae_tup ads_nil) rfl (.inl rfl)) (as_cons (as1_for h.po h.toRd.c (ai_it (ao_e (ae_call h.toRd fi_items_of (j := 18) rfl rfl rfl (aas_e (ae_var h.toRd.c rfl rfl rfl) aas_nil)))) (ag_nm h.toRd.c rfl (.inl rfl)) (as_cons (as1_set h.toRd.c (ae_bin opP_add (ao_e (ae_var h.toRd.c rfl rfl rfl)) (ao_e (ae_call h.toRd fi_all_sets (j := 20) rfl rfl rfl (aas_e (ae_var h.toRd.c rfl rfl rfl) aas_nil)))) rfl (.inl rfl)) as_nil)) (as_cons (as1_ret (ae_var h.toRd.c rfl rfl rfl)) as_nil))))
theorem d_node_count {X : Cx} {p : Pt} {k : Nat} {cx : CX} (h : Cl tt g_node_count X p k cx) (w : Wk p.W) : AS X p cx (defBody (top 24)) b_node_count.body :=
  (as_cons (as1_ret (ae_bin opP_add (ao_e ae_int) (ao_e (ae_bi h.toRd.c (callP_sum h.toRd.c.calm) (i := 80) rfl rfl rfl rfl (ap1_cons (ao_e (ae_lc h.toRd.c (own := [("item", 1)]) (ai_it (ao_e (ae_call h.toRd fi_items_of (j := 18) rfl rfl rfl (aas_e (ae_var h.toRd.c rfl rfl rfl) aas_nil)))) rfl rfl (inB h.toRd fun X' h17 => (ag_nm h17.c rfl (.inl rfl))) (inB h.toRd fun X' h' => aif_no) (inB h.toRd fun X' h18 => (ae_call h18 fi_node_count (j := 21) rfl rfl rfl (aas_e (ae_var h18.c rfl rfl rfl) aas_nil))))) ap1_nil))))) as_nil)
theorem d_stars_are_good {X : Cx} {p : Pt} {k : Nat} {cx : CX} (h : Cl tt g_stars_are_good X p k cx) (w : Wk p.W) : AS X p cx (defBody (top 25)) b_stars_are_good.body :=
  (as_cons (as1_if (aw_ab (aw_and (ab_two (Rd.eq h.toRd) (ao_e (ae_idx (Rd.idx h.toRd) (ao_e (ae_var h.toRd.c rfl rfl rfl)) (ao_e ae_int) (fun _ _ => rfl))) (ao_e (ae_str rfl)) rfl) (aw_and1 (ab_val (ae_call h.toRd fi_nullable (j := 19) rfl rfl rfl (aas_e (ae_idx (Rd.idx h.toRd) (ao_e (ae_var h.toRd.c rfl rfl rfl)) (ao_e ae_int) (fun _ _ => rfl)) aas_nil)))))) (as_cons (as1_ret ae_bl) as_nil) as_nil) (as_cons (as1_ret (ae_bi h.toRd.c (callP_all h.toRd.c.calm) (i := 66) rfl rfl rfl rfl (ap1_cons (ao_e (ae_lc h.toRd.c (own := [("item", 1)]) (ai_it (ao_e (ae_call h.toRd fi_items_of (j := 18) rfl rfl rfl (aas_e (ae_var h.toRd.c rfl rfl rfl) aas_nil)))) rfl rfl (inB h.toRd fun X' h13 => (ag_nm h13.c rfl (.inl rfl))) (inB h.toRd fun X' h' => aif_no) (inB h.toRd fun X' h14 => (ae_call h14 fi_stars_are_good (j := 22) rfl rfl rfl (aas_e (ae_var h14.c rfl rfl rfl) aas_nil))))) ap1_nil))) as_nil))
theorem d_is_pattern {X : Cx} {p : Pt} {k : Nat} {cx : CX} (h : Cl tt g_is_pattern X p k cx) (w : Wk p.W) : AS X p cx (defBody (top 26)) b_is_pattern.body :=
  (as_cons (as1_if (ab_not (ab_val (ae_call h.toRd fi_has_shape (j := 17) rfl rfl rfl (aas_e (ae_var h.toRd.c rfl rfl rfl) (aas_e (ae_bin opP_add (ao_e (ae_glb h.toRd.c (i := 13) rfl rfl rfl fun G => .int _)) (ao_e ae_int)) aas_nil))))) (as_cons (as1_ret ae_bl) as_nil) as_nil) (as_cons (as1_ret (ae_and (ae_cmp opP_le (ao_e (ae_call h.toRd fi_node_count (j := 21) rfl rfl rfl (aas_e (ae_var h.toRd.c rfl rfl rfl) aas_nil))) (ao_e (ae_glb h.toRd.c (i := 13) rfl rfl rfl fun G => .int _)) rfl) (ae_and (ae_cmp opP_le (ao_e (ae_bi h.toRd.c (Rd.len h.toRd) (i := 72) rfl rfl rfl rfl (ap1_cons (ao_e (ae_call h.toRd fi_all_sets (j := 20) rfl rfl rfl (aas_e (ae_var h.toRd.c rfl rfl rfl) aas_nil))) ap1_nil))) (ao_e (ae_glb h.toRd.c (i := 12) rfl rfl rfl fun G => .int _)) rfl) (ae_bool1 (ae_call h.toRd fi_stars_are_good (j := 22) rfl rfl rfl (aas_e (ae_var h.toRd.c rfl rfl rfl) aas_nil)))))) as_nil))
theorem d_check_pattern {X : Cx} {p : Pt} {k : Nat} {cx : CX} (h : Cl tt g_check_pattern X p k cx) (w : Wk p.W) : AS X p cx (defBody (top 27)) b_check_pattern.body :=
  (as_cons (as1_if (ab_not (ab_val (ae_call h.toRd fi_is_pattern (j := 23) rfl rfl rfl (aas_e (ae_var h.toRd.c rfl rfl rfl) aas_nil)))) (as_cons (as1_rais h.toRd.c w.x1 (i := 1) rfl rfl rfl) as_nil) as_nil) as_nil)
theorem d_Machine_init {X : Cx} {p : Pt} {k : Nat} {cx : CX} (h : Cl tt g_Machine_init X p k cx) (w : Wk p.W) : AS X p cx (defBody (inClass (top 28) 0)) b_Machine_init.body :=
  (as_cons (as1_fld h.toRd.c w.c20 (j := 0) rfl (ae_call h.toRd fi_all_sets (j := 20) rfl rfl rfl (aas_e (ae_var h.toRd.c rfl rfl rfl) aas_nil)) rfl rfl rfl) (as_cons (as1_fld h.toRd.c w.c20 (j := 1) rfl (ae_lc h.toRd.c (own := [("letters", 2)]) (ai_it (ao_e (ae_attrV h.toRd.c w.c20 (j := 0) rfl rfl rfl rfl))) rfl rfl (inB h.toRd fun X' h27 => (ag_nm h27.c rfl (.inl rfl))) (inB h.toRd fun X' h' => aif_no) (inB h.toRd fun X' h28 => (ae_lst ads_nil))) rfl rfl rfl) (as_cons (as1_fld h.toRd.c w.c20 (j := 2) rfl (ae_methV h.toRd fi_Machine_choices w.m_Machine_choices rfl rfl rfl (aas_e (ae_var h.toRd.c rfl rfl rfl) (aas_e ae_int (aas_e (ae_lst (ads_cons (ae_glb h.toRd.c (i := 14) rfl rfl rfl fun G => .int _) ads_nil)) aas_nil)))) rfl rfl rfl) (as_cons (as1_exp (ae_methV h.toRd fi_Machine_assign w.m_Machine_assign rfl rfl rfl (aas_e (ae_var h.toRd.c rfl rfl rfl) (aas_e ae_int (aas_e (ae_lst (ads_cons (ae_glb h.toRd.c (i := 14) rfl rfl rfl fun G => .int _) ads_nil)) aas_nil))))) as_nil))))
theorem d_Machine_choices {X : Cx} {p : Pt} {k : Nat} {cx : CX} (h : Cl tt g_Machine_choices X p k cx) (w : Wk p.W) : AS X p cx (defBody (inClass (top 28) 1)) b_Machine_choices.body :=
  (as_cons (as1_if (ab_two (Rd.eq h.toRd) (ao_e (ae_idx (Rd.idx h.toRd) (ao_e (ae_var h.toRd.c rfl rfl rfl)) (ao_e ae_int) (fun _ _ => rfl))) (ao_e (ae_str rfl)) rfl) (as_cons (as1_ret (ae_lst (ads_cons (ae_var h.toRd.c rfl rfl rfl) ads_nil))) as_nil) as_nil) (as_cons (as1_if (ab_two (Rd.eq h.toRd) (ao_e (ae_idx (Rd.idx h.toRd) (ao_e (ae_var h.toRd.c rfl rfl rfl)) (ao_e ae_int) (fun _ _ => rfl))) (ao_e (ae_str rfl)) rfl) (as_cons (as1_ret (ae_bin opP_add (ao_e (ae_methV h.toRd fi_Machine_choices w.m_Machine_choices rfl rfl rfl (aas_e (ae_idx (Rd.idx h.toRd) (ao_e (ae_var h.toRd.c rfl rfl rfl)) (ao_e ae_int) (fun _ _ => rfl)) (aas_e (ae_var h.toRd.c rfl rfl rfl) (aas_e (ae_lst ads_nil) aas_nil))))) (ao_e (ae_var h.toRd.c rfl rfl rfl)))) as_nil) as_nil) (as_cons (as1_if (ab_two (Rd.eq h.toRd) (ao_e (ae_idx (Rd.idx h.toRd) (ao_e (ae_var h.toRd.c rfl rfl rfl)) (ao_e ae_int) (fun _ _ => rfl))) (ao_e (ae_str rfl)) rfl) (as_cons (as1_ret (ae_bin opP_add (ao_e (ae_methV h.toRd fi_Machine_choices w.m_Machine_choices rfl rfl rfl (aas_e (ae_idx (Rd.idx h.toRd) (ao_e (ae_var h.toRd.c rfl rfl rfl)) (ao_e ae_int) (fun _ _ => rfl)) (aas_e (ae_var h.toRd.c rfl rfl rfl) (aas_e (ae_var h.toRd.c rfl rfl rfl) aas_nil))))) (ao_e (ae_var h.toRd.c rfl rfl rfl)))) as_nil) as_nil) (as_cons (as1_par2D h.toRd.c rfl rfl  rfl  rfl rfl  (ass_cons (ae_methV h.toRd fi_Machine_firsts w.m_Machine_firsts rfl rfl rfl (aas_e (ae_var h.toRd.c rfl rfl rfl) (aas_e (ae_var h.toRd.c rfl rfl rfl) aas_nil))) (ass_cons (ae_lst ads_nil) ass_nil)) rfl) (as_cons (as1_if (ab_two (Rd.eq h.toRd) (ao_e (ae_idx (Rd.idx h.toRd) (ao_e (ae_var h.toRd.c rfl rfl rfl)) (ao_e ae_int) (fun _ _ => rfl))) (ao_e (ae_str rfl)) rfl) (as_cons (as1_for h.po h.toRd.c (ai_zip h.toRd.c (i := 82) rfl rfl (ao_e (ae_idx (Rd.idx h.toRd) (ao_e (ae_var h.toRd.c rfl rfl rfl)) (ao_e ae_int) (fun _ _ => rfl))) (ao_e (ae_var h.toRd.c rfl rfl rfl))) (ag_tup h.toRd.c (ags_cons (ag_nm h.toRd.c rfl (.inl rfl)) (ags_cons (ag_nm h.toRd.c rfl (.inl rfl)) ags_nil))) (as_cons (as1_set h.toRd.c (ae_bin opP_add (ao_e (ae_var h.toRd.c rfl rfl rfl)) (ao_e (ae_methV h.toRd fi_Machine_choices w.m_Machine_choices rfl rfl rfl (aas_e (ae_var h.toRd.c rfl rfl rfl) (aas_e (ae_var h.toRd.c rfl rfl rfl) (aas_e (ae_var h.toRd.c rfl rfl rfl) aas_nil)))))) rfl (.inl rfl)) as_nil)) (as_cons (as1_ret (ae_var h.toRd.c rfl rfl rfl)) as_nil)) as_nil) as_stk)))))
theorem d_Machine_firsts {X : Cx} {p : Pt} {k : Nat} {cx : CX} (h : Cl tt g_Machine_firsts X p k cx) (w : Wk p.W) : AS X p cx (defBody (inClass (top 28) 2)) b_Machine_firsts.body :=
  (as_cons (as1_set h.toRd.c (ae_lst ads_nil) rfl (.inl rfl)) (as_cons (as1_for h.po h.toRd.c (ai_it (ao_e (ae_call h.toRd fi_items_of (j := 18) rfl rfl rfl (aas_e (ae_var h.toRd.c rfl rfl rfl) aas_nil)))) (ag_nm h.toRd.c rfl (.inl rfl)) (as_cons (as1_appV h.toRd.c (ae_var h.toRd.c rfl rfl rfl) rfl rfl rfl) (as_cons (as1_set h.toRd.c (ae_bin opP_add (ao_e (ae_var h.toRd.c rfl rfl rfl)) (ao_e (ae_bi h.toRd.c (Rd.len h.toRd) (i := 72) rfl rfl rfl rfl (ap1_cons (ao_e (ae_call h.toRd fi_all_sets (j := 20) rfl rfl rfl (aas_e (ae_var h.toRd.c rfl rfl rfl) aas_nil))) ap1_nil)))) rfl (.inl rfl)) as_nil))) (as_cons (as1_ret (ae_mv h.toRd.c rfl rfl rfl)) as_nil)))
theorem d_Machine_assign {X : Cx} {p : Pt} {k : Nat} {cx : CX} (h : Cl tt g_Machine_assign X p k cx) (w : Wk p.W) : AS X p cx (defBody (inClass (top 28) 3)) b_Machine_assign.body :=
  (as_cons (as1_if (ab_two (Rd.eq h.toRd) (ao_e (ae_idx (Rd.idx h.toRd) (ao_e (ae_var h.toRd.c rfl rfl rfl)) (ao_e ae_int) (fun _ _ => rfl))) (ao_e (ae_str rfl)) rfl) (as_cons (as1_subF h.toRd.c w.c20 (j := 1) rfl (ae_ty h.toRd.c callP_list (i := 73) rfl rfl rfl rfl (ap1_cons (ao_e (ae_var h.toRd.c rfl rfl rfl)) ap1_nil)) (ae_var h.toRd.c rfl rfl rfl) rfl rfl rfl) as_nil) (as_cons (as1_if (ab_two (Rd.eq h.toRd) (ao_e (ae_idx (Rd.idx h.toRd) (ao_e (ae_var h.toRd.c rfl rfl rfl)) (ao_e ae_int) (fun _ _ => rfl))) (ao_e (ae_str rfl)) rfl) (as_cons (as1_exp (ae_methV h.toRd fi_Machine_assign w.m_Machine_assign rfl rfl rfl (aas_e (ae_idx (Rd.idx h.toRd) (ao_e (ae_var h.toRd.c rfl rfl rfl)) (ao_e ae_int) (fun _ _ => rfl)) (aas_e (ae_var h.toRd.c rfl rfl rfl) (aas_e (ae_methV h.toRd fi_Machine_choices w.m_Machine_choices rfl rfl rfl (aas_e (ae_var h.toRd.c rfl rfl rfl) (aas_e (ae_var h.toRd.c rfl rfl rfl) (aas_e (ae_var h.toRd.c rfl rfl rfl) aas_nil)))) aas_nil))))) as_nil) (as_cons (as1_if (ab_two (Rd.eq h.toRd) (ao_e (ae_idx (Rd.idx h.toRd) (ao_e (ae_var h.toRd.c rfl rfl rfl)) (ao_e ae_int) (fun _ _ => rfl))) (ao_e (ae_str rfl)) rfl) as_stk (as_cons (as1_for h.po h.toRd.c (ai_zip h.toRd.c (i := 82) rfl rfl (ao_e (ae_call h.toRd fi_items_of (j := 18) rfl rfl rfl (aas_e (ae_var h.toRd.c rfl rfl rfl) aas_nil))) (ao_e (ae_methV h.toRd fi_Machine_firsts w.m_Machine_firsts rfl rfl rfl (aas_e (ae_var h.toRd.c rfl rfl rfl) (aas_e (ae_var h.toRd.c rfl rfl rfl) aas_nil))))) (ag_tup h.toRd.c (ags_cons (ag_nm h.toRd.c rfl (.inl rfl)) (ags_cons (ag_nm h.toRd.c rfl (.inl rfl)) ags_nil))) (as_cons (as1_exp (ae_methV h.toRd fi_Machine_assign w.m_Machine_assign rfl rfl rfl (aas_e (ae_var h.toRd.c rfl rfl rfl) (aas_e (ae_var h.toRd.c rfl rfl rfl) (aas_e (ae_var h.toRd.c rfl rfl rfl) aas_nil))))) as_nil)) as_nil)) as_nil)) as_nil)) as_nil)
theorem d_Machine_reached {X : Cx} {p : Pt} {k : Nat} {cx : CX} (h : Cl tt g_Machine_reached X p k cx) (w : Wk p.W) : AS X p cx (defBody (inClass (top 28) 4)) b_Machine_reached.body :=
  (as_cons (as1_if (ab_two (Rd.nin h.toRd) (ao_e (ae_var h.toRd.c rfl rfl rfl)) (ao_e (ae_idx (Rd.idx h.toRd) (ao_e (ae_attrV h.toRd.c w.c20 (j := 0) rfl rfl rfl rfl)) (ao_e (ae_var h.toRd.c rfl rfl rfl)) (fun _ _ => rfl))) rfl) (as_cons (as1_ret (ae_lst ads_nil)) as_nil) as_nil) (as_cons (as1_ret (ae_lc h.toRd.c (own := [("other", 3)]) (ai_it (ao_e (ae_idx (Rd.idx h.toRd) (ao_e (ae_attrV h.toRd.c w.c20 (j := 1) rfl rfl rfl rfl)) (ao_e (ae_var h.toRd.c rfl rfl rfl)) (fun _ _ => rfl)))) rfl rfl (inB h.toRd fun X' h51 => (ag_nm h51.c rfl (.inl rfl))) (inB h.toRd fun X' h52 => aif_one (ab_two (Rd.ne h52) (ao_e (ae_var h52.c rfl rfl rfl)) (ao_e (ae_glb h52.c (i := 14) rfl rfl rfl fun G => .int _)) rfl)) (inB h.toRd fun X' h53 => (ae_var h53.c rfl rfl rfl)))) as_nil))
theorem d_check_position {X : Cx} {p : Pt} {k : Nat} {cx : CX} (h : Cl tt g_check_position X p k cx) (w : Wk p.W) : AS X p cx (defBody (top 29)) b_check_position.body :=
  (as_cons (as1_if (ab_not (ab_val (ae_call h.toRd fi_is_integer (j := 15) rfl rfl rfl (aas_e (ae_var h.toRd.c rfl rfl rfl) (aas_e ae_int (aas_e (ae_bin opP_sub (ao_e (ae_bi h.toRd.c (Rd.len h.toRd) (i := 72) rfl rfl rfl rfl (ap1_cons (ao_e (ae_call h.toRd fi_all_sets (j := 20) rfl rfl rfl (aas_e (ae_var h.toRd.c rfl rfl rfl) aas_nil))) ap1_nil))) (ao_e ae_int)) aas_nil)))))) (as_cons (as1_rais h.toRd.c w.x4 (i := 4) rfl rfl rfl) as_nil) as_nil) as_nil)
theorem d_follow_list {X : Cx} {p : Pt} {k : Nat} {cx : CX} (h : Cl tt g_follow_list X p k cx) (w : Wk p.W) : AS X p cx (defBody (top 30)) b_follow_list.body :=
  (as_cons (as1_exp (ae_call h.toRd fi_check_pattern (j := 24) rfl rfl rfl (aas_e (ae_var h.toRd.c rfl rfl rfl) aas_nil))) (as_cons (as1_exp (ae_call h.toRd fi_check_position (j := 26) rfl rfl rfl (aas_e (ae_var h.toRd.c rfl rfl rfl) (aas_e (ae_var h.toRd.c rfl rfl rfl) aas_nil)))) (as_cons (as1_ret (ae_idx (Rd.idx h.toRd) (ao_e (ae_attrE h.toRd.c w.c20 (j := 1) rfl (ae_make h.toRd fi_Machine_init w.mk20 (j := 25) rfl rfl rfl (aas_e (ae_var h.toRd.c rfl rfl rfl) aas_nil)))) (ao_e (ae_var h.toRd.c rfl rfl rfl)) (fun _ _ => rfl))) as_nil)))
theorem d_search {X : Cx} {p : Pt} {k : Nat} {cx : CX} (h : Cl tt g_search X p k cx) (w : Wk p.W) : AS X p cx (defBody (top 32)) b_search.body :=
  as_stk
theorem d_Graph_init {X : Cx} {p : Pt} {k : Nat} {cx : CX} (h : Cl tt g_Graph_init X p k cx) (w : Wk p.W) : AS X p cx (defBody (inClass (top 33) 0)) b_Graph_init.body :=
  (as_cons (as1_fld h.toRd.c w.c23 (j := 0) rfl (ae_make h.toRd fi_Machine_init w.mk20 (j := 25) rfl rfl rfl (aas_e (ae_var h.toRd.c rfl rfl rfl) aas_nil)) rfl rfl rfl) (as_cons (as1_fld h.toRd.c w.c23 (j := 1) rfl (ae_bi h.toRd.c (Rd.len h.toRd) (i := 72) rfl rfl rfl rfl (ap1_cons (ao_e (ae_attrE h.toRd.c w.c20 (j := 0) rfl (ae_attrV h.toRd.c w.c23 (j := 0) rfl rfl rfl rfl))) ap1_nil)) rfl rfl rfl) as_stk))
theorem d_Graph_word_between {X : Cx} {p : Pt} {k : Nat} {cx : CX} (h : Cl tt g_Graph_word_between X p k cx) (w : Wk p.W) (mk : Mkr X p) : AS X p cx (defBody (inClass (top 33) 1)) b_Graph_word_between.body :=
  (as_cons (as1_set h.toRd.c (ae_callL h fi_search (j := 28) rfl rfl rfl (aal_e (ae_var h.toRd.c rfl rfl rfl) (aal_tail (pat_lam mk (lamD2 h.toRd.c rfl rfl  rfl (fun _ _ _ _ _ _ _ => rfl) rfl (fun X' p' k' cx' h59 e' => have w : Wk p'.W := e' ▸ w; (ae_methE h59 fi_Machine_reached w.m_Machine_reached (ae_attrV h59.c w.c23 (j := 0) rfl rfl rfl rfl) (aas_e (ae_var h59.c rfl rfl rfl) (aas_e (ae_var h59.c rfl rfl rfl) aas_nil))))) (pat_lam mk (lamD1 h.toRd.c rfl  rfl (fun _ _ _ _ _ _ => rfl) rfl (fun X' p' k' cx' h60 e' => have w : Wk p'.W := e' ▸ w; (ae_cmp (Rd.eq h60) (ao_e (ae_var h60.c rfl rfl rfl)) (ao_e (ae_var h60.c rfl rfl rfl)) rfl))) pat_nil)))) rfl) rfl (.inl rfl)) (as_cons (as1_ret (ae_ite (ab_two opP_isNC (ao_e (ae_var h.toRd.c rfl rfl rfl)) (ao_e ae_non) rfl) (ae_idx (Rd.idx h.toRd) (ao_e (ae_var h.toRd.c rfl rfl rfl)) (ao_e ae_int) (fun _ _ => rfl)) ae_non)) as_nil))
theorem d_Graph_from_start {X : Cx} {p : Pt} {k : Nat} {cx : CX} (h : Cl tt g_Graph_from_start X p k cx) (w : Wk p.W) : AS X p cx (defBody (inClass (top 33) 2)) b_Graph_from_start.body :=
  (as_cons (as1_ret (ae_methV h.toRd fi_Graph_word_between w.m_Graph_word_between rfl rfl rfl (aas_e (ae_lc h.toRd.c (own := [("q", 2)]) (ai_range1 h.toRd.c (i := 76) rfl rfl (ads_cons (ae_attrV h.toRd.c w.c23 (j := 1) rfl rfl rfl rfl) ads_nil)) rfl rfl (inB h.toRd fun X' h56 => (ag_nm h56.c rfl (.inl rfl))) (inB h.toRd fun X' h57 => aif_one (ab_two (Rd.inn h57) (ao_e (ae_var h57.c rfl rfl rfl)) (ao_e (ae_attrE h57.c w.c20 (j := 2) rfl (ae_attrV h57.c w.c23 (j := 0) rfl rfl rfl rfl))) rfl)) (inB h.toRd fun X' h58 => (ae_var h58.c rfl rfl rfl))) (aas_e (ae_var h.toRd.c rfl rfl rfl) aas_nil)))) as_nil)
theorem d_Graph_twin_moves {X : Cx} {p : Pt} {k : Nat} {cx : CX} (h : Cl tt g_Graph_twin_moves X p k cx) (w : Wk p.W) : AS X p cx (defBody (inClass (top 33) 3)) b_Graph_twin_moves.body :=
  (as_cons (as1_unp (ae_var h.toRd.c rfl rfl rfl) (ag_tup h.toRd.c (ags_cons (ag_nm h.toRd.c rfl (.inl rfl)) (ags_cons (ag_nm h.toRd.c rfl (.inl rfl)) (ags_cons (ag_nm h.toRd.c rfl (.inl rfl)) ags_nil))))) (as_cons (as1_set h.toRd.c (ae_lst ads_nil) rfl (.inl rfl)) (as_cons (as1_par2D h.toRd.c rfl rfl  rfl  rfl rfl  (ass_cons (ae_methE h.toRd fi_Machine_reached w.m_Machine_reached (ae_attrV h.toRd.c w.c23 (j := 0) rfl rfl rfl rfl) (aas_e (ae_var h.toRd.c rfl rfl rfl) (aas_e (ae_var h.toRd.c rfl rfl rfl) aas_nil))) (ass_cons (ae_methE h.toRd fi_Machine_reached w.m_Machine_reached (ae_attrV h.toRd.c w.c23 (j := 0) rfl rfl rfl rfl) (aas_e (ae_var h.toRd.c rfl rfl rfl) (aas_e (ae_var h.toRd.c rfl rfl rfl) aas_nil))) ass_nil)) rfl) (as_cons (as1_for h.po h.toRd.c (ai_enum h.toRd.c (i := 69) rfl rfl (ao_e (ae_var h.toRd.c rfl rfl rfl))) (ag_tup h.toRd.c (ags_cons (ag_nm h.toRd.c rfl (.inl rfl)) (ags_cons (ag_nm h.toRd.c rfl (.inl rfl)) ags_nil))) (as_cons (as1_for h.po h.toRd.c (ai_enum h.toRd.c (i := 69) rfl rfl (ao_e (ae_var h.toRd.c rfl rfl rfl))) (ag_tup h.toRd.c (ags_cons (ag_nm h.toRd.c rfl (.inl rfl)) (ags_cons (ag_nm h.toRd.c rfl (.inl rfl)) ags_nil))) (as_cons (as1_appV h.toRd.c (ae_tup (ads_cons (ae_var h.toRd.c rfl rfl rfl) (ads_cons (ae_var h.toRd.c rfl rfl rfl) (ads_cons (ae_or (ae_var h.toRd.c rfl rfl rfl) (ae_or (ae_cmp (Rd.ne h.toRd) (ao_e (ae_var h.toRd.c rfl rfl rfl)) (ao_e (ae_var h.toRd.c rfl rfl rfl)) rfl) (ae_bool1 (ae_cmp (Rd.ne h.toRd) (ao_e (ae_var h.toRd.c rfl rfl rfl)) (ao_e (ae_var h.toRd.c rfl rfl rfl)) rfl)))) ads_nil)))) rfl rfl rfl) as_nil)) as_nil)) (as_cons (as1_ret (ae_mv h.toRd.c rfl rfl rfl)) as_nil)))))
theorem d_Graph_double_loop {X : Cx} {p : Pt} {k : Nat} {cx : CX} (h : Cl tt g_Graph_double_loop X p k cx) (w : Wk p.W) (mk : Mkr X p) : AS X p cx (defBody (inClass (top 33) 4)) b_Graph_double_loop.body :=
  (as_cons (as1_set h.toRd.c (ae_tup (ads_cons (ae_var h.toRd.c rfl rfl rfl) (ads_cons (ae_var h.toRd.c rfl rfl rfl) (ads_cons ae_bl ads_nil)))) rfl (.inr ⟨rfl, h.fnT _⟩)) (as_cons (as1_set h.toRd.c (ae_lst (ads_cons (ae_tup (ads_cons (ae_var h.toRd.c rfl rfl rfl) (ads_cons (ae_var h.toRd.c rfl rfl rfl) (ads_cons ae_bl ads_nil)))) ads_nil)) rfl (.inl rfl)) (as_cons (as1_set h.toRd.c (ae_callL h fi_search (j := 28) rfl rfl rfl (aal_e (ae_var h.toRd.c rfl rfl rfl) (aal_tail (pat_lam mk (lamD2 h.toRd.c rfl rfl  rfl (fun _ _ _ _ _ _ _ => rfl) rfl (fun X' p' k' cx' h61 e' => have w : Wk p'.W := e' ▸ w; (ae_methV h61 fi_Graph_twin_moves w.m_Graph_twin_moves rfl rfl rfl (aas_e (ae_var h61.c rfl rfl rfl) (aas_e (ae_var h61.c rfl rfl rfl) aas_nil))))) (pat_lam mk (lamD1 h.toRd.c rfl  rfl (fun _ _ _ _ _ _ => rfl) rfl (fun X' p' k' cx' h62 e' => have w : Wk p'.W := e' ▸ w; (ae_cmp (Rd.eq h62) (ao_e (ae_var h62.c rfl rfl rfl)) (ao_e (ae_var h62.c rfl rfl rfl)) rfl))) pat_nil)))) rfl) rfl (.inl rfl)) (as_cons (as1_ret (ae_ite (ab_two opP_isNC (ao_e (ae_var h.toRd.c rfl rfl rfl)) (ao_e ae_non) rfl) (ae_idx (Rd.idx h.toRd) (ao_e (ae_var h.toRd.c rfl rfl rfl)) (ao_e ae_int) (fun _ _ => rfl)) ae_non)) as_nil))))
theorem d_Graph_loop {X : Cx} {p : Pt} {k : Nat} {cx : CX} (h : Cl tt g_Graph_loop X p k cx) (w : Wk p.W) : AS X p cx (defBody (inClass (top 33) 7)) b_Graph_loop.body :=
  (as_cons (as1_for h.po h.toRd.c (ai_it (ao_e (ae_glb h.toRd.c (i := 11) rfl rfl rfl fun G => .str _))) (ag_nm h.toRd.c rfl (.inl rfl)) (as_cons (as1_for h.po h.toRd.c (ai_it (ao_e (ae_methE h.toRd fi_Machine_reached w.m_Machine_reached (ae_attrV h.toRd.c w.c23 (j := 0) rfl rfl rfl rfl) (aas_e (ae_var h.toRd.c rfl rfl rfl) (aas_e (ae_var h.toRd.c rfl rfl rfl) aas_nil))))) (ag_nm h.toRd.c rfl (.inl rfl)) as_stk) as_nil)) (as_cons (as1_ret ae_non) as_nil))
theorem d_Graph_pump {X : Cx} {p : Pt} {k : Nat} {cx : CX} (h : Cl tt g_Graph_pump X p k cx) (w : Wk p.W) : AS X p cx (defBody (inClass (top 33) 8)) b_Graph_pump.body :=
  (as_cons (as1_for h.po h.toRd.c (ai_range1 h.toRd.c (i := 76) rfl rfl (ads_cons (ae_attrV h.toRd.c w.c23 (j := 1) rfl rfl rfl rfl) ads_nil)) (ag_nm h.toRd.c rfl (.inl rfl)) (as_cons (as1_set h.toRd.c (ae_methV h.toRd fi_Graph_double_loop w.m_Graph_double_loop rfl rfl rfl (aas_e (ae_var h.toRd.c rfl rfl rfl) aas_nil)) rfl (.inl rfl)) (as_cons (as1_if (ab_two opP_isNC (ao_e (ae_var h.toRd.c rfl rfl rfl)) (ao_e ae_non) rfl) (as_cons (as1_ret (ae_tup (ads_cons (ae_methV h.toRd fi_Graph_from_start w.m_Graph_from_start rfl rfl rfl (aas_e (ae_var h.toRd.c rfl rfl rfl) aas_nil)) (ads_cons (ae_var h.toRd.c rfl rfl rfl) ads_nil)))) as_nil) as_nil) as_nil))) (as_cons (as1_ret ae_non) as_nil))
theorem d_Graph_longest_chain {X : Cx} {p : Pt} {k : Nat} {cx : CX} (h : Cl tt g_Graph_longest_chain X p k cx) (w : Wk p.W) : AS X p cx (defBody (inClass (top 33) 10)) b_Graph_longest_chain.body :=
  as_stk
theorem d_Graph_degree {X : Cx} {p : Pt} {k : Nat} {cx : CX} (h : Cl tt g_Graph_degree X p k cx) (w : Wk p.W) : AS X p cx (defBody (inClass (top 33) 12)) b_Graph_degree.body :=
  (as_cons (as1_set h.toRd.c (ae_methV0 h.toRd fi_Graph_longest_chain w.m_Graph_longest_chain rfl rfl rfl) rfl (.inl rfl)) (as_cons (as1_if (ab_nemp h.toRd.c (ao_e (ae_var h.toRd.c rfl rfl rfl))) (as_cons (as1_ret (ae_bin opP_add (ao_e (ae_bi h.toRd.c (Rd.len h.toRd) (i := 72) rfl rfl rfl rfl (ap1_cons (ao_e (ae_var h.toRd.c rfl rfl rfl)) ap1_nil))) (ao_e ae_int))) as_nil) as_nil) (as_cons (as1_ret (ae_ite (ab_val (ae_bi h.toRd.c (callP_any h.toRd.c.calm) (i := 67) rfl rfl rfl rfl (ap1_cons (ao_e (ae_lc h.toRd.c (own := [("position", 2)]) (ai_range1 h.toRd.c (i := 76) rfl rfl (ads_cons (ae_attrV h.toRd.c w.c23 (j := 1) rfl rfl rfl rfl) ads_nil)) rfl rfl (inB h.toRd fun X' h63 => (ag_nm h63.c rfl (.inl rfl))) (inB h.toRd fun X' h' => aif_no) (inB h.toRd fun X' h64 => (ae_cmp opP_isNC (ao_e (ae_methV h64 fi_Graph_loop w.m_Graph_loop rfl rfl rfl (aas_e (ae_var h64.c rfl rfl rfl) aas_nil))) (ao_e ae_non) rfl)))) ap1_nil))) ae_int ae_int)) as_nil)))
theorem d_growth {X : Cx} {p : Pt} {k : Nat} {cx : CX} (h : Cl tt g_growth X p k cx) (w : Wk p.W) : AS X p cx (defBody (top 34)) b_growth.body :=
  (as_cons (as1_exp (ae_call h.toRd fi_check_pattern (j := 24) rfl rfl rfl (aas_e (ae_var h.toRd.c rfl rfl rfl) aas_nil))) (as_cons (as1_set h.toRd.c (ae_make h.toRd fi_Graph_init w.mk23 (j := 29) rfl rfl rfl (aas_e (ae_var h.toRd.c rfl rfl rfl) aas_nil)) rfl (.inl rfl)) (as_cons (as1_if (ab_two opP_isNC (ao_e (ae_methV0 h.toRd fi_Graph_pump w.m_Graph_pump rfl rfl rfl)) (ao_e ae_non) rfl) (as_cons (as1_ret (ae_tup (ads_cons (ae_str rfl) (ads_cons ae_int ads_nil)))) as_nil) as_nil) (as_cons (as1_set h.toRd.c (ae_methV0 h.toRd fi_Graph_degree w.m_Graph_degree rfl rfl rfl) rfl (.inl rfl)) (as_cons (as1_ret (ae_ite (ab_two opP_gt (ao_e (ae_var h.toRd.c rfl rfl rfl)) (ao_e ae_int) rfl) (ae_tup (ads_cons (ae_str rfl) (ads_cons (ae_var h.toRd.c rfl rfl rfl) ads_nil))) (ae_tup (ads_cons (ae_str rfl) (ads_cons ae_int ads_nil))))) as_nil)))))
theorem d_is_text {X : Cx} {p : Pt} {k : Nat} {cx : CX} (h : Cl tt g_is_text X p k cx) (w : Wk p.W) : AS X p cx (defBody (top 40)) b_is_text.body :=
  (as_cons (as1_ret (ae_and (ae_isi h.toRd.c rfl (i := 71) rfl rfl rfl rfl (ao_e (ae_var h.toRd.c rfl rfl rfl)) (pe_tyB h.toRd.c (i := 79) rfl rfl rfl rfl)) (ae_and (ae_cmp opP_le (ao_e (ae_bi h.toRd.c (Rd.len h.toRd) (i := 72) rfl rfl rfl rfl (ap1_cons (ao_e (ae_var h.toRd.c rfl rfl rfl)) ap1_nil))) (ao_e (ae_var h.toRd.c rfl rfl rfl)) rfl) (ae_bool1 (ae_bi h.toRd.c (callP_all h.toRd.c.calm) (i := 66) rfl rfl rfl rfl (ap1_cons (ao_e (ae_lc h.toRd.c (own := [("sign", 2)]) (ai_it (ao_e (ae_var h.toRd.c rfl rfl rfl))) rfl rfl (inB h.toRd fun X' h29 => (ag_nm h29.c rfl (.inl rfl))) (inB h.toRd fun X' h' => aif_no) (inB h.toRd fun X' h30 => (ae_cmp (Rd.inn h30) (ao_e (ae_var h30.c rfl rfl rfl)) (ao_e (ae_glb h30.c (i := 34) rfl rfl rfl fun G => .str _)) rfl)))) ap1_nil)))))) as_nil)
theorem d_is_word {X : Cx} {p : Pt} {k : Nat} {cx : CX} (h : Cl tt g_is_word X p k cx) (w : Wk p.W) : AS X p cx (defBody (top 41)) b_is_word.body :=
  (as_cons (as1_ret (ae_and (ae_isi h.toRd.c rfl (i := 71) rfl rfl rfl rfl (ao_e (ae_var h.toRd.c rfl rfl rfl)) (pe_tyB h.toRd.c (i := 79) rfl rfl rfl rfl)) (ae_and (ae_cmp opP_le (ao_e (ae_bi h.toRd.c (Rd.len h.toRd) (i := 72) rfl rfl rfl rfl (ap1_cons (ao_e (ae_var h.toRd.c rfl rfl rfl)) ap1_nil))) (ao_e (ae_var h.toRd.c rfl rfl rfl)) rfl) (ae_bool1 (ae_bi h.toRd.c (callP_all h.toRd.c.calm) (i := 66) rfl rfl rfl rfl (ap1_cons (ao_e (ae_lc h.toRd.c (own := [("sign", 2)]) (ai_it (ao_e (ae_var h.toRd.c rfl rfl rfl))) rfl rfl (inB h.toRd fun X' h33 => (ag_nm h33.c rfl (.inl rfl))) (inB h.toRd fun X' h' => aif_no) (inB h.toRd fun X' h34 => (ae_cmp (Rd.inn h34) (ao_e (ae_var h34.c rfl rfl rfl)) (ao_e (ae_glb h34.c (i := 11) rfl rfl rfl fun G => .str _)) rfl)))) ap1_nil)))))) as_nil)
theorem d_check_text {X : Cx} {p : Pt} {k : Nat} {cx : CX} (h : Cl tt g_check_text X p k cx) (w : Wk p.W) : AS X p cx (defBody (top 42)) b_check_text.body :=
  (as_cons (as1_if (ab_not (ab_val (ae_call h.toRd fi_is_text (j := 35) rfl rfl rfl (aas_e (ae_var h.toRd.c rfl rfl rfl) (aas_e (ae_var h.toRd.c rfl rfl rfl) aas_nil))))) (as_cons (as1_rais h.toRd.c w.x2 (i := 2) rfl rfl rfl) as_nil) as_nil) as_nil)
theorem d_Run_init {X : Cx} {p : Pt} {k : Nat} {cx : CX} (h : Cl tt g_Run_init X p k cx) (w : Wk p.W) : AS X p cx (defBody (inClass (top 43) 0)) b_Run_init.body :=
  (as_cons (as1_fld h.toRd.c w.c21 (j := 0) rfl (ae_var h.toRd.c rfl rfl rfl) rfl rfl rfl) (as_cons (as1_fld h.toRd.c w.c21 (j := 1) rfl (ae_var h.toRd.c rfl rfl rfl) rfl rfl rfl) (as_cons (as1_set h.toRd.c (ae_lst ads_nil) rfl (.inr ⟨rfl, h.fnT _⟩)) (as_cons (as1_for h.po h.toRd.c (ai_range3 h.toRd.c (i := 76) rfl rfl (ads_cons (ae_bi h.toRd.c (Rd.len h.toRd) (i := 72) rfl rfl rfl rfl (ap1_cons (ao_e (ae_var h.toRd.c rfl rfl rfl)) ap1_nil)) (ads_cons (ae_neg (ao_e ae_int)) (ads_cons (ae_neg (ao_e ae_int)) ads_nil)))) (ag_nm h.toRd.c rfl (.inr ⟨rfl, h.fnT _⟩)) (as_cons (as1_setD h.toRd.c (ae_lc h.toRd.c (own := [("choices", 5)]) (ai_it (ao_e (ae_bin opP_add (ao_e (ae_attrV h.toRd.c w.c20 (j := 1) rfl rfl rfl rfl)) (ao_e (ae_lst (ads_cons (ae_attrV h.toRd.c w.c20 (j := 2) rfl rfl rfl rfl) ads_nil)))))) rfl rfl (inB h.toRd fun X' h25 => (ag_nm h25.c rfl (.inl rfl))) (inB h.toRd fun X' h' => aif_no) (inB h.toRd fun X' h26 => (ae_methV h26 fi_Run_tried w.m_Run_tried rfl rfl rfl (aas_e (ae_var h26.c rfl rfl rfl) (aas_e (ae_var h26.c rfl rfl rfl) (aas_e (ae_var h26.c rfl rfl rfl) aas_nil)))))) rfl (.inr ⟨rfl, h.fnT _⟩) rfl) as_nil)) (as_cons (as1_fld h.toRd.c w.c21 (j := 2) rfl (ae_idx (Rd.idx h.toRd) (ao_e (ae_var h.toRd.c rfl rfl rfl)) (ao_e (ae_neg (ao_e ae_int))) (fun _ _ => rfl)) rfl rfl rfl) as_nil)))))
theorem d_Run_tried {X : Cx} {p : Pt} {k : Nat} {cx : CX} (h : Cl tt g_Run_tried X p k cx) (w : Wk p.W) : AS X p cx (defBody (inClass (top 43) 1)) b_Run_tried.body :=
  (as_cons (as1_set h.toRd.c ae_int rfl (.inl rfl)) (as_cons (as1_for h.po h.toRd.c (ai_it (ao_e (ae_var h.toRd.c rfl rfl rfl))) (ag_nm h.toRd.c rfl (.inl rfl)) (as_cons (as1_if (ab_two (Rd.eq h.toRd) (ao_e (ae_var h.toRd.c rfl rfl rfl)) (ao_e (ae_glb h.toRd.c (i := 14) rfl rfl rfl fun G => .int _)) rfl) (as_cons (as1_if (ab_two (Rd.eq h.toRd) (ao_e (ae_var h.toRd.c rfl rfl rfl)) (ao_e (ae_bi h.toRd.c (Rd.len h.toRd) (i := 72) rfl rfl rfl rfl (ap1_cons (ao_e (ae_attrV h.toRd.c w.c21 (j := 1) rfl rfl rfl rfl)) ap1_nil))) rfl) (as_cons (as1_ret (ae_tup (ads_cons ae_bl (ads_cons (ae_var h.toRd.c rfl rfl rfl) ads_nil)))) as_nil) as_nil) as_nil) (as_cons (as1_set h.toRd.c (ae_bin opP_add (ao_e (ae_var h.toRd.c rfl rfl rfl)) (ao_e ae_int)) rfl (.inl rfl)) (as_cons (as1_if (aw_ab (aw_and (ab_two opP_lt (ao_e (ae_var h.toRd.c rfl rfl rfl)) (ao_e (ae_bi h.toRd.c (Rd.len h.toRd) (i := 72) rfl rfl rfl rfl (ap1_cons (ao_e (ae_attrV h.toRd.c w.c21 (j := 1) rfl rfl rfl rfl)) ap1_nil))) rfl) (aw_and1 (ab_two (Rd.inn h.toRd) (ao_e (ae_idx (Rd.idx h.toRd) (ao_e (ae_attrV h.toRd.c w.c21 (j := 1) rfl rfl rfl rfl)) (ao_e (ae_var h.toRd.c rfl rfl rfl)) (fun _ _ => rfl))) (ao_e (ae_idx (Rd.idx h.toRd) (ao_e (ae_attrE h.toRd.c w.c20 (j := 0) rfl (ae_attrV h.toRd.c w.c21 (j := 0) rfl rfl rfl rfl))) (ao_e (ae_var h.toRd.c rfl rfl rfl)) (fun _ _ => rfl))) rfl)))) (as_cons (as1_unp (ae_idx (Rd.idx h.toRd) (ao_e (ae_var h.toRd.c rfl rfl rfl)) (ao_e (ae_var h.toRd.c rfl rfl rfl)) (fun _ _ => rfl)) (ag_tup h.toRd.c (ags_cons (ag_nm h.toRd.c rfl (.inl rfl)) (ags_cons (ag_nm h.toRd.c rfl (.inl rfl)) ags_nil)))) (as_cons (as1_set h.toRd.c (ae_bin opP_add (ao_e (ae_var h.toRd.c rfl rfl rfl)) (ao_e (ae_var h.toRd.c rfl rfl rfl))) rfl (.inl rfl)) (as_cons (as1_if (ab_val (ae_var h.toRd.c rfl rfl rfl)) (as_cons (as1_ret (ae_tup (ads_cons ae_bl (ads_cons (ae_var h.toRd.c rfl rfl rfl) ads_nil)))) as_nil) as_nil) as_nil))) as_nil) as_nil))) as_nil)) (as_cons (as1_ret (ae_tup (ads_cons ae_bl (ads_cons (ae_var h.toRd.c rfl rfl rfl) ads_nil)))) as_nil)))
theorem d_run_of {X : Cx} {p : Pt} {k : Nat} {cx : CX} (h : Cl tt g_run_of X p k cx) (w : Wk p.W) : AS X p cx (defBody (top 44)) b_run_of.body :=
  (as_cons (as1_ret (ae_attrE h.toRd.c w.c21 (j := 2) rfl (ae_make h.toRd fi_Run_init w.mk21 (j := 38) rfl rfl rfl (aas_e (ae_make h.toRd fi_Machine_init w.mk20 (j := 25) rfl rfl rfl (aas_e (ae_var h.toRd.c rfl rfl rfl) aas_nil)) (aas_e (ae_var h.toRd.c rfl rfl rfl) aas_nil))))) as_nil)
theorem d_steps {X : Cx} {p : Pt} {k : Nat} {cx : CX} (h : Cl tt g_steps X p k cx) (w : Wk p.W) : AS X p cx (defBody (top 45)) b_steps.body :=
  (as_cons (as1_exp (ae_call h.toRd fi_check_pattern (j := 24) rfl rfl rfl (aas_e (ae_var h.toRd.c rfl rfl rfl) aas_nil))) (as_cons (as1_exp (ae_call h.toRd fi_check_text (j := 37) rfl rfl rfl (aas_e (ae_var h.toRd.c rfl rfl rfl) (aas_e (ae_glb h.toRd.c (i := 31) rfl rfl rfl fun G => .int _) aas_nil)))) (as_cons (as1_ret (ae_idx (Rd.idx h.toRd) (ao_e (ae_call h.toRd fi_run_of (j := 39) rfl rfl rfl (aas_e (ae_var h.toRd.c rfl rfl rfl) (aas_e (ae_var h.toRd.c rfl rfl rfl) aas_nil)))) (ao_e ae_int) (fun _ _ => rfl))) as_nil)))
theorem d_Attempts_init {X : Cx} {p : Pt} {k : Nat} {cx : CX} (h : Cl tt g_Attempts_init X p k cx) (w : Wk p.W) : AS X p cx (defBody (inClass (top 46) 0)) b_Attempts_init.body :=
  (as_cons (as1_fld h.toRd.c w.c22 (j := 0) rfl (ae_var h.toRd.c rfl rfl rfl) rfl rfl rfl) (as_cons (as1_fld h.toRd.c w.c22 (j := 1) rfl (ae_var h.toRd.c rfl rfl rfl) rfl rfl rfl) (as_cons (as1_fld h.toRd.c w.c22 (j := 2) rfl (ae_lst ads_nil) rfl rfl rfl) as_nil)))
theorem d_Attempts_descend {X : Cx} {p : Pt} {k : Nat} {cx : CX} (h : Cl tt g_Attempts_descend X p k cx) (w : Wk p.W) : AS X p cx (defBody (inClass (top 46) 1)) b_Attempts_descend.body :=
  (as_cons (as1_for h.po h.toRd.c (ai_it (ao_e (ae_var h.toRd.c rfl rfl rfl))) (ag_nm h.toRd.c rfl (.inl rfl)) (as_cons (as1_if (ab_two (Rd.eq h.toRd) (ao_e (ae_var h.toRd.c rfl rfl rfl)) (ao_e (ae_glb h.toRd.c (i := 14) rfl rfl rfl fun G => .int _)) rfl) (as_cons (as1_if (ab_two (Rd.eq h.toRd) (ao_e (ae_var h.toRd.c rfl rfl rfl)) (ao_e (ae_bi h.toRd.c (Rd.len h.toRd) (i := 72) rfl rfl rfl rfl (ap1_cons (ao_e (ae_attrV h.toRd.c w.c22 (j := 1) rfl rfl rfl rfl)) ap1_nil))) rfl) (as_cons (as1_ret ae_bl) as_nil) as_nil) as_nil) (as_cons (as1_appF h.toRd.c w.c22 (j := 2) rfl (ae_tup (ads_cons (ae_var h.toRd.c rfl rfl rfl) (ads_cons (ae_var h.toRd.c rfl rfl rfl) ads_nil))) rfl rfl rfl) (as_cons (as1_if (aw_ab (aw_and (ab_two opP_lt (ao_e (ae_var h.toRd.c rfl rfl rfl)) (ao_e (ae_bi h.toRd.c (Rd.len h.toRd) (i := 72) rfl rfl rfl rfl (ap1_cons (ao_e (ae_attrV h.toRd.c w.c22 (j := 1) rfl rfl rfl rfl)) ap1_nil))) rfl) (aw_and1 (ab_two (Rd.inn h.toRd) (ao_e (ae_idx (Rd.idx h.toRd) (ao_e (ae_attrV h.toRd.c w.c22 (j := 1) rfl rfl rfl rfl)) (ao_e (ae_var h.toRd.c rfl rfl rfl)) (fun _ _ => rfl))) (ao_e (ae_idx (Rd.idx h.toRd) (ao_e (ae_attrE h.toRd.c w.c20 (j := 0) rfl (ae_attrV h.toRd.c w.c22 (j := 0) rfl rfl rfl rfl))) (ao_e (ae_var h.toRd.c rfl rfl rfl)) (fun _ _ => rfl))) rfl)))) (as_cons (as1_if (ab_val (ae_methV h.toRd fi_Attempts_descend w.m_Attempts_descend rfl rfl rfl (aas_e (ae_idx (Rd.idx h.toRd) (ao_e (ae_attrE h.toRd.c w.c20 (j := 1) rfl (ae_attrV h.toRd.c w.c22 (j := 0) rfl rfl rfl rfl))) (ao_e (ae_var h.toRd.c rfl rfl rfl)) (fun _ _ => rfl)) (aas_e (ae_bin opP_add (ao_e (ae_var h.toRd.c rfl rfl rfl)) (ao_e ae_int)) aas_nil)))) (as_cons (as1_ret ae_bl) as_nil) as_nil) as_nil) as_nil) as_nil))) as_nil)) (as_cons (as1_ret ae_bl) as_nil))
theorem d_attempts {X : Cx} {p : Pt} {k : Nat} {cx : CX} (h : Cl tt g_attempts X p k cx) (w : Wk p.W) : AS X p cx (defBody (top 47)) b_attempts.body :=
  (as_cons (as1_exp (ae_call h.toRd fi_check_pattern (j := 24) rfl rfl rfl (aas_e (ae_var h.toRd.c rfl rfl rfl) aas_nil))) (as_cons (as1_exp (ae_call h.toRd fi_check_text (j := 37) rfl rfl rfl (aas_e (ae_var h.toRd.c rfl rfl rfl) (aas_e (ae_glb h.toRd.c (i := 31) rfl rfl rfl fun G => .int _) aas_nil)))) (as_cons (as1_if (ab_two opP_gt (ao_e (ae_idx (Rd.idx h.toRd) (ao_e (ae_call h.toRd fi_run_of (j := 39) rfl rfl rfl (aas_e (ae_var h.toRd.c rfl rfl rfl) (aas_e (ae_var h.toRd.c rfl rfl rfl) aas_nil)))) (ao_e ae_int) (fun _ _ => rfl))) (ao_e (ae_glb h.toRd.c (i := 32) rfl rfl rfl fun G => .int _)) rfl) (as_cons (as1_rais h.toRd.c w.x9 (i := 9) rfl rfl rfl) as_nil) as_nil) (as_cons (as1_set h.toRd.c (ae_make h.toRd fi_Attempts_init w.mk22 (j := 41) rfl rfl rfl (aas_e (ae_make h.toRd fi_Machine_init w.mk20 (j := 25) rfl rfl rfl (aas_e (ae_var h.toRd.c rfl rfl rfl) aas_nil)) (aas_e (ae_var h.toRd.c rfl rfl rfl) aas_nil))) rfl (.inl rfl)) (as_cons (as1_exp (ae_methV h.toRd fi_Attempts_descend w.m_Attempts_descend rfl rfl rfl (aas_e (ae_attrE h.toRd.c w.c20 (j := 2) rfl (ae_attrV h.toRd.c w.c22 (j := 0) rfl rfl rfl rfl)) (aas_e ae_int aas_nil)))) (as_frz (by rw [h.toRd.c.n]; decide) (as_cons (as1_ret (ae_attrV h.toRd.c w.c22 (j := 2) rfl rfl rfl rfl)) as_nil)))))))
theorem d_path_counts {X : Cx} {p : Pt} {k : Nat} {cx : CX} (h : Cl tt g_path_counts X p k cx) (w : Wk p.W) : AS X p cx (defBody (top 48)) b_path_counts.body :=
  as_stk
theorem d_advanced {X : Cx} {p : Pt} {k : Nat} {cx : CX} (h : Cl tt g_advanced X p k cx) (w : Wk p.W) : AS X p cx (defBody (top 49)) b_advanced.body :=
  (as_cons (as1_setLcD h.toRd.c (own := [("count", 4)]) rfl rfl (ai_it (ao_e (ae_var h.toRd.c rfl rfl rfl))) rfl rfl (inB h.toRd fun X' h49 => (ag_nm h49.c rfl (.inl rfl))) (inB h.toRd fun X' h' => aif_no) (inB h.toRd fun X' h50 => ae_int) rfl) (as_cons (as1_for h.po h.toRd.c (ai_enum h.toRd.c (i := 69) rfl rfl (ao_e (ae_var h.toRd.c rfl rfl rfl))) (ag_tup h.toRd.c (ags_cons (ag_nm h.toRd.c rfl (.inl rfl)) (ags_cons (ag_nm h.toRd.c rfl (.inl rfl)) ags_nil))) (as_cons (as1_for h.po h.toRd.c (ai_it (ao_e (ae_methV h.toRd fi_Machine_reached w.m_Machine_reached rfl rfl rfl (aas_e (ae_var h.toRd.c rfl rfl rfl) (aas_e (ae_var h.toRd.c rfl rfl rfl) aas_nil))))) (ag_nm h.toRd.c rfl (.inl rfl)) (as_cons (as1_subV h.toRd.c (ae_bin opP_add (ao_e (ae_idx (Rd.idx h.toRd) (ao_v h.toRd.c rfl rfl rfl) (ao_e (ae_var h.toRd.c rfl rfl rfl)) (fun _ _ => rfl))) (ao_e (ae_var h.toRd.c rfl rfl rfl))) (ae_var h.toRd.c rfl rfl rfl) rfl rfl rfl) as_nil)) as_nil)) (as_cons (as1_ret (ae_mv h.toRd.c rfl rfl rfl)) as_nil)))
theorem d_paths_to {X : Cx} {p : Pt} {k : Nat} {cx : CX} (h : Cl tt g_paths_to X p k cx) (w : Wk p.W) : AS X p cx (defBody (top 50)) b_paths_to.body :=
  (as_cons (as1_exp (ae_call h.toRd fi_check_pattern (j := 24) rfl rfl rfl (aas_e (ae_var h.toRd.c rfl rfl rfl) aas_nil))) (as_cons (as1_if (ab_not (ab_val (ae_call h.toRd fi_is_word (j := 36) rfl rfl rfl (aas_e (ae_var h.toRd.c rfl rfl rfl) (aas_e (ae_glb h.toRd.c (i := 31) rfl rfl rfl fun G => .int _) aas_nil))))) (as_cons (as1_rais h.toRd.c w.x3 (i := 3) rfl rfl rfl) as_nil) as_nil) (as_cons (as1_ret (ae_ty h.toRd.c callP_tuple (i := 81) rfl rfl rfl rfl (ap1_cons (ao_e (ae_call h.toRd fi_path_counts (j := 43) rfl rfl rfl (aas_e (ae_make h.toRd fi_Machine_init w.mk20 (j := 25) rfl rfl rfl (aas_e (ae_var h.toRd.c rfl rfl rfl) aas_nil)) (aas_e (ae_var h.toRd.c rfl rfl rfl) aas_nil)))) ap1_nil))) as_nil)))
theorem d_all_texts {X : Cx} {p : Pt} {k : Nat} {cx : CX} (h : Cl tt g_all_texts X p k cx) (w : Wk p.W) : AS X p cx (defBody (top 51)) b_all_texts.body :=
  (as_cons (as1_set h.toRd.c (ae_lst (ads_cons (ae_str rfl) ads_nil)) rfl (.inl rfl)) (as_cons (as1_for h.po h.toRd.c (ai_range1 h.toRd.c (i := 76) rfl rfl (ads_cons (ae_var h.toRd.c rfl rfl rfl) ads_nil)) (ag_nm h.toRd.c rfl (.inl rfl)) as_stk) (as_cons (as1_ret (ae_var h.toRd.c rfl rfl rfl)) as_nil)))
theorem d_worst {X : Cx} {p : Pt} {k : Nat} {cx : CX} (h : Cl tt g_worst X p k cx) (w : Wk p.W) : AS X p cx (defBody (top 52)) b_worst.body :=
  (as_cons (as1_exp (ae_call h.toRd fi_check_pattern (j := 24) rfl rfl rfl (aas_e (ae_var h.toRd.c rfl rfl rfl) aas_nil))) (as_cons (as1_if (ab_not (ab_val (ae_call h.toRd fi_is_integer (j := 15) rfl rfl rfl (aas_e (ae_var h.toRd.c rfl rfl rfl) (aas_e ae_int (aas_e (ae_glb h.toRd.c (i := 33) rfl rfl rfl fun G => .int _) aas_nil)))))) (as_cons (as1_rais h.toRd.c w.x5 (i := 5) rfl rfl rfl) as_nil) as_nil) (as_cons (as1_par2D h.toRd.c rfl rfl  rfl  rfl rfl  (ass_cons (ae_make h.toRd fi_Machine_init w.mk20 (j := 25) rfl rfl rfl (aas_e (ae_var h.toRd.c rfl rfl rfl) aas_nil)) (ass_cons (ae_tup (ads_cons (ae_neg (ao_e ae_int)) (ads_cons (ae_str rfl) ads_nil))) ass_nil)) rfl) (as_cons (as1_for h.po h.toRd.c (ai_it (ao_e (ae_call h.toRd fi_all_texts (j := 46) rfl rfl rfl (aas_e (ae_var h.toRd.c rfl rfl rfl) aas_nil)))) (ag_nm h.toRd.c rfl (.inl rfl)) (as_cons (as1_set h.toRd.c (ae_idx (Rd.idx h.toRd) (ao_e (ae_attrE h.toRd.c w.c21 (j := 2) rfl (ae_make h.toRd fi_Run_init w.mk21 (j := 38) rfl rfl rfl (aas_e (ae_var h.toRd.c rfl rfl rfl) (aas_e (ae_var h.toRd.c rfl rfl rfl) aas_nil))))) (ao_e ae_int) (fun _ _ => rfl)) rfl (.inl rfl)) (as_cons (as1_if (ab_two opP_gt (ao_e (ae_var h.toRd.c rfl rfl rfl)) (ao_e (ae_idx (Rd.idx h.toRd) (ao_e (ae_var h.toRd.c rfl rfl rfl)) (ao_e ae_int) (fun _ _ => rfl))) rfl) (as_cons (as1_set h.toRd.c (ae_tup (ads_cons (ae_var h.toRd.c rfl rfl rfl) (ads_cons (ae_var h.toRd.c rfl rfl rfl) ads_nil))) rfl (.inl rfl)) as_nil) as_nil) as_nil))) (as_cons (as1_ret (ae_var h.toRd.c rfl rfl rfl)) as_nil)))))
theorem d_counts_from {X : Cx} {p : Pt} {k : Nat} {cx : CX} (h : Cl tt g_counts_from X p k cx) (w : Wk p.W) : AS X p cx (defBody (top 55)) b_counts_from.body :=
  (as_cons (as1_setLcD h.toRd.c (own := [("q", 4)]) rfl rfl (ai_range1 h.toRd.c (i := 76) rfl rfl (ads_cons (ae_bi h.toRd.c (Rd.len h.toRd) (i := 72) rfl rfl rfl rfl (ap1_cons (ao_e (ae_attrV h.toRd.c w.c20 (j := 0) rfl rfl rfl rfl)) ap1_nil)) ads_nil)) rfl rfl (inB h.toRd fun X' h47 => (ag_nm h47.c rfl (.inl rfl))) (inB h.toRd fun X' h' => aif_no) (inB h.toRd fun X' h48 => (ae_ite (ab_two (Rd.eq h48) (ao_e (ae_var h48.c rfl rfl rfl)) (ao_e (ae_var h48.c rfl rfl rfl)) rfl) ae_int ae_int)) rfl) (as_cons (as1_for h.po h.toRd.c (ai_it (ao_e (ae_var h.toRd.c rfl rfl rfl))) (ag_nm h.toRd.c rfl (.inl rfl)) (as_cons (as1_set h.toRd.c (ae_call h.toRd fi_advanced (j := 44) rfl rfl rfl (aas_e (ae_var h.toRd.c rfl rfl rfl) (aas_e (ae_var h.toRd.c rfl rfl rfl) (aas_e (ae_var h.toRd.c rfl rfl rfl) aas_nil)))) rfl (.inl rfl)) as_nil)) (as_cons (as1_ret (ae_var h.toRd.c rfl rfl rfl)) as_nil)))
theorem d_are_words {X : Cx} {p : Pt} {k : Nat} {cx : CX} (h : Cl tt g_are_words X p k cx) (w : Wk p.W) : AS X p cx (defBody (top 56)) b_are_words.body :=
  (as_cons (as1_if (aw_ab (aw_or (ab_not (ab_val (ae_isi h.toRd.c rfl (i := 71) rfl rfl rfl rfl (ao_e (ae_var h.toRd.c rfl rfl rfl)) (pe_tyB h.toRd.c (i := 81) rfl rfl rfl rfl)))) (aw_or (ab_two (Rd.ne h.toRd) (ao_e (ae_bi h.toRd.c (Rd.len h.toRd) (i := 72) rfl rfl rfl rfl (ap1_cons (ao_e (ae_var h.toRd.c rfl rfl rfl)) ap1_nil))) (ao_e ae_int) rfl) (aw_or1 (ab_not (ab_val (ae_bi h.toRd.c (callP_all h.toRd.c.calm) (i := 66) rfl rfl rfl rfl (ap1_cons (ao_e (ae_lc h.toRd.c (own := [("item", 1)]) (ai_it (ao_e (ae_var h.toRd.c rfl rfl rfl))) rfl rfl (inB h.toRd fun X' h54 => (ag_nm h54.c rfl (.inl rfl))) (inB h.toRd fun X' h' => aif_no) (inB h.toRd fun X' h55 => (ae_call h55 fi_is_word (j := 36) rfl rfl rfl (aas_e (ae_var h55.c rfl rfl rfl) (aas_e (ae_glb h55.c (i := 31) rfl rfl rfl fun G => .int _) aas_nil)))))) ap1_nil)))))))) (as_cons (as1_ret ae_bl) as_nil) as_nil) (as_cons (as1_ret (ae_cmp (Rd.ne h.toRd) (ao_e (ae_idx (Rd.idx h.toRd) (ao_e (ae_var h.toRd.c rfl rfl rfl)) (ao_e ae_int) (fun _ _ => rfl))) (ao_e (ae_str rfl)) rfl)) as_nil))
theorem d_is_ladder {X : Cx} {p : Pt} {k : Nat} {cx : CX} (h : Cl tt g_is_ladder X p k cx) (w : Wk p.W) : AS X p cx (defBody (top 58)) b_is_ladder.body :=
  (as_cons (as1_exp (ae_call h.toRd fi_check_pattern (j := 24) rfl rfl rfl (aas_e (ae_var h.toRd.c rfl rfl rfl) aas_nil))) (as_cons (as1_if (ab_not (ab_val (ae_call h.toRd fi_is_integer (j := 15) rfl rfl rfl (aas_e (ae_var h.toRd.c rfl rfl rfl) (aas_e ae_int (aas_e (ae_glb h.toRd.c (i := 48) rfl rfl rfl fun G => .int _) aas_nil)))))) (as_cons (as1_rais h.toRd.c w.x6 (i := 6) rfl rfl rfl) as_nil) as_nil) (as_cons (as1_if (aw_ab (aw_or (ab_not (ab_val (ae_isi h.toRd.c rfl (i := 71) rfl rfl rfl rfl (ao_e (ae_var h.toRd.c rfl rfl rfl)) (pe_tyB h.toRd.c (i := 81) rfl rfl rfl rfl)))) (aw_or (ab_two (Rd.ne h.toRd) (ao_e (ae_bi h.toRd.c (Rd.len h.toRd) (i := 72) rfl rfl rfl rfl (ap1_cons (ao_e (ae_var h.toRd.c rfl rfl rfl)) ap1_nil))) (ao_e (ae_bi h.toRd.c (callP_max2 h.toRd.c.calm) (i := 74) rfl rfl rfl rfl (ap1_cons (ao_e ae_int) (ap1_cons (ao_e (ae_bin opP_sub (ao_e (ae_var h.toRd.c rfl rfl rfl)) (ao_e ae_int))) ap1_nil)))) rfl) (aw_or1 (ab_not (ab_val (ae_bi h.toRd.c (callP_all h.toRd.c.calm) (i := 66) rfl rfl rfl rfl (ap1_cons (ao_e (ae_lc h.toRd.c (own := [("item", 3)]) (ai_it (ao_e (ae_var h.toRd.c rfl rfl rfl))) rfl rfl (inB h.toRd fun X' h35 => (ag_nm h35.c rfl (.inl rfl))) (inB h.toRd fun X' h' => aif_no) (inB h.toRd fun X' h36 => (ae_call h36 fi_are_words (j := 50) rfl rfl rfl (aas_e (ae_var h36.c rfl rfl rfl) aas_nil))))) ap1_nil)))))))) (as_cons (as1_ret ae_bl) as_nil) as_nil) (as_cons (as1_set h.toRd.c (ae_make h.toRd fi_Machine_init w.mk20 (j := 25) rfl rfl rfl (aas_e (ae_var h.toRd.c rfl rfl rfl) aas_nil)) rfl (.inr ⟨rfl, h.fnT _⟩)) (as_cons (as1_set h.toRd.c (ae_bi h.toRd.c (Rd.len h.toRd) (i := 72) rfl rfl rfl rfl (ap1_cons (ao_e (ae_attrV h.toRd.c w.c20 (j := 0) rfl rfl rfl rfl)) ap1_nil)) rfl (.inl rfl)) (as_cons (as1_set h.toRd.c (ae_call h.toRd fi_path_counts (j := 43) rfl rfl rfl (aas_e (ae_var h.toRd.c rfl rfl rfl) (aas_e (ae_idx (Rd.idx h.toRd) (ao_e (ae_idx (Rd.idx h.toRd) (ao_e (ae_var h.toRd.c rfl rfl rfl)) (ao_e ae_int) (fun _ _ => rfl))) (ao_e ae_int) (fun _ _ => rfl)) aas_nil))) rfl (.inr ⟨rfl, h.fnT _⟩)) (as_cons (as1_if (ab_two (Rd.eq h.toRd) (ao_e (ae_var h.toRd.c rfl rfl rfl)) (ao_e ae_int) rfl) (as_cons (as1_ret (ae_bi h.toRd.c (callP_any h.toRd.c.calm) (i := 67) rfl rfl rfl rfl (ap1_cons (ao_e (ae_lc h.toRd.c (own := [("p", 7)]) (ai_range1 h.toRd.c (i := 76) rfl rfl (ads_cons (ae_var h.toRd.c rfl rfl rfl) ads_nil)) rfl rfl (inB h.toRd fun X' h37 => (ag_nm h37.c rfl (.inl rfl))) (inB h.toRd fun X' h' => aif_no) (inB h.toRd fun X' h38 => (ae_and (ae_cmp opP_gt (ao_e (ae_idx (Rd.idx h38) (ao_e (ae_var h38.c rfl rfl rfl)) (ao_e (ae_var h38.c rfl rfl rfl)) (fun _ _ => rfl))) (ao_e ae_int) rfl) (ae_bool1 (ae_cmp opP_gt (ao_e (ae_idx (Rd.idx h38) (ao_e (ae_call h38 fi_counts_from (j := 49) rfl rfl rfl (aas_e (ae_var h38.c rfl rfl rfl) (aas_e (ae_var h38.c rfl rfl rfl) (aas_e (ae_idx (Rd.idx h38) (ao_e (ae_idx (Rd.idx h38) (ao_e (ae_var h38.c rfl rfl rfl)) (ao_e ae_int) (fun _ _ => rfl))) (ao_e ae_int) (fun _ _ => rfl)) aas_nil))))) (ao_e (ae_var h38.c rfl rfl rfl)) (fun _ _ => rfl))) (ao_e ae_int) rfl)))))) ap1_nil))) as_nil) as_nil) (as_cons (as1_set h.toRd.c (ae_lst ads_nil) rfl (.inr ⟨rfl, h.fnT _⟩)) (as_cons (as1_for h.po h.toRd.c (ai_enum h.toRd.c (i := 69) rfl rfl (ao_e (ae_var h.toRd.c rfl rfl rfl))) (ag_tup h.toRd.c (ags_cons (ag_nm h.toRd.c rfl (.inl rfl)) (ags_cons (ag_tup h.toRd.c (ags_cons (ag_nm h.toRd.c rfl (.inr ⟨rfl, h.fnT _⟩)) (ags_cons (ag_nm h.toRd.c rfl (.inl rfl)) ags_nil))) ags_nil))) (as_cons (as1_if (ab_two (Rd.eq h.toRd) (ao_e (ae_var h.toRd.c rfl rfl rfl)) (ao_e ae_int) rfl) (as_cons (as1_setD h.toRd.c (ae_lc h.toRd.c (own := [("p", 7)]) (ai_range1 h.toRd.c (i := 76) rfl rfl (ads_cons (ae_var h.toRd.c rfl rfl rfl) ads_nil)) rfl rfl (inB h.toRd fun X' h39 => (ag_nm h39.c rfl (.inl rfl))) (inB h.toRd fun X' h40 => aif_one (ab_two opP_gt (ao_e (ae_idx (Rd.idx h40) (ao_e (ae_var h40.c rfl rfl rfl)) (ao_e (ae_var h40.c rfl rfl rfl)) (fun _ _ => rfl))) (ao_e ae_int) rfl)) (inB h.toRd fun X' h41 => (ae_var h41.c rfl rfl rfl))) rfl (.inr ⟨rfl, h.fnT _⟩) rfl) as_nil) (as_cons (as1_setD h.toRd.c (ae_lc h.toRd.c (own := [("p", 7)]) (ai_range1 h.toRd.c (i := 76) rfl rfl (ads_cons (ae_var h.toRd.c rfl rfl rfl) ads_nil)) rfl rfl (inBf h.toRd fun X' h42 e1 => (ag_nm h42.c rfl (.inr ⟨rfl, (e1 _).trans rfl⟩))) (inB h.toRd fun X' h43 => aif_one (ab_val (ae_bi h43.c (callP_any h43.c.calm) (i := 67) rfl rfl rfl rfl (ap1_cons (ao_e (ae_lc h43.c (own := [("q", 13)]) (ai_it (ao_e (ae_var h43.c rfl rfl rfl))) rfl rfl (inB h43 fun X' h44 => (ag_nm h44.c rfl (.inl rfl))) (inB h43 fun X' h' => aif_no) (inB h43 fun X' h45 => (ae_cmp opP_gt (ao_e (ae_idx (Rd.idx h45) (ao_e (ae_call h45 fi_counts_from (j := 49) rfl rfl rfl (aas_e (ae_var h45.c rfl rfl rfl) (aas_e (ae_var h45.c rfl rfl rfl) (aas_e (ae_var h45.c rfl rfl rfl) aas_nil))))) (ao_e (ae_var h45.c rfl rfl rfl)) (fun _ _ => rfl))) (ao_e ae_int) rfl)))) ap1_nil)))) (inB h.toRd fun X' h46 => (ae_var h46.c rfl rfl rfl))) rfl (.inr ⟨rfl, h.fnT _⟩) rfl) as_nil)) as_stk)) (as_cons (as1_ret (ae_nemp h.toRd.c (ao_e (ae_var h.toRd.c rfl rfl rfl)))) as_nil))))))))))
theorem d_grouped {X : Cx} {p : Pt} {k : Nat} {cx : CX} (h : Cl tt g_grouped X p k cx) (w : Wk p.W) : AS X p cx (defBody (top 60)) b_grouped.body :=
  (as_cons (as1_set h.toRd.c (ae_call h.toRd fi_written (j := 54) rfl rfl rfl (aas_e (ae_var h.toRd.c rfl rfl rfl) aas_nil)) rfl (.inl rfl)) (as_cons (as1_ret (ae_ite (ab_two (Rd.inn h.toRd) (ao_e (ae_idx (Rd.idx h.toRd) (ao_e (ae_var h.toRd.c rfl rfl rfl)) (ao_e ae_int) (fun _ _ => rfl))) (ao_e (ae_var h.toRd.c rfl rfl rfl)) rfl) (ae_bin opP_add (ao_e (ae_bin opP_add (ao_e (ae_str rfl)) (ao_e (ae_var h.toRd.c rfl rfl rfl)))) (ao_e (ae_str rfl))) (ae_var h.toRd.c rfl rfl rfl))) as_nil))
theorem d_written {X : Cx} {p : Pt} {k : Nat} {cx : CX} (h : Cl tt g_written X p k cx) (w : Wk p.W) : AS X p cx (defBody (top 61)) b_written.body :=
  (as_cons (as1_if (ab_two (Rd.eq h.toRd) (ao_e (ae_idx (Rd.idx h.toRd) (ao_e (ae_var h.toRd.c rfl rfl rfl)) (ao_e ae_int) (fun _ _ => rfl))) (ao_e (ae_str rfl)) rfl) (as_cons (as1_ret (ae_ite (ab_two (Rd.eq h.toRd) (ao_e (ae_bi h.toRd.c (Rd.len h.toRd) (i := 72) rfl rfl rfl rfl (ap1_cons (ao_e (ae_idx (Rd.idx h.toRd) (ao_e (ae_var h.toRd.c rfl rfl rfl)) (ao_e ae_int) (fun _ _ => rfl))) ap1_nil))) (ao_e ae_int) rfl) (ae_idx (Rd.idx h.toRd) (ao_e (ae_var h.toRd.c rfl rfl rfl)) (ao_e ae_int) (fun _ _ => rfl)) (ae_bin opP_add (ao_e (ae_bin opP_add (ao_e (ae_str rfl)) (ao_e (ae_idx (Rd.idx h.toRd) (ao_e (ae_var h.toRd.c rfl rfl rfl)) (ao_e ae_int) (fun _ _ => rfl))))) (ao_e (ae_str rfl))))) as_nil) as_nil) (as_cons (as1_if (ab_two (Rd.eq h.toRd) (ao_e (ae_idx (Rd.idx h.toRd) (ao_e (ae_var h.toRd.c rfl rfl rfl)) (ao_e ae_int) (fun _ _ => rfl))) (ao_e (ae_str rfl)) rfl) as_stk as_nil) (as_cons (as1_if (ab_two (Rd.eq h.toRd) (ao_e (ae_idx (Rd.idx h.toRd) (ao_e (ae_var h.toRd.c rfl rfl rfl)) (ao_e ae_int) (fun _ _ => rfl))) (ao_e (ae_str rfl)) rfl) as_stk as_nil) (as_cons (as1_ret (ae_bin opP_add (ao_e (ae_call h.toRd fi_grouped (j := 53) rfl rfl rfl (aas_e (ae_idx (Rd.idx h.toRd) (ao_e (ae_var h.toRd.c rfl rfl rfl)) (ao_e ae_int) (fun _ _ => rfl)) (aas_e (ae_tup (ads_cons (ae_str rfl) (ads_cons (ae_str rfl) (ads_cons (ae_str rfl) ads_nil)))) aas_nil)))) (ao_e (ae_ite (ab_two (Rd.eq h.toRd) (ao_e (ae_idx (Rd.idx h.toRd) (ao_e (ae_var h.toRd.c rfl rfl rfl)) (ao_e ae_int) (fun _ _ => rfl))) (ao_e (ae_str rfl)) rfl) (ae_str rfl) (ae_str rfl))))) as_nil))))
theorem d_Reader_init {X : Cx} {p : Pt} {k : Nat} {cx : CX} (h : Cl tt g_Reader_init X p k cx) (w : Wk p.W) : AS X p cx (defBody (inClass (top 62) 0)) b_Reader_init.body :=
  (as_cons (as1_fld h.toRd.c w.c27 (j := 0) rfl (ae_var h.toRd.c rfl rfl rfl) rfl rfl rfl) (as_cons (as1_fld h.toRd.c w.c27 (j := 1) rfl ae_int rfl rfl rfl) as_nil))
theorem d_Reader_peek {X : Cx} {p : Pt} {k : Nat} {cx : CX} (h : Cl tt g_Reader_peek X p k cx) (w : Wk p.W) : AS X p cx (defBody (inClass (top 62) 1)) b_Reader_peek.body :=
  (as_cons (as1_ret (ae_sl11 (ao_e (ae_attrV h.toRd.c w.c27 (j := 0) rfl rfl rfl rfl)) (ao_e (ae_attrV h.toRd.c w.c27 (j := 1) rfl rfl rfl rfl)) (ao_e (ae_bin opP_add (ao_e (ae_attrV h.toRd.c w.c27 (j := 1) rfl rfl rfl rfl)) (ao_e ae_int))))) as_nil)
theorem d_Reader_take {X : Cx} {p : Pt} {k : Nat} {cx : CX} (h : Cl tt g_Reader_take X p k cx) (w : Wk p.W) : AS X p cx (defBody (inClass (top 62) 2)) b_Reader_take.body :=
  (as_cons (as1_set h.toRd.c (ae_methV0 h.toRd fi_Reader_peek w.m_Reader_peek rfl rfl rfl) rfl (.inl rfl)) (as_cons (as1_fld h.toRd.c w.c27 (j := 1) rfl (ae_bin opP_add (ao_e (ae_attrV h.toRd.c w.c27 (j := 1) rfl rfl rfl rfl)) (ao_e ae_int)) rfl rfl rfl) (as_cons (as1_ret (ae_var h.toRd.c rfl rfl rfl)) as_nil)))
theorem d_Reader_sequence {X : Cx} {p : Pt} {k : Nat} {cx : CX} (h : Cl tt g_Reader_sequence X p k cx) (w : Wk p.W) : AS X p cx (defBody (inClass (top 62) 3)) b_Reader_sequence.body :=
  (as_cons (as1_set h.toRd.c (ae_lst ads_nil) rfl (.inl rfl)) (as_cons (as1_while h.po (aw_ab (aw_and (ab_two (Rd.ne h.toRd) (ao_e (ae_methV0 h.toRd fi_Reader_peek w.m_Reader_peek rfl rfl rfl)) (ao_e (ae_str rfl)) rfl) (aw_and1 (ab_two (Rd.nin h.toRd) (ao_e (ae_methV0 h.toRd fi_Reader_peek w.m_Reader_peek rfl rfl rfl)) (ao_e (ae_str rfl)) rfl)))) (as_cons (as1_appV h.toRd.c (ae_methV0 h.toRd fi_Reader_repeated w.m_Reader_repeated rfl rfl rfl) rfl rfl rfl) as_nil)) (as_cons (as1_if (ab_emp h.toRd.c (ao_v h.toRd.c rfl rfl rfl)) (as_cons (as1_rais h.toRd.c w.x8 (i := 8) rfl rfl rfl) as_nil) as_nil) (as_cons (as1_ret (ae_ite (ab_two (Rd.eq h.toRd) (ao_e (ae_bi h.toRd.c (Rd.len h.toRd) (i := 72) rfl rfl rfl rfl (ap1_cons (ao_v h.toRd.c rfl rfl rfl) ap1_nil))) (ao_e ae_int) rfl) (ae_idx (Rd.idx h.toRd) (ao_v h.toRd.c rfl rfl rfl) (ao_e ae_int) (fun _ _ => rfl)) (ae_tup (ads_cons (ae_str rfl) (ads_cons (ae_ty h.toRd.c callP_tuple (i := 81) rfl rfl rfl rfl (ap1_cons (ao_v h.toRd.c rfl rfl rfl) ap1_nil)) ads_nil))))) as_nil))))
theorem d_Reader_repeated {X : Cx} {p : Pt} {k : Nat} {cx : CX} (h : Cl tt g_Reader_repeated X p k cx) (w : Wk p.W) : AS X p cx (defBody (inClass (top 62) 4)) b_Reader_repeated.body :=
  (as_cons (as1_set h.toRd.c (ae_methV0 h.toRd fi_Reader_atom w.m_Reader_atom rfl rfl rfl) rfl (.inl rfl)) (as_cons (as1_while h.po (aw_ab (aw_and (ab_two (Rd.ne h.toRd) (ao_e (ae_methV0 h.toRd fi_Reader_peek w.m_Reader_peek rfl rfl rfl)) (ao_e (ae_str rfl)) rfl) (aw_and1 (ab_two (Rd.inn h.toRd) (ao_e (ae_methV0 h.toRd fi_Reader_peek w.m_Reader_peek rfl rfl rfl)) (ao_e (ae_str rfl)) rfl)))) (as_cons (as1_set h.toRd.c (ae_tup (ads_cons (ae_ite (ab_two (Rd.eq h.toRd) (ao_e (ae_methV0 h.toRd fi_Reader_take w.m_Reader_take rfl rfl rfl)) (ao_e (ae_str rfl)) rfl) (ae_str rfl) (ae_str rfl)) (ads_cons (ae_var h.toRd.c rfl rfl rfl) ads_nil))) rfl (.inl rfl)) as_nil)) (as_cons (as1_ret (ae_var h.toRd.c rfl rfl rfl)) as_nil)))
theorem d_Reader_atom {X : Cx} {p : Pt} {k : Nat} {cx : CX} (h : Cl tt g_Reader_atom X p k cx) (w : Wk p.W) : AS X p cx (defBody (inClass (top 62) 5)) b_Reader_atom.body :=
  (as_cons (as1_set h.toRd.c (ae_methV0 h.toRd fi_Reader_take w.m_Reader_take rfl rfl rfl) rfl (.inl rfl)) (as_cons (as1_if (aw_ab (aw_and (ab_two (Rd.ne h.toRd) (ao_e (ae_var h.toRd.c rfl rfl rfl)) (ao_e (ae_str rfl)) rfl) (aw_and1 (ab_two (Rd.inn h.toRd) (ao_e (ae_var h.toRd.c rfl rfl rfl)) (ao_e (ae_glb h.toRd.c (i := 11) rfl rfl rfl fun G => .str _)) rfl)))) (as_cons (as1_ret (ae_tup (ads_cons (ae_str rfl) (ads_cons (ae_var h.toRd.c rfl rfl rfl) ads_nil)))) as_nil) as_nil) (as_cons (as1_if (ab_two (Rd.eq h.toRd) (ao_e (ae_var h.toRd.c rfl rfl rfl)) (ao_e (ae_str rfl)) rfl) (as_cons (as1_set h.toRd.c (ae_str rfl) rfl (.inl rfl)) (as_cons (as1_while h.po (aw_ab (aw_and (ab_two (Rd.ne h.toRd) (ao_e (ae_methV0 h.toRd fi_Reader_peek w.m_Reader_peek rfl rfl rfl)) (ao_e (ae_str rfl)) rfl) (aw_and1 (ab_two (Rd.inn h.toRd) (ao_e (ae_methV0 h.toRd fi_Reader_peek w.m_Reader_peek rfl rfl rfl)) (ao_e (ae_glb h.toRd.c (i := 11) rfl rfl rfl fun G => .str _)) rfl)))) (as_cons (as1_set h.toRd.c (ae_bin opP_add (ao_e (ae_var h.toRd.c rfl rfl rfl)) (ao_e (ae_methV0 h.toRd fi_Reader_take w.m_Reader_take rfl rfl rfl))) rfl (.inl rfl)) as_nil)) (as_cons (as1_if (ab_two (Rd.ne h.toRd) (ao_e (ae_methV0 h.toRd fi_Reader_take w.m_Reader_take rfl rfl rfl)) (ao_e (ae_str rfl)) rfl) (as_cons (as1_rais h.toRd.c w.x8 (i := 8) rfl rfl rfl) as_nil) as_nil) (as_cons (as1_ret (ae_tup (ads_cons (ae_str rfl) (ads_cons (ae_var h.toRd.c rfl rfl rfl) ads_nil)))) as_nil)))) as_nil) (as_cons (as1_if (ab_two (Rd.ne h.toRd) (ao_e (ae_var h.toRd.c rfl rfl rfl)) (ao_e (ae_str rfl)) rfl) (as_cons (as1_rais h.toRd.c w.x8 (i := 8) rfl rfl rfl) as_nil) as_nil) (as_cons (as1_set h.toRd.c (ae_lst (ads_cons (ae_methV0 h.toRd fi_Reader_sequence w.m_Reader_sequence rfl rfl rfl) ads_nil)) rfl (.inl rfl)) (as_cons (as1_while h.po (ab_two (Rd.eq h.toRd) (ao_e (ae_methV0 h.toRd fi_Reader_peek w.m_Reader_peek rfl rfl rfl)) (ao_e (ae_str rfl)) rfl) (as_cons (as1_exp (ae_methV0 h.toRd fi_Reader_take w.m_Reader_take rfl rfl rfl)) (as_cons (as1_appV h.toRd.c (ae_methV0 h.toRd fi_Reader_sequence w.m_Reader_sequence rfl rfl rfl) rfl rfl rfl) as_nil))) (as_cons (as1_if (ab_two (Rd.ne h.toRd) (ao_e (ae_methV0 h.toRd fi_Reader_take w.m_Reader_take rfl rfl rfl)) (ao_e (ae_str rfl)) rfl) (as_cons (as1_rais h.toRd.c w.x8 (i := 8) rfl rfl rfl) as_nil) as_nil) (as_cons (as1_ret (ae_ite (ab_two (Rd.eq h.toRd) (ao_e (ae_bi h.toRd.c (Rd.len h.toRd) (i := 72) rfl rfl rfl rfl (ap1_cons (ao_v h.toRd.c rfl rfl rfl) ap1_nil))) (ao_e ae_int) rfl) (ae_idx (Rd.idx h.toRd) (ao_v h.toRd.c rfl rfl rfl) (ao_e ae_int) (fun _ _ => rfl)) (ae_tup (ads_cons (ae_str rfl) (ads_cons (ae_ty h.toRd.c callP_tuple (i := 81) rfl rfl rfl rfl (ap1_cons (ao_v h.toRd.c rfl rfl rfl) ap1_nil)) ads_nil))))) as_nil))))))))
theorem d_parse {X : Cx} {p : Pt} {k : Nat} {cx : CX} (h : Cl tt g_parse X p k cx) (w : Wk p.W) : AS X p cx (defBody (top 63)) b_parse.body :=
  (as_cons (as1_if (aw_ab (aw_or (ab_not (ab_val (ae_isi h.toRd.c rfl (i := 71) rfl rfl rfl rfl (ao_e (ae_var h.toRd.c rfl rfl rfl)) (pe_tyB h.toRd.c (i := 79) rfl rfl rfl rfl)))) (aw_or1 (ab_two opP_gt (ao_e (ae_bi h.toRd.c (Rd.len h.toRd) (i := 72) rfl rfl rfl rfl (ap1_cons (ao_e (ae_var h.toRd.c rfl rfl rfl)) ap1_nil))) (ao_e ae_int) rfl)))) (as_cons (as1_rais h.toRd.c w.x8 (i := 8) rfl rfl rfl) as_nil) as_nil) (as_cons (as1_set h.toRd.c (ae_make h.toRd fi_Reader_init w.mk27 (j := 55) rfl rfl rfl (aas_e (ae_var h.toRd.c rfl rfl rfl) aas_nil)) rfl (.inl rfl)) (as_cons (as1_set h.toRd.c (ae_methV0 h.toRd fi_Reader_sequence w.m_Reader_sequence rfl rfl rfl) rfl (.inl rfl)) (as_cons (as1_if (aw_ab (aw_or (ab_two (Rd.ne h.toRd) (ao_e (ae_methV0 h.toRd fi_Reader_peek w.m_Reader_peek rfl rfl rfl)) (ao_e (ae_str rfl)) rfl) (aw_or (ab_not (ab_val (ae_call h.toRd fi_is_pattern (j := 23) rfl rfl rfl (aas_e (ae_var h.toRd.c rfl rfl rfl) aas_nil)))) (aw_or1 (ab_two (Rd.ne h.toRd) (ao_e (ae_call h.toRd fi_written (j := 54) rfl rfl rfl (aas_e (ae_var h.toRd.c rfl rfl rfl) aas_nil))) (ao_e (ae_var h.toRd.c rfl rfl rfl)) rfl))))) (as_cons (as1_rais h.toRd.c w.x8 (i := 8) rfl rfl rfl) as_nil) as_nil) (as_cons (as1_ret (ae_var h.toRd.c rfl rfl rfl)) as_nil)))))
theorem d_Suite_init {X : Cx} {p : Pt} {k : Nat} {cx : CX} (h : Cl tt g_Suite_init X p k cx) (w : Wk p.W) : AS X p cx (defBody (inClass (top 66) 0)) b_Suite_init.body :=
  (as_cons (as1_exp (ae_call h.toRd fi_check_pattern (j := 24) rfl rfl rfl (aas_e (ae_var h.toRd.c rfl rfl rfl) aas_nil))) (as_cons (as1_if (ab_not (ab_val (ae_call h.toRd fi_is_integer (j := 15) rfl rfl rfl (aas_e (ae_var h.toRd.c rfl rfl rfl) (aas_e ae_int (aas_e (ae_glb h.toRd.c (i := 57) rfl rfl rfl fun G => .int _) aas_nil)))))) (as_cons (as1_rais h.toRd.c w.x7 (i := 7) rfl rfl rfl) as_nil) as_nil) (as_cons (as1_fld h.toRd.c w.c26 (j := 0) rfl (ae_var h.toRd.c rfl rfl rfl) rfl rfl rfl) (as_cons (as1_fld h.toRd.c w.c26 (j := 1) rfl (ae_var h.toRd.c rfl rfl rfl) rfl rfl rfl) (as_cons (as1_fld h.toRd.c w.c26 (j := 2) rfl (ae_lst ads_nil) rfl rfl rfl) (as_cons (as1_fld h.toRd.c w.c26 (j := 3) rfl (ae_lst ads_nil) rfl rfl rfl) as_nil))))))
theorem d_Suite_undo {X : Cx} {p : Pt} {k : Nat} {cx : CX} (h : Cl tt g_Suite_undo X p k cx) (w : Wk p.W) : AS X p cx (defBody (inClass (top 66) 8)) b_Suite_undo.body :=
  (as_cons (as1_if (ab_empF h.toRd.c w.c26 (j := 3) rfl rfl rfl rfl) (as_cons (as1_rais h.toRd.c w.x10 (i := 10) rfl rfl rfl) as_nil) as_nil) as_stk)
theorem d_l_cell {X : Cx} {p : Pt} {k : Nat} {cx : CX} (h : Cl tt g_l_cell X p k cx) (w : Wk p.W) : AS X p cx (defBody (top 68)) b_l_cell.body :=
  (as_cons (as1_if (ab_emp h.toRd.c (ao_e (ae_var h.toRd.c rfl rfl rfl))) (as_cons (as1_ret (ae_bin opP_mul (ao_e (ae_var h.toRd.c rfl rfl rfl)) (ao_e ae_int))) as_nil) as_nil) (as_cons (as1_ret (ae_bin opP_add (ao_e (ae_idx (Rd.idx h.toRd) (ao_e (ae_var h.toRd.c rfl rfl rfl)) (ao_e (ae_bin opP_mod (ao_e (ae_var h.toRd.c rfl rfl rfl)) (ao_e (ae_bi h.toRd.c (Rd.len h.toRd) (i := 72) rfl rfl rfl rfl (ap1_cons (ao_e (ae_var h.toRd.c rfl rfl rfl)) ap1_nil))))) (fun _ _ => rfl))) (ao_e (ae_bin opP_mul (ao_e (ae_bin opP_fdiv (ao_e (ae_var h.toRd.c rfl rfl rfl)) (ao_e (ae_bi h.toRd.c (Rd.len h.toRd) (i := 72) rfl rfl rfl rfl (ap1_cons (ao_e (ae_var h.toRd.c rfl rfl rfl)) ap1_nil))))) (ao_e ae_int))))) as_nil))
theorem d_l_drawn {X : Cx} {p : Pt} {k : Nat} {cx : CX} (h : Cl tt g_l_drawn X p k cx) (w : Wk p.W) : AS X p cx (defBody (top 69)) b_l_drawn.body :=
  (as_cons (as1_set h.toRd.c (ae_bin opP_mod (ao_e (ae_bin opP_add (ao_e (ae_bin opP_mul (ao_e (ae_var h.toRd.c rfl rfl rfl)) (ao_e ae_int))) (ao_e (ae_bin opP_mul (ao_e (ae_bin opP_add (ao_e (ae_var h.toRd.c rfl rfl rfl)) (ao_e ae_int))) (ao_e ae_int))))) (ao_e ae_int)) rfl (.inl rfl)) (as_cons (as1_set h.toRd.c (ae_bin opP_mod (ao_e (ae_bin opP_mul (ao_e (ae_var h.toRd.c rfl rfl rfl)) (ao_e (ae_var h.toRd.c rfl rfl rfl)))) (ao_e ae_int)) rfl (.inl rfl)) (as_cons (as1_set h.toRd.c (ae_bin opP_mul (ao_e (ae_bin opP_mul (ao_e (ae_bin opP_add (ao_e (ae_bin opP_mod (ao_e (ae_var h.toRd.c rfl rfl rfl)) (ao_e ae_int))) (ao_e ae_int))) (ao_e (ae_bin opP_add (ao_e (ae_bin opP_fdiv (ao_e (ae_var h.toRd.c rfl rfl rfl)) (ao_e ae_int))) (ao_e ae_int))))) (ao_e (ae_var h.toRd.c rfl rfl rfl))) rfl (.inl rfl)) (as_cons (as1_ret (ae_bin opP_mod (ao_e (ae_var h.toRd.c rfl rfl rfl)) (ao_e ae_int))) as_nil))))
theorem d_l_roll {X : Cx} {p : Pt} {k : Nat} {cx : CX} (h : Cl tt g_l_roll X p k cx) (w : Wk p.W) : AS X p cx (defBody (top 70)) b_l_roll.body :=
  (as_cons (as1_if (ab_two opP_ge (ao_e (ae_idx (Rd.idx h.toRd) (ao_v h.toRd.c rfl rfl rfl) (ao_e ae_int) (fun _ _ => rfl))) (ao_e (ae_bin opP_pow (ao_e ae_int) (ao_e ae_int))) rfl) (as_cons (as1_set h.toRd.c (ae_bin opP_mod (ao_e (ae_idx (Rd.idx h.toRd) (ao_v h.toRd.c rfl rfl rfl) (ao_e ae_int) (fun _ _ => rfl))) (ao_e (ae_var h.toRd.c rfl rfl rfl))) rfl (.inl rfl)) (as_cons (as1_subV h.toRd.c (ae_bin opP_fdiv (ao_e (ae_idx (Rd.idx h.toRd) (ao_v h.toRd.c rfl rfl rfl) (ao_e ae_int) (fun _ _ => rfl))) (ao_e (ae_var h.toRd.c rfl rfl rfl))) ae_int rfl rfl rfl) (as_cons (as1_ret (ae_var h.toRd.c rfl rfl rfl)) as_nil))) as_nil) (as_cons (as1_subV h.toRd.c (ae_bin opP_add (ao_e (ae_idx (Rd.idx h.toRd) (ao_v h.toRd.c rfl rfl rfl) (ao_e ae_int) (fun _ _ => rfl))) (ao_e ae_int)) ae_int rfl rfl rfl) (as_cons (as1_ret (ae_bin opP_mod (ao_e (ae_bin opP_fdiv (ao_e (ae_call h.toRd fi_l_drawn (j := 60) rfl rfl rfl (aas_e (ae_idx (Rd.idx h.toRd) (ao_v h.toRd.c rfl rfl rfl) (ao_e ae_int) (fun _ _ => rfl)) (aas_e (ae_idx (Rd.idx h.toRd) (ao_v h.toRd.c rfl rfl rfl) (ao_e ae_int) (fun _ _ => rfl)) aas_nil)))) (ao_e ae_int))) (ao_e (ae_var h.toRd.c rfl rfl rfl)))) as_nil)))
theorem d_l_rounds {X : Cx} {p : Pt} {k : Nat} {cx : CX} (h : Cl tt g_l_rounds X p k cx) (w : Wk p.W) : AS X p cx (defBody (top 71)) b_l_rounds.body :=
  (as_cons (as1_ret (ae_lc h.toRd.c (own := [("_law_k", 2)]) (ai_range1 h.toRd.c (i := 76) rfl rfl (ads_cons (ae_bi h.toRd.c (callP_max2 h.toRd.c.calm) (i := 74) rfl rfl rfl rfl (ap1_cons (ao_e ae_int) (ap1_cons (ao_e (ae_bi h.toRd.c (callP_min2 h.toRd.c.calm) (i := 75) rfl rfl rfl rfl (ap1_cons (ao_e (ae_var h.toRd.c rfl rfl rfl)) (ap1_cons (ao_e (ae_bi h.toRd.c (Rd.len h.toRd) (i := 72) rfl rfl rfl rfl (ap1_cons (ao_e (ae_var h.toRd.c rfl rfl rfl)) ap1_nil))) ap1_nil)))) ap1_nil))) ads_nil)) rfl rfl (inB h.toRd fun X' h65 => (ag_nm h65.c rfl (.inl rfl))) (inB h.toRd fun X' h' => aif_no) (inB h.toRd fun X' h66 => (ae_lst (ads_cons (ae_call h66 fi_l_cell (j := 59) rfl rfl rfl (aas_e (ae_var h66.c rfl rfl rfl) (aas_e (ae_var h66.c rfl rfl rfl) aas_nil))) (ads_cons ae_int ads_nil)))))) as_nil)
theorem d_l_met {X : Cx} {p : Pt} {k : Nat} {cx : CX} (h : Cl tt g_l_met X p k cx) (w : Wk p.W) : AS X p cx (defBody (top 72)) b_l_met.body :=
  (as_cons (as1_try h.toRd.c w.xs w.x0 h.stk h.frm h.exE (i := 0) rfl rfl rfl rfl rfl (fun W pn xe tk po => have h67 := Cl.tr h tk po; (as_cons (as1_exp (ae_ccall0 h67 hT rfl rfl rfl)) as_nil)) (fun a pn => as_cons (as1_ret (ae_varN (by rw [show (X.suite a pn).N = X.N from rfl, h.toRd.c.N]; rfl) (by rw [show (X.suite a pn).env = X.env from rfl, h.toRd.c.sc]; exact vis_of rfl) (by rw [show (p.wx fun _ _ _ _ => False).n = p.n from rfl, h.toRd.c.n]; decide) rfl)) as_nil)) (as_cons (as1_ret ae_non) as_nil))
theorem d_l_alone {X : Cx} {p : Pt} {k : Nat} {cx : CX} (h : Cl tt g_l_alone X p k cx) (w : Wk p.W) : AS X p cx (defBody (top 73)) b_l_alone.body :=
  (as_cons (as1_set h.toRd.c (ae_lst (ads_cons (ae_isi h.toRd.c rfl (i := 71) rfl rfl rfl rfl (ao_e (ae_var h.toRd.c rfl rfl rfl)) (pe_exB h.toRd.c (i := 1) rfl rfl rfl)) (ads_cons (ae_isi h.toRd.c rfl (i := 71) rfl rfl rfl rfl (ao_e (ae_var h.toRd.c rfl rfl rfl)) (pe_exB h.toRd.c (i := 2) rfl rfl rfl)) (ads_cons (ae_isi h.toRd.c rfl (i := 71) rfl rfl rfl rfl (ao_e (ae_var h.toRd.c rfl rfl rfl)) (pe_exB h.toRd.c (i := 3) rfl rfl rfl)) ads_nil)))) rfl (.inl rfl)) (as_cons (as1_set h.toRd.c (ae_bin opP_add (ao_e (ae_var h.toRd.c rfl rfl rfl)) (ao_e (ae_lst (ads_cons (ae_isi h.toRd.c rfl (i := 71) rfl rfl rfl rfl (ao_e (ae_var h.toRd.c rfl rfl rfl)) (pe_exB h.toRd.c (i := 4) rfl rfl rfl)) ads_nil)))) rfl (.inl rfl)) (as_cons (as1_set h.toRd.c (ae_bin opP_add (ao_e (ae_var h.toRd.c rfl rfl rfl)) (ao_e (ae_lst (ads_cons (ae_isi h.toRd.c rfl (i := 71) rfl rfl rfl rfl (ao_e (ae_var h.toRd.c rfl rfl rfl)) (pe_exB h.toRd.c (i := 5) rfl rfl rfl)) (ads_cons (ae_isi h.toRd.c rfl (i := 71) rfl rfl rfl rfl (ao_e (ae_var h.toRd.c rfl rfl rfl)) (pe_exB h.toRd.c (i := 6) rfl rfl rfl)) (ads_cons (ae_isi h.toRd.c rfl (i := 71) rfl rfl rfl rfl (ao_e (ae_var h.toRd.c rfl rfl rfl)) (pe_exB h.toRd.c (i := 7) rfl rfl rfl)) ads_nil)))))) rfl (.inl rfl)) (as_cons (as1_set h.toRd.c (ae_bin opP_add (ao_e (ae_var h.toRd.c rfl rfl rfl)) (ao_e (ae_lst (ads_cons (ae_isi h.toRd.c rfl (i := 71) rfl rfl rfl rfl (ao_e (ae_var h.toRd.c rfl rfl rfl)) (pe_exB h.toRd.c (i := 8) rfl rfl rfl)) (ads_cons (ae_isi h.toRd.c rfl (i := 71) rfl rfl rfl rfl (ao_e (ae_var h.toRd.c rfl rfl rfl)) (pe_exB h.toRd.c (i := 9) rfl rfl rfl)) (ads_cons (ae_isi h.toRd.c rfl (i := 71) rfl rfl rfl rfl (ao_e (ae_var h.toRd.c rfl rfl rfl)) (pe_exB h.toRd.c (i := 10) rfl rfl rfl)) ads_nil)))))) rfl (.inl rfl)) (as_cons (as1_ret (ae_and (ae_isi h.toRd.c rfl (i := 71) rfl rfl rfl rfl (ao_e (ae_var h.toRd.c rfl rfl rfl)) (pe_tyB h.toRd.c (i := 65) rfl rfl rfl rfl)) (ae_bool1 (ae_cmp (Rd.eq h.toRd) (ao_e (ae_var h.toRd.c rfl rfl rfl)) (ao_e (ae_lc h.toRd.c (own := [("_law_at", 3)]) (ai_range1 h.toRd.c (i := 76) rfl rfl (ads_cons ae_int ads_nil)) rfl rfl (inB h.toRd fun X' h68 => (ag_nm h68.c rfl (.inl rfl))) (inB h.toRd fun X' h' => aif_no) (inB h.toRd fun X' h69 => (ae_cmp (Rd.eq h69) (ao_e (ae_var h69.c rfl rfl rfl)) (ao_e (ae_var h69.c rfl rfl rfl)) rfl)))) rfl)))) as_nil)))))
theorem d_law {X : Cx} {p : Pt} {k : Nat} {cx : CX} (h : Cl tt g_law X p k cx) (w : Wk p.W) (mk : Mkr X p) : AS X p cx (forBody ((defBody (top 74)).getD 0 (.Pass ⟨0, 0, 0, 0⟩))) b_law.body :=
  (as_cons (as1_unpD h.toRd.c (ae_tup (ads_cons (ae_bin opP_add (ao_e ae_int) (ao_e (ae_call h.toRd fi_l_roll (j := 61) rfl rfl rfl (aas_bw h.toRd.c rfl rfl rfl (aas_e ae_int aas_nil))))) (ads_cons (ae_tup (ads_cons (ae_str rfl) (ads_cons (ae_str rfl) ads_nil))) ads_nil))) (ag_tup h.toRd.c (ags_cons (ag_nm h.toRd.c rfl (.inr ⟨rfl, h.fnT _⟩)) (ags_cons (ag_nm h.toRd.c rfl (.inr ⟨rfl, h.fnT _⟩)) ags_nil))) rfl rfl) (as_cons (as1_set h.toRd.c (ae_tup (ads_cons (ae_str rfl) (ads_cons (ae_tup (ads_cons (ae_str rfl) (ads_cons (ae_tup (ads_cons (ae_var h.toRd.c rfl rfl rfl) (ads_cons (ae_var h.toRd.c rfl rfl rfl) ads_nil))) ads_nil))) ads_nil))) rfl (.inr ⟨rfl, h.fnT _⟩)) (as_cons (as1_set h.toRd.c (ae_lst (ads_cons (ae_callL h fi_l_met (j := 63) rfl rfl rfl (aal_tail (pat_lam mk (lamD0 h.toRd.c  rfl (fun _ _ _ _ _ => rfl) rfl (fun X' p' k' cx' h1 e' => have w : Wk p'.W := e' ▸ w; (ae_call h1 fi_growth (j := 30) rfl rfl rfl (aas_e (ae_tup (ads_cons (ae_str rfl) (ads_cons (ae_bin opP_mul (ao_e (ae_str rfl)) (ao_e (ae_bin opP_add (ao_e ae_int) (ao_e (ae_var h1.c rfl rfl rfl))))) ads_nil))) aas_nil)))) pat_nil)) rfl) ads_nil)) rfl (.inl rfl)) (as_cons (as1_appV h.toRd.c (ae_callL h fi_l_met (j := 63) rfl rfl rfl (aal_tail (pat_lam mk (lamD0 h.toRd.c  rfl (fun _ _ _ _ _ => rfl) rfl (fun X' p' k' cx' h2 e' => have w : Wk p'.W := e' ▸ w; (ae_call h2 fi_steps (j := 40) rfl rfl rfl (aas_e (ae_var h2.c rfl rfl rfl) (aas_e (ae_bin opP_mul (ao_e (ae_str rfl)) (ao_e (ae_var h2.c rfl rfl rfl))) aas_nil))))) pat_nil)) rfl) rfl rfl rfl) (as_cons (as1_appV h.toRd.c (ae_callL h fi_l_met (j := 63) rfl rfl rfl (aal_tail (pat_lam mk (lamD0 h.toRd.c  rfl (fun _ _ _ _ _ => rfl) rfl (fun X' p' k' cx' h3 e' => have w : Wk p'.W := e' ▸ w; (ae_call h3 fi_paths_to (j := 45) rfl rfl rfl (aas_e (ae_var h3.c rfl rfl rfl) (aas_e (ae_bin opP_mul (ao_e (ae_str rfl)) (ao_e (ae_var h3.c rfl rfl rfl))) aas_nil))))) pat_nil)) rfl) rfl rfl rfl) (as_cons (as1_appV h.toRd.c (ae_callL h fi_l_met (j := 63) rfl rfl rfl (aal_tail (pat_lam mk (lamD0 h.toRd.c  rfl (fun _ _ _ _ _ => rfl) rfl (fun X' p' k' cx' h4 e' => have w : Wk p'.W := e' ▸ w; (ae_call h4 fi_follow_list (j := 27) rfl rfl rfl (aas_e (ae_var h4.c rfl rfl rfl) (aas_e (ae_var h4.c rfl rfl rfl) aas_nil))))) pat_nil)) rfl) rfl rfl rfl) (as_cons (as1_appV h.toRd.c (ae_callL h fi_l_met (j := 63) rfl rfl rfl (aal_tail (pat_lam mk (lamD0 h.toRd.c  rfl (fun _ _ _ _ _ => rfl) rfl (fun X' p' k' cx' h5 e' => have w : Wk p'.W := e' ▸ w; (ae_call h5 fi_worst (j := 47) rfl rfl rfl (aas_e (ae_var h5.c rfl rfl rfl) (aas_e (ae_bin opP_add (ao_e ae_int) (ao_e (ae_var h5.c rfl rfl rfl))) aas_nil))))) pat_nil)) rfl) rfl rfl rfl) (as_cons (as1_appV h.toRd.c (ae_callL h fi_l_met (j := 63) rfl rfl rfl (aal_tail (pat_lam mk (lamD0 h.toRd.c  rfl (fun _ _ _ _ _ => rfl) rfl (fun X' p' k' cx' h6 e' => have w : Wk p'.W := e' ▸ w; (ae_call h6 fi_is_ladder (j := 52) rfl rfl rfl (aas_e (ae_var h6.c rfl rfl rfl) (aas_e (ae_bin opP_add (ao_e ae_int) (ao_e (ae_var h6.c rfl rfl rfl))) (aas_e ae_non aas_nil)))))) pat_nil)) rfl) rfl rfl rfl) (as_cons (as1_appV h.toRd.c (ae_callL h fi_l_met (j := 63) rfl rfl rfl (aal_tail (pat_lam mk (lamD0 h.toRd.c  rfl (fun _ _ _ _ _ => rfl) rfl (fun X' p' k' cx' h7 e' => have w : Wk p'.W := e' ▸ w; (ae_make h7 fi_Suite_init w.mk26 (j := 58) rfl rfl rfl (aas_e (ae_var h7.c rfl rfl rfl) (aas_e (ae_bin opP_add (ao_e ae_int) (ao_e (ae_var h7.c rfl rfl rfl))) aas_nil))))) pat_nil)) rfl) rfl rfl rfl) (as_cons (as1_appV h.toRd.c (ae_callL h fi_l_met (j := 63) rfl rfl rfl (aal_tail (pat_lam mk (lamD0 h.toRd.c  rfl (fun _ _ _ _ _ => rfl) rfl (fun X' p' k' cx' h8 e' => have w : Wk p'.W := e' ▸ w; (ae_call h8 fi_parse (j := 56) rfl rfl rfl (aas_e (ae_bin opP_mul (ao_e (ae_str rfl)) (ao_e (ae_var h8.c rfl rfl rfl))) aas_nil)))) pat_nil)) rfl) rfl rfl rfl) (as_cons (as1_appV h.toRd.c (ae_callL h fi_l_met (j := 63) rfl rfl rfl (aal_tail (pat_lam mk (lamD0 h.toRd.c  rfl (fun _ _ _ _ _ => rfl) rfl (fun X' p' k' cx' h9 e' => have w : Wk p'.W := e' ▸ w; (ae_call h9 fi_attempts (j := 42) rfl rfl rfl (aas_e (ae_var h9.c rfl rfl rfl) (aas_e (ae_bin opP_add (ao_e (ae_bin opP_mul (ao_e (ae_str rfl)) (ao_e (ae_bin opP_add (ao_e ae_int) (ao_e (ae_var h9.c rfl rfl rfl)))))) (ao_e (ae_str rfl))) aas_nil))))) pat_nil)) rfl) rfl rfl rfl) (as_cons (as1_appV h.toRd.c (ae_callL h fi_l_met (j := 63) rfl rfl rfl (aal_tail (pat_lam mk (lamD0 h.toRd.c  rfl (fun _ _ _ _ _ => rfl) rfl (fun X' p' k' cx' h10 e' => have w : Wk p'.W := e' ▸ w; (ae_methE0 h10 fi_Suite_undo w.m_Suite_undo (ae_make h10 fi_Suite_init w.mk26 (j := 58) rfl rfl rfl (aas_e (ae_var h10.c rfl rfl rfl) (aas_e (ae_var h10.c rfl rfl rfl) aas_nil)))))) pat_nil)) rfl) rfl rfl rfl) (as_cons (as1_if (ab_not (ab_val (ae_bi h.toRd.c (callP_all h.toRd.c.calm) (i := 66) rfl rfl rfl rfl (ap1_cons (ao_e (ae_lc h.toRd.c (own := [("_law_at", 6), ("_law_e", 7)]) (ai_enum h.toRd.c (i := 69) rfl rfl (ao_v h.toRd.c rfl rfl rfl)) rfl rfl (inB h.toRd fun X' h11 => (ag_tup h11.c (ags_cons (ag_nm h11.c rfl (.inl rfl)) (ags_cons (ag_nm h11.c rfl (.inl rfl)) ags_nil)))) (inB h.toRd fun X' h' => aif_no) (inB h.toRd fun X' h12 => (ae_call h12 fi_l_alone (j := 64) rfl rfl rfl (aas_e (ae_var h12.c rfl rfl rfl) (aas_e (ae_var h12.c rfl rfl rfl) aas_nil)))))) ap1_nil)))) (as_cons (as1_ret ae_bl) as_nil) as_nil) as_nil)))))))))))))
abbrev e_is_integer : He.DefD := ⟨("is_integer", none), "is_integer", "is_integer", defArgs (top 18), defBody (top 18), defScope (top 18), [], []⟩
abbrev e_is_letters : He.DefD := ⟨("is_letters", none), "is_letters", "is_letters", defArgs (top 19), defBody (top 19), defScope (top 19), [], []⟩
abbrev e_has_shape : He.DefD := ⟨("has_shape", none), "has_shape", "has_shape", defArgs (top 20), defBody (top 20), defScope (top 20), [], []⟩
abbrev e_items_of : He.DefD := ⟨("items_of", none), "items_of", "items_of", defArgs (top 21), defBody (top 21), defScope (top 21), [], []⟩
abbrev e_nullable : He.DefD := ⟨("nullable", none), "nullable", "nullable", defArgs (top 22), defBody (top 22), defScope (top 22), [], []⟩
abbrev e_all_sets : He.DefD := ⟨("all_sets", none), "all_sets", "all_sets", defArgs (top 23), defBody (top 23), defScope (top 23), [], []⟩
abbrev e_node_count : He.DefD := ⟨("node_count", none), "node_count", "node_count", defArgs (top 24), defBody (top 24), defScope (top 24), [], []⟩
abbrev e_stars_are_good : He.DefD := ⟨("stars_are_good", none), "stars_are_good", "stars_are_good", defArgs (top 25), defBody (top 25), defScope (top 25), [], []⟩
abbrev e_is_pattern : He.DefD := ⟨("is_pattern", none), "is_pattern", "is_pattern", defArgs (top 26), defBody (top 26), defScope (top 26), [], []⟩
abbrev e_check_pattern : He.DefD := ⟨("check_pattern", none), "check_pattern", "check_pattern", defArgs (top 27), defBody (top 27), defScope (top 27), [], []⟩
abbrev e_Machine_init : He.DefD := ⟨("Machine", some "__init__"), "__init__", "Machine.__init__", defArgs (inClass (top 28) 0), defBody (inClass (top 28) 0), defScope (inClass (top 28) 0), [], []⟩
abbrev e_Machine_choices : He.DefD := ⟨("Machine", some "choices"), "choices", "Machine.choices", defArgs (inClass (top 28) 1), defBody (inClass (top 28) 1), defScope (inClass (top 28) 1), [], []⟩
abbrev e_Machine_firsts : He.DefD := ⟨("Machine", some "firsts"), "firsts", "Machine.firsts", defArgs (inClass (top 28) 2), defBody (inClass (top 28) 2), defScope (inClass (top 28) 2), [], []⟩
abbrev e_Machine_assign : He.DefD := ⟨("Machine", some "assign"), "assign", "Machine.assign", defArgs (inClass (top 28) 3), defBody (inClass (top 28) 3), defScope (inClass (top 28) 3), [], []⟩
abbrev e_Machine_reached : He.DefD := ⟨("Machine", some "reached"), "reached", "Machine.reached", defArgs (inClass (top 28) 4), defBody (inClass (top 28) 4), defScope (inClass (top 28) 4), [], []⟩
abbrev e_check_position : He.DefD := ⟨("check_position", none), "check_position", "check_position", defArgs (top 29), defBody (top 29), defScope (top 29), [], []⟩
abbrev e_follow_list : He.DefD := ⟨("follow_list", none), "follow_list", "follow_list", defArgs (top 30), defBody (top 30), defScope (top 30), [], []⟩
abbrev e_search : He.DefD := ⟨("search", none), "search", "search", defArgs (top 32), defBody (top 32), defScope (top 32), [], []⟩
abbrev e_Graph_init : He.DefD := ⟨("Graph", some "__init__"), "__init__", "Graph.__init__", defArgs (inClass (top 33) 0), defBody (inClass (top 33) 0), defScope (inClass (top 33) 0), [], []⟩
abbrev e_Graph_word_between : He.DefD := ⟨("Graph", some "word_between"), "word_between", "Graph.word_between", defArgs (inClass (top 33) 1), defBody (inClass (top 33) 1), defScope (inClass (top 33) 1), [], []⟩
abbrev e_Graph_from_start : He.DefD := ⟨("Graph", some "from_start"), "from_start", "Graph.from_start", defArgs (inClass (top 33) 2), defBody (inClass (top 33) 2), defScope (inClass (top 33) 2), [], []⟩
abbrev e_Graph_twin_moves : He.DefD := ⟨("Graph", some "twin_moves"), "twin_moves", "Graph.twin_moves", defArgs (inClass (top 33) 3), defBody (inClass (top 33) 3), defScope (inClass (top 33) 3), [], []⟩
abbrev e_Graph_double_loop : He.DefD := ⟨("Graph", some "double_loop"), "double_loop", "Graph.double_loop", defArgs (inClass (top 33) 4), defBody (inClass (top 33) 4), defScope (inClass (top 33) 4), [], []⟩
abbrev e_Graph_loop : He.DefD := ⟨("Graph", some "loop"), "loop", "Graph.loop", defArgs (inClass (top 33) 7), defBody (inClass (top 33) 7), defScope (inClass (top 33) 7), [], []⟩
abbrev e_Graph_pump : He.DefD := ⟨("Graph", some "pump"), "pump", "Graph.pump", defArgs (inClass (top 33) 8), defBody (inClass (top 33) 8), defScope (inClass (top 33) 8), [], []⟩
abbrev e_Graph_longest_chain : He.DefD := ⟨("Graph", some "longest_chain"), "longest_chain", "Graph.longest_chain", defArgs (inClass (top 33) 10), defBody (inClass (top 33) 10), defScope (inClass (top 33) 10), [], []⟩
abbrev e_Graph_degree : He.DefD := ⟨("Graph", some "degree"), "degree", "Graph.degree", defArgs (inClass (top 33) 12), defBody (inClass (top 33) 12), defScope (inClass (top 33) 12), [], []⟩
abbrev e_growth : He.DefD := ⟨("growth", none), "growth", "growth", defArgs (top 34), defBody (top 34), defScope (top 34), [], []⟩
abbrev e_is_text : He.DefD := ⟨("is_text", none), "is_text", "is_text", defArgs (top 40), defBody (top 40), defScope (top 40), [], []⟩
abbrev e_is_word : He.DefD := ⟨("is_word", none), "is_word", "is_word", defArgs (top 41), defBody (top 41), defScope (top 41), [], []⟩
abbrev e_check_text : He.DefD := ⟨("check_text", none), "check_text", "check_text", defArgs (top 42), defBody (top 42), defScope (top 42), [], []⟩
abbrev e_Run_init : He.DefD := ⟨("Run", some "__init__"), "__init__", "Run.__init__", defArgs (inClass (top 43) 0), defBody (inClass (top 43) 0), defScope (inClass (top 43) 0), [], []⟩
abbrev e_Run_tried : He.DefD := ⟨("Run", some "tried"), "tried", "Run.tried", defArgs (inClass (top 43) 1), defBody (inClass (top 43) 1), defScope (inClass (top 43) 1), [], []⟩
abbrev e_run_of : He.DefD := ⟨("run_of", none), "run_of", "run_of", defArgs (top 44), defBody (top 44), defScope (top 44), [], []⟩
abbrev e_steps : He.DefD := ⟨("steps", none), "steps", "steps", defArgs (top 45), defBody (top 45), defScope (top 45), [], []⟩
abbrev e_Attempts_init : He.DefD := ⟨("Attempts", some "__init__"), "__init__", "Attempts.__init__", defArgs (inClass (top 46) 0), defBody (inClass (top 46) 0), defScope (inClass (top 46) 0), [], []⟩
abbrev e_Attempts_descend : He.DefD := ⟨("Attempts", some "descend"), "descend", "Attempts.descend", defArgs (inClass (top 46) 1), defBody (inClass (top 46) 1), defScope (inClass (top 46) 1), [], []⟩
abbrev e_attempts : He.DefD := ⟨("attempts", none), "attempts", "attempts", defArgs (top 47), defBody (top 47), defScope (top 47), [], []⟩
abbrev e_path_counts : He.DefD := ⟨("path_counts", none), "path_counts", "path_counts", defArgs (top 48), defBody (top 48), defScope (top 48), [], []⟩
abbrev e_advanced : He.DefD := ⟨("advanced", none), "advanced", "advanced", defArgs (top 49), defBody (top 49), defScope (top 49), [], []⟩
abbrev e_paths_to : He.DefD := ⟨("paths_to", none), "paths_to", "paths_to", defArgs (top 50), defBody (top 50), defScope (top 50), [], []⟩
abbrev e_all_texts : He.DefD := ⟨("all_texts", none), "all_texts", "all_texts", defArgs (top 51), defBody (top 51), defScope (top 51), [], []⟩
abbrev e_worst : He.DefD := ⟨("worst", none), "worst", "worst", defArgs (top 52), defBody (top 52), defScope (top 52), [], []⟩
abbrev e_counts_from : He.DefD := ⟨("counts_from", none), "counts_from", "counts_from", defArgs (top 55), defBody (top 55), defScope (top 55), [], []⟩
abbrev e_are_words : He.DefD := ⟨("are_words", none), "are_words", "are_words", defArgs (top 56), defBody (top 56), defScope (top 56), [], []⟩
abbrev e_is_ladder : He.DefD := ⟨("is_ladder", none), "is_ladder", "is_ladder", defArgs (top 58), defBody (top 58), defScope (top 58), [], []⟩
abbrev e_grouped : He.DefD := ⟨("grouped", none), "grouped", "grouped", defArgs (top 60), defBody (top 60), defScope (top 60), [], []⟩
abbrev e_written : He.DefD := ⟨("written", none), "written", "written", defArgs (top 61), defBody (top 61), defScope (top 61), [], []⟩
abbrev e_Reader_init : He.DefD := ⟨("Reader", some "__init__"), "__init__", "Reader.__init__", defArgs (inClass (top 62) 0), defBody (inClass (top 62) 0), defScope (inClass (top 62) 0), [], []⟩
abbrev e_Reader_peek : He.DefD := ⟨("Reader", some "peek"), "peek", "Reader.peek", defArgs (inClass (top 62) 1), defBody (inClass (top 62) 1), defScope (inClass (top 62) 1), [], []⟩
abbrev e_Reader_take : He.DefD := ⟨("Reader", some "take"), "take", "Reader.take", defArgs (inClass (top 62) 2), defBody (inClass (top 62) 2), defScope (inClass (top 62) 2), [], []⟩
abbrev e_Reader_sequence : He.DefD := ⟨("Reader", some "sequence"), "sequence", "Reader.sequence", defArgs (inClass (top 62) 3), defBody (inClass (top 62) 3), defScope (inClass (top 62) 3), [], []⟩
abbrev e_Reader_repeated : He.DefD := ⟨("Reader", some "repeated"), "repeated", "Reader.repeated", defArgs (inClass (top 62) 4), defBody (inClass (top 62) 4), defScope (inClass (top 62) 4), [], []⟩
abbrev e_Reader_atom : He.DefD := ⟨("Reader", some "atom"), "atom", "Reader.atom", defArgs (inClass (top 62) 5), defBody (inClass (top 62) 5), defScope (inClass (top 62) 5), [], []⟩
abbrev e_parse : He.DefD := ⟨("parse", none), "parse", "parse", defArgs (top 63), defBody (top 63), defScope (top 63), [], []⟩
abbrev e_Suite_init : He.DefD := ⟨("Suite", some "__init__"), "__init__", "Suite.__init__", defArgs (inClass (top 66) 0), defBody (inClass (top 66) 0), defScope (inClass (top 66) 0), [], []⟩
abbrev e_Suite_undo : He.DefD := ⟨("Suite", some "undo"), "undo", "Suite.undo", defArgs (inClass (top 66) 8), defBody (inClass (top 66) 8), defScope (inClass (top 66) 8), [], []⟩
abbrev e_l_cell : He.DefD := ⟨("_law_cell", none), "_law_cell", "_law_cell", defArgs (top 68), defBody (top 68), defScope (top 68), [], []⟩
abbrev e_l_drawn : He.DefD := ⟨("_law_drawn", none), "_law_drawn", "_law_drawn", defArgs (top 69), defBody (top 69), defScope (top 69), [], []⟩
abbrev e_l_roll : He.DefD := ⟨("_law_roll", none), "_law_roll", "_law_roll", defArgs (top 70), defBody (top 70), defScope (top 70), [], []⟩
abbrev e_l_rounds : He.DefD := ⟨("_law_rounds", none), "_law_rounds", "_law_rounds", defArgs (top 71), defBody (top 71), defScope (top 71), [], []⟩
abbrev e_l_met : He.DefD := ⟨("_law_met", none), "_law_met", "_law_met", defArgs (top 72), defBody (top 72), defScope (top 72), [], []⟩
abbrev e_l_alone : He.DefD := ⟨("_law_alone", none), "_law_alone", "_law_alone", defArgs (top 73), defBody (top 73), defScope (top 73), [], []⟩
abbrev e_law : He.DefD := ⟨("law", none), "law", "law", defArgs (top 74), defBody (top 74), defScope (top 74), [], []⟩
def fn : List He.DefD := [e_is_integer, e_is_letters, e_has_shape, e_items_of, e_nullable, e_all_sets, e_node_count, e_stars_are_good, e_is_pattern, e_check_pattern, e_Machine_init, e_Machine_choices, e_Machine_firsts, e_Machine_assign, e_Machine_reached, e_check_position, e_follow_list, e_search, e_Graph_init, e_Graph_word_between, e_Graph_from_start, e_Graph_twin_moves, e_Graph_double_loop, e_Graph_loop, e_Graph_pump, e_Graph_longest_chain, e_Graph_degree, e_growth, e_is_text, e_is_word, e_check_text, e_Run_init, e_Run_tried, e_run_of, e_steps, e_Attempts_init, e_Attempts_descend, e_attempts, e_path_counts, e_advanced, e_paths_to, e_all_texts, e_worst, e_counts_from, e_are_words, e_is_ladder, e_grouped, e_written, e_Reader_init, e_Reader_peek, e_Reader_take, e_Reader_sequence, e_Reader_repeated, e_Reader_atom, e_parse, e_Suite_init, e_Suite_undo, e_l_cell, e_l_drawn, e_l_roll, e_l_rounds, e_l_met, e_l_alone, e_law]
def ds (n : Nat) : Str × Option Str := (if n < 44 then (if n < 22 then (if n < 9 then (if n < 4 then (if n < 2 then (if n < 1 then ("is_integer", none) else ("is_letters", none)) else (if n < 3 then ("has_shape", none) else ("items_of", none))) else (if n < 6 then (if n < 5 then ("nullable", none) else ("all_sets", none)) else (if n < 7 then ("node_count", none) else (if n < 8 then ("stars_are_good", none) else ("is_pattern", none))))) else (if n < 16 then (if n < 13 then (if n < 12 then ("check_pattern", none) else ("Machine", some "__init__")) else (if n < 14 then ("Machine", some "choices") else (if n < 15 then ("Machine", some "firsts") else ("Machine", some "assign")))) else (if n < 19 then (if n < 18 then ("Machine", some "reached") else ("check_position", none)) else (if n < 20 then ("follow_list", none) else (if n < 21 then ("is_text", none) else ("is_word", none)))))) else (if n < 34 then (if n < 28 then (if n < 24 then (if n < 23 then ("check_text", none) else ("Run", some "__init__")) else (if n < 25 then ("Run", some "tried") else (if n < 27 then ("run_of", none) else ("steps", none)))) else (if n < 30 then (if n < 29 then ("Attempts", some "__init__") else ("Attempts", some "descend")) else (if n < 32 then ("attempts", none) else (if n < 33 then ("path_counts", none) else ("advanced", none))))) else (if n < 39 then (if n < 36 then (if n < 35 then ("paths_to", none) else ("all_texts", none)) else (if n < 37 then ("worst", none) else (if n < 38 then ("search", none) else ("Graph", some "__init__")))) else (if n < 41 then (if n < 40 then ("Graph", some "word_between") else ("Graph", some "from_start")) else (if n < 42 then ("Graph", some "twin_moves") else (if n < 43 then ("Graph", some "double_loop") else ("Graph", some "triple_moves"))))))) else (if n < 88 then (if n < 57 then (if n < 49 then (if n < 46 then (if n < 45 then ("Graph", some "crossing") else ("Graph", some "loop")) else (if n < 47 then ("Graph", some "pump") else (if n < 48 then ("Graph", some "crossings") else ("Graph", some "longest_chain")))) else (if n < 51 then (if n < 50 then ("Graph", some "ladder") else ("Graph", some "degree")) else (if n < 52 then ("Graph", some "levels") else (if n < 53 then ("Graph", some "group") else ("growth", none))))) else (if n < 83 then (if n < 60 then (if n < 58 then ("counts_from", none) else ("are_words", none)) else (if n < 61 then ("crossings_of", none) else (if n < 82 then ("is_ladder", none) else ("Suite", some "__init__")))) else (if n < 85 then (if n < 84 then ("Suite", some "__len__") else ("Suite", some "counts")) else (if n < 86 then ("Suite", some "add") else (if n < 87 then ("Suite", some "replace") else ("Suite", some "over")))))) else (if n < 99 then (if n < 93 then (if n < 90 then (if n < 89 then ("Suite", some "total") else ("Suite", some "slowest")) else (if n < 91 then ("Suite", some "undo") else (if n < 92 then ("Suite", some "pattern") else ("grouped", none)))) else (if n < 96 then (if n < 95 then ("written", none) else ("Reader", some "__init__")) else (if n < 97 then ("Reader", some "peek") else (if n < 98 then ("Reader", some "take") else ("Reader", some "sequence"))))) else (if n < 107 then (if n < 101 then (if n < 100 then ("Reader", some "repeated") else ("Reader", some "atom")) else (if n < 105 then ("parse", none) else (if n < 106 then ("_law_cell", none) else ("_law_drawn", none)))) else (if n < 146 then (if n < 108 then ("_law_roll", none) else ("_law_rounds", none)) else (if n < 147 then ("_law_met", none) else (if n < 149 then ("_law_alone", none) else ("law", none))))))))
def tf : List Tf := [(("Graph", some "word_between"), "Graph.word_between" ++ ".<locals>." ++ "<lambda>"), (("Graph", some "double_loop"), "Graph.double_loop" ++ ".<locals>." ++ "<lambda>"), (("law", none), "law" ++ ".<locals>." ++ "<lambda>")]
def ll : Lst := ⟨gt, [20, 21, 22, 23, 26, 27], [(22, "descend"), (23, "degree"), (23, "double_loop"), (23, "from_start"), (23, "longest_chain"), (23, "loop"), (23, "pump"), (23, "twin_moves"), (23, "word_between"), (20, "assign"), (20, "choices"), (20, "firsts"), (20, "reached"), (27, "atom"), (27, "peek"), (27, "repeated"), (27, "sequence"), (27, "take"), (21, "tried"), (26, "undo")], [20, 21, 22, 23, 26, 27], [0, 1, 2, 3, 4, 5, 6, 7, 8, 9, 10], tf, true⟩
theorem wk_of {K : PySem.W.Frag} {mg : Str → Option Value} {base : Heap} {P : Program} {w : World} (c : Has ll fn ds K mg base) : Wk (mkW P w K ds ll.tf ll.xs) where
  c20 := cls_okW c.o (by decide)
  c21 := cls_okW c.o (by decide)
  c22 := cls_okW c.o (by decide)
  c23 := cls_okW c.o (by decide)
  c26 := cls_okW c.o (by decide)
  c27 := cls_okW c.o (by decide)
  mk22 := mk_okW c.o (by decide) rfl
  mk23 := mk_okW c.o (by decide) rfl
  mk20 := mk_okW c.o (by decide) rfl
  mk27 := mk_okW c.o (by decide) rfl
  mk21 := mk_okW c.o (by decide) rfl
  mk26 := mk_okW c.o (by decide) rfl
  m_Attempts_descend := met_okW c.o (by decide) (List.mem_of_getElem? (i := 0) rfl) rfl (by decide)
  m_Graph_degree := met_okW c.o (by decide) (List.mem_of_getElem? (i := 1) rfl) rfl (by decide)
  m_Graph_double_loop := met_okW c.o (by decide) (List.mem_of_getElem? (i := 2) rfl) rfl (by decide)
  m_Graph_from_start := met_okW c.o (by decide) (List.mem_of_getElem? (i := 3) rfl) rfl (by decide)
  m_Graph_longest_chain := met_okW c.o (by decide) (List.mem_of_getElem? (i := 4) rfl) rfl (by decide)
  m_Graph_loop := met_okW c.o (by decide) (List.mem_of_getElem? (i := 5) rfl) rfl (by decide)
  m_Graph_pump := met_okW c.o (by decide) (List.mem_of_getElem? (i := 6) rfl) rfl (by decide)
  m_Graph_twin_moves := met_okW c.o (by decide) (List.mem_of_getElem? (i := 7) rfl) rfl (by decide)
  m_Graph_word_between := met_okW c.o (by decide) (List.mem_of_getElem? (i := 8) rfl) rfl (by decide)
  m_Machine_assign := met_okW c.o (by decide) (List.mem_of_getElem? (i := 9) rfl) rfl (by decide)
  m_Machine_choices := met_okW c.o (by decide) (List.mem_of_getElem? (i := 10) rfl) rfl (by decide)
  m_Machine_firsts := met_okW c.o (by decide) (List.mem_of_getElem? (i := 11) rfl) rfl (by decide)
  m_Machine_reached := met_okW c.o (by decide) (List.mem_of_getElem? (i := 12) rfl) rfl (by decide)
  m_Reader_atom := met_okW c.o (by decide) (List.mem_of_getElem? (i := 13) rfl) rfl (by decide)
  m_Reader_peek := met_okW c.o (by decide) (List.mem_of_getElem? (i := 14) rfl) rfl (by decide)
  m_Reader_repeated := met_okW c.o (by decide) (List.mem_of_getElem? (i := 15) rfl) rfl (by decide)
  m_Reader_sequence := met_okW c.o (by decide) (List.mem_of_getElem? (i := 16) rfl) rfl (by decide)
  m_Reader_take := met_okW c.o (by decide) (List.mem_of_getElem? (i := 17) rfl) rfl (by decide)
  m_Run_tried := met_okW c.o (by decide) (List.mem_of_getElem? (i := 18) rfl) rfl (by decide)
  m_Suite_undo := met_okW c.o (by decide) (List.mem_of_getElem? (i := 19) rfl) rfl (by decide)
  xs := rfl
  x0 := exc_okW c.o (by decide) (by decide)
  x1 := exc_okW c.o (by decide) (by decide)
  x2 := exc_okW c.o (by decide) (by decide)
  x3 := exc_okW c.o (by decide) (by decide)
  x4 := exc_okW c.o (by decide) (by decide)
  x5 := exc_okW c.o (by decide) (by decide)
  x6 := exc_okW c.o (by decide) (by decide)
  x7 := exc_okW c.o (by decide) (by decide)
  x8 := exc_okW c.o (by decide) (by decide)
  x9 := exc_okW c.o (by decide) (by decide)
  x10 := exc_okW c.o (by decide) (by decide)
  kp_is_integer := c.kp (n := 0) (f := f_is_integer) (d := e_is_integer) rfl rfl
  kp_is_letters := c.kp (n := 1) (f := f_is_letters) (d := e_is_letters) rfl rfl
  kp_has_shape := c.kp (n := 2) (f := f_has_shape) (d := e_has_shape) rfl rfl
  kp_items_of := c.kp (n := 3) (f := f_items_of) (d := e_items_of) rfl rfl
  kp_nullable := c.kp (n := 4) (f := f_nullable) (d := e_nullable) rfl rfl
  kp_all_sets := c.kp (n := 5) (f := f_all_sets) (d := e_all_sets) rfl rfl
  kp_node_count := c.kp (n := 6) (f := f_node_count) (d := e_node_count) rfl rfl
  kp_stars_are_good := c.kp (n := 7) (f := f_stars_are_good) (d := e_stars_are_good) rfl rfl
  kp_is_pattern := c.kp (n := 8) (f := f_is_pattern) (d := e_is_pattern) rfl rfl
  kp_check_pattern := c.kp (n := 9) (f := f_check_pattern) (d := e_check_pattern) rfl rfl
  kp_check_position := c.kp (n := 15) (f := f_check_position) (d := e_check_position) rfl rfl
  kp_follow_list := c.kp (n := 16) (f := f_follow_list) (d := e_follow_list) rfl rfl
  kp_search := c.kp (n := 17) (f := f_search) (d := e_search) rfl rfl
  kp_growth := c.kp (n := 27) (f := f_growth) (d := e_growth) rfl rfl
  kp_is_text := c.kp (n := 28) (f := f_is_text) (d := e_is_text) rfl rfl
  kp_is_word := c.kp (n := 29) (f := f_is_word) (d := e_is_word) rfl rfl
  kp_check_text := c.kp (n := 30) (f := f_check_text) (d := e_check_text) rfl rfl
  kp_run_of := c.kp (n := 33) (f := f_run_of) (d := e_run_of) rfl rfl
  kp_steps := c.kp (n := 34) (f := f_steps) (d := e_steps) rfl rfl
  kp_attempts := c.kp (n := 37) (f := f_attempts) (d := e_attempts) rfl rfl
  kp_path_counts := c.kp (n := 38) (f := f_path_counts) (d := e_path_counts) rfl rfl
  kp_advanced := c.kp (n := 39) (f := f_advanced) (d := e_advanced) rfl rfl
  kp_paths_to := c.kp (n := 40) (f := f_paths_to) (d := e_paths_to) rfl rfl
  kp_all_texts := c.kp (n := 41) (f := f_all_texts) (d := e_all_texts) rfl rfl
  kp_worst := c.kp (n := 42) (f := f_worst) (d := e_worst) rfl rfl
  kp_counts_from := c.kp (n := 43) (f := f_counts_from) (d := e_counts_from) rfl rfl
  kp_are_words := c.kp (n := 44) (f := f_are_words) (d := e_are_words) rfl rfl
  kp_is_ladder := c.kp (n := 45) (f := f_is_ladder) (d := e_is_ladder) rfl rfl
  kp_grouped := c.kp (n := 46) (f := f_grouped) (d := e_grouped) rfl rfl
  kp_written := c.kp (n := 47) (f := f_written) (d := e_written) rfl rfl
  kp_parse := c.kp (n := 54) (f := f_parse) (d := e_parse) rfl rfl
  kp_l_cell := c.kp (n := 57) (f := f_l_cell) (d := e_l_cell) rfl rfl
  kp_l_drawn := c.kp (n := 58) (f := f_l_drawn) (d := e_l_drawn) rfl rfl
  kp_l_roll := c.kp (n := 59) (f := f_l_roll) (d := e_l_roll) rfl rfl
  kp_l_rounds := c.kp (n := 60) (f := f_l_rounds) (d := e_l_rounds) rfl rfl
  kp_l_met := c.kp (n := 61) (f := f_l_met) (d := e_l_met) rfl rfl
  kp_l_alone := c.kp (n := 62) (f := f_l_alone) (d := e_l_alone) rfl rfl
theorem s_is_integer {K : PySem.W.Frag} {mg : Str → Option Value} {base : Heap} {P : Program} {w : World} (c : Has ll fn ds K mg base) : AllK (mkW P w K ds ll.tf ll.xs) mg base tt f_is_integer i_is_integer :=
  c.all (n := 0) (fd := b_is_integer) rfl rfl ⟨rfl, rfl, rfl, by decide +kernel, rfl, by decide +kernel, by decide +kernel⟩ rfl rfl rfl (by decide) (fun _ _ _ _ _ _ us hl => match us, hl with | [_, _, _], _ => rfl) fun X p k cx h e M => d_is_integer h (by rw [e]; exact wk_of c)
theorem s_is_letters {K : PySem.W.Frag} {mg : Str → Option Value} {base : Heap} {P : Program} {w : World} (c : Has ll fn ds K mg base) : AllK (mkW P w K ds ll.tf ll.xs) mg base tt f_is_letters i_is_letters :=
  c.all (n := 1) (fd := b_is_letters) rfl rfl ⟨rfl, rfl, rfl, by decide +kernel, rfl, by decide +kernel, by decide +kernel⟩ rfl rfl rfl (by decide) (fun _ _ _ _ _ _ us hl => match us, hl with | [_], _ => rfl) fun X p k cx h e M => d_is_letters h (by rw [e]; exact wk_of c)
theorem s_has_shape {K : PySem.W.Frag} {mg : Str → Option Value} {base : Heap} {P : Program} {w : World} (c : Has ll fn ds K mg base) : AllK (mkW P w K ds ll.tf ll.xs) mg base tt f_has_shape i_has_shape :=
  c.all (n := 2) (fd := b_has_shape) rfl rfl ⟨rfl, rfl, rfl, by decide +kernel, rfl, by decide +kernel, by decide +kernel⟩ rfl rfl rfl (by decide) (fun _ _ _ _ _ _ us hl => match us, hl with | [_, _], _ => rfl) fun X p k cx h e M => d_has_shape h (by rw [e]; exact wk_of c)
theorem s_items_of {K : PySem.W.Frag} {mg : Str → Option Value} {base : Heap} {P : Program} {w : World} (c : Has ll fn ds K mg base) : AllK (mkW P w K ds ll.tf ll.xs) mg base tt f_items_of i_items_of :=
  c.all (n := 3) (fd := b_items_of) rfl rfl ⟨rfl, rfl, rfl, by decide +kernel, rfl, by decide +kernel, by decide +kernel⟩ rfl rfl rfl (by decide) (fun _ _ _ _ _ _ us hl => match us, hl with | [_], _ => rfl) fun X p k cx h e M => d_items_of h (by rw [e]; exact wk_of c)
theorem s_nullable {K : PySem.W.Frag} {mg : Str → Option Value} {base : Heap} {P : Program} {w : World} (c : Has ll fn ds K mg base) : AllK (mkW P w K ds ll.tf ll.xs) mg base tt f_nullable i_nullable :=
  c.all (n := 4) (fd := b_nullable) rfl rfl ⟨rfl, rfl, rfl, by decide +kernel, rfl, by decide +kernel, by decide +kernel⟩ rfl rfl rfl (by decide) (fun _ _ _ _ _ _ us hl => match us, hl with | [_], _ => rfl) fun X p k cx h e M => d_nullable h (by rw [e]; exact wk_of c)
theorem s_all_sets {K : PySem.W.Frag} {mg : Str → Option Value} {base : Heap} {P : Program} {w : World} (c : Has ll fn ds K mg base) : AllK (mkW P w K ds ll.tf ll.xs) mg base tt f_all_sets i_all_sets :=
  c.all (n := 5) (fd := b_all_sets) rfl rfl ⟨rfl, rfl, rfl, by decide +kernel, rfl, by decide +kernel, by decide +kernel⟩ rfl rfl rfl (by decide) (fun _ _ _ _ _ _ us hl => match us, hl with | [_], _ => rfl) fun X p k cx h e M => d_all_sets h (by rw [e]; exact wk_of c)
theorem s_node_count {K : PySem.W.Frag} {mg : Str → Option Value} {base : Heap} {P : Program} {w : World} (c : Has ll fn ds K mg base) : AllK (mkW P w K ds ll.tf ll.xs) mg base tt f_node_count i_node_count :=
  c.all (n := 6) (fd := b_node_count) rfl rfl ⟨rfl, rfl, rfl, by decide +kernel, rfl, by decide +kernel, by decide +kernel⟩ rfl rfl rfl (by decide) (fun _ _ _ _ _ _ us hl => match us, hl with | [_], _ => rfl) fun X p k cx h e M => d_node_count h (by rw [e]; exact wk_of c)
theorem s_stars_are_good {K : PySem.W.Frag} {mg : Str → Option Value} {base : Heap} {P : Program} {w : World} (c : Has ll fn ds K mg base) : AllK (mkW P w K ds ll.tf ll.xs) mg base tt f_stars_are_good i_stars_are_good :=
  c.all (n := 7) (fd := b_stars_are_good) rfl rfl ⟨rfl, rfl, rfl, by decide +kernel, rfl, by decide +kernel, by decide +kernel⟩ rfl rfl rfl (by decide) (fun _ _ _ _ _ _ us hl => match us, hl with | [_], _ => rfl) fun X p k cx h e M => d_stars_are_good h (by rw [e]; exact wk_of c)
theorem s_is_pattern {K : PySem.W.Frag} {mg : Str → Option Value} {base : Heap} {P : Program} {w : World} (c : Has ll fn ds K mg base) : AllK (mkW P w K ds ll.tf ll.xs) mg base tt f_is_pattern i_is_pattern :=
  c.all (n := 8) (fd := b_is_pattern) rfl rfl ⟨rfl, rfl, rfl, by decide +kernel, rfl, by decide +kernel, by decide +kernel⟩ rfl rfl rfl (by decide) (fun _ _ _ _ _ _ us hl => match us, hl with | [_], _ => rfl) fun X p k cx h e M => d_is_pattern h (by rw [e]; exact wk_of c)
theorem s_check_pattern {K : PySem.W.Frag} {mg : Str → Option Value} {base : Heap} {P : Program} {w : World} (c : Has ll fn ds K mg base) : AllK (mkW P w K ds ll.tf ll.xs) mg base tt f_check_pattern i_check_pattern :=
  c.all (n := 9) (fd := b_check_pattern) rfl rfl ⟨rfl, rfl, rfl, by decide +kernel, rfl, by decide +kernel, by decide +kernel⟩ rfl rfl rfl (by decide) (fun _ _ _ _ _ _ us hl => match us, hl with | [_], _ => rfl) fun X p k cx h e M => d_check_pattern h (by rw [e]; exact wk_of c)
theorem s_Machine_init {K : PySem.W.Frag} {mg : Str → Option Value} {base : Heap} {P : Program} {w : World} (c : Has ll fn ds K mg base) : AllK (mkW P w K ds ll.tf ll.xs) mg base tt f_Machine_init i_Machine_init :=
  c.all (n := 10) (fd := b_Machine_init) rfl rfl ⟨rfl, rfl, rfl, by decide +kernel, rfl, by decide +kernel, by decide +kernel⟩ rfl rfl rfl (by decide) (fun _ _ _ _ _ _ us hl => match us, hl with | [_, _], _ => rfl) fun X p k cx h e M => d_Machine_init h (by rw [e]; exact wk_of c)
theorem s_Machine_choices {K : PySem.W.Frag} {mg : Str → Option Value} {base : Heap} {P : Program} {w : World} (c : Has ll fn ds K mg base) : AllK (mkW P w K ds ll.tf ll.xs) mg base tt f_Machine_choices i_Machine_choices :=
  c.all (n := 11) (fd := b_Machine_choices) rfl rfl ⟨rfl, rfl, rfl, by decide +kernel, rfl, by decide +kernel, by decide +kernel⟩ rfl rfl rfl (by decide) (fun _ _ _ _ _ _ us hl => match us, hl with | [_, _, _, _], _ => rfl) fun X p k cx h e M => d_Machine_choices h (by rw [e]; exact wk_of c)
theorem s_Machine_firsts {K : PySem.W.Frag} {mg : Str → Option Value} {base : Heap} {P : Program} {w : World} (c : Has ll fn ds K mg base) : AllK (mkW P w K ds ll.tf ll.xs) mg base tt f_Machine_firsts i_Machine_firsts :=
  c.all (n := 12) (fd := b_Machine_firsts) rfl rfl ⟨rfl, rfl, rfl, by decide +kernel, rfl, by decide +kernel, by decide +kernel⟩ rfl rfl rfl (by decide) (fun _ _ _ _ _ _ us hl => match us, hl with | [_, _, _], _ => rfl) fun X p k cx h e M => d_Machine_firsts h (by rw [e]; exact wk_of c)
theorem s_Machine_assign {K : PySem.W.Frag} {mg : Str → Option Value} {base : Heap} {P : Program} {w : World} (c : Has ll fn ds K mg base) : AllK (mkW P w K ds ll.tf ll.xs) mg base tt f_Machine_assign i_Machine_assign :=
  c.all (n := 13) (fd := b_Machine_assign) rfl rfl ⟨rfl, rfl, rfl, by decide +kernel, rfl, by decide +kernel, by decide +kernel⟩ rfl rfl rfl (by decide) (fun _ _ _ _ _ _ us hl => match us, hl with | [_, _, _, _], _ => rfl) fun X p k cx h e M => d_Machine_assign h (by rw [e]; exact wk_of c)
theorem s_Machine_reached {K : PySem.W.Frag} {mg : Str → Option Value} {base : Heap} {P : Program} {w : World} (c : Has ll fn ds K mg base) : AllK (mkW P w K ds ll.tf ll.xs) mg base tt f_Machine_reached i_Machine_reached :=
  c.all (n := 14) (fd := b_Machine_reached) rfl rfl ⟨rfl, rfl, rfl, by decide +kernel, rfl, by decide +kernel, by decide +kernel⟩ rfl rfl rfl (by decide) (fun _ _ _ _ _ _ us hl => match us, hl with | [_, _, _], _ => rfl) fun X p k cx h e M => d_Machine_reached h (by rw [e]; exact wk_of c)
theorem s_check_position {K : PySem.W.Frag} {mg : Str → Option Value} {base : Heap} {P : Program} {w : World} (c : Has ll fn ds K mg base) : AllK (mkW P w K ds ll.tf ll.xs) mg base tt f_check_position i_check_position :=
  c.all (n := 15) (fd := b_check_position) rfl rfl ⟨rfl, rfl, rfl, by decide +kernel, rfl, by decide +kernel, by decide +kernel⟩ rfl rfl rfl (by decide) (fun _ _ _ _ _ _ us hl => match us, hl with | [_, _], _ => rfl) fun X p k cx h e M => d_check_position h (by rw [e]; exact wk_of c)
theorem s_follow_list {K : PySem.W.Frag} {mg : Str → Option Value} {base : Heap} {P : Program} {w : World} (c : Has ll fn ds K mg base) : AllK (mkW P w K ds ll.tf ll.xs) mg base tt f_follow_list i_follow_list :=
  c.all (n := 16) (fd := b_follow_list) rfl rfl ⟨rfl, rfl, rfl, by decide +kernel, rfl, by decide +kernel, by decide +kernel⟩ rfl rfl rfl (by decide) (fun _ _ _ _ _ _ us hl => match us, hl with | [_, _], _ => rfl) fun X p k cx h e M => d_follow_list h (by rw [e]; exact wk_of c)
theorem s_search {K : PySem.W.Frag} {mg : Str → Option Value} {base : Heap} {P : Program} {w : World} (c : Has ll fn ds K mg base) : AllK (mkW P w K ds ll.tf ll.xs) mg base tt f_search i_search :=
  c.all (n := 17) (fd := b_search) rfl rfl ⟨rfl, rfl, rfl, by decide +kernel, rfl, by decide +kernel, by decide +kernel⟩ rfl rfl rfl (by decide) (fun _ _ _ _ _ _ us hl => match us, hl with | [_, _, _], _ => rfl) fun X p k cx h e M => d_search h (by rw [e]; exact wk_of c)
theorem s_Graph_init {K : PySem.W.Frag} {mg : Str → Option Value} {base : Heap} {P : Program} {w : World} (c : Has ll fn ds K mg base) : AllK (mkW P w K ds ll.tf ll.xs) mg base tt f_Graph_init i_Graph_init :=
  c.all (n := 18) (fd := b_Graph_init) rfl rfl ⟨rfl, rfl, rfl, by decide +kernel, rfl, by decide +kernel, by decide +kernel⟩ rfl rfl rfl (by decide) (fun _ _ _ _ _ _ us hl => match us, hl with | [_, _], _ => rfl) fun X p k cx h e M => d_Graph_init h (by rw [e]; exact wk_of c)
theorem s_Graph_word_between {K : PySem.W.Frag} {mg : Str → Option Value} {base : Heap} {P : Program} {w : World} (c : Has ll fn ds K mg base) : AllK (mkW P w K ds ll.tf ll.xs) mg base tt f_Graph_word_between i_Graph_word_between :=
  c.all (n := 19) (fd := b_Graph_word_between) rfl rfl ⟨rfl, rfl, rfl, by decide +kernel, rfl, by decide +kernel, by decide +kernel⟩ rfl rfl rfl (by decide) (fun _ _ _ _ _ _ us hl => match us, hl with | [_, _, _], _ => rfl) fun X p k cx h e M => d_Graph_word_between h (by rw [e]; exact wk_of c) (M (List.mem_of_getElem? (i := 0) rfl))
theorem s_Graph_from_start {K : PySem.W.Frag} {mg : Str → Option Value} {base : Heap} {P : Program} {w : World} (c : Has ll fn ds K mg base) : AllK (mkW P w K ds ll.tf ll.xs) mg base tt f_Graph_from_start i_Graph_from_start :=
  c.all (n := 20) (fd := b_Graph_from_start) rfl rfl ⟨rfl, rfl, rfl, by decide +kernel, rfl, by decide +kernel, by decide +kernel⟩ rfl rfl rfl (by decide) (fun _ _ _ _ _ _ us hl => match us, hl with | [_, _], _ => rfl) fun X p k cx h e M => d_Graph_from_start h (by rw [e]; exact wk_of c)
theorem s_Graph_twin_moves {K : PySem.W.Frag} {mg : Str → Option Value} {base : Heap} {P : Program} {w : World} (c : Has ll fn ds K mg base) : AllK (mkW P w K ds ll.tf ll.xs) mg base tt f_Graph_twin_moves i_Graph_twin_moves :=
  c.all (n := 21) (fd := b_Graph_twin_moves) rfl rfl ⟨rfl, rfl, rfl, by decide +kernel, rfl, by decide +kernel, by decide +kernel⟩ rfl rfl rfl (by decide) (fun _ _ _ _ _ _ us hl => match us, hl with | [_, _, _], _ => rfl) fun X p k cx h e M => d_Graph_twin_moves h (by rw [e]; exact wk_of c)
theorem s_Graph_double_loop {K : PySem.W.Frag} {mg : Str → Option Value} {base : Heap} {P : Program} {w : World} (c : Has ll fn ds K mg base) : AllK (mkW P w K ds ll.tf ll.xs) mg base tt f_Graph_double_loop i_Graph_double_loop :=
  c.all (n := 22) (fd := b_Graph_double_loop) rfl rfl ⟨rfl, rfl, rfl, by decide +kernel, rfl, by decide +kernel, by decide +kernel⟩ rfl rfl rfl (by decide) (fun _ _ _ _ _ _ us hl => match us, hl with | [_, _], _ => rfl) fun X p k cx h e M => d_Graph_double_loop h (by rw [e]; exact wk_of c) (M (List.mem_of_getElem? (i := 1) rfl))
theorem s_Graph_loop {K : PySem.W.Frag} {mg : Str → Option Value} {base : Heap} {P : Program} {w : World} (c : Has ll fn ds K mg base) : AllK (mkW P w K ds ll.tf ll.xs) mg base tt f_Graph_loop i_Graph_loop :=
  c.all (n := 23) (fd := b_Graph_loop) rfl rfl ⟨rfl, rfl, rfl, by decide +kernel, rfl, by decide +kernel, by decide +kernel⟩ rfl rfl rfl (by decide) (fun _ _ _ _ _ _ us hl => match us, hl with | [_, _], _ => rfl) fun X p k cx h e M => d_Graph_loop h (by rw [e]; exact wk_of c)
theorem s_Graph_pump {K : PySem.W.Frag} {mg : Str → Option Value} {base : Heap} {P : Program} {w : World} (c : Has ll fn ds K mg base) : AllK (mkW P w K ds ll.tf ll.xs) mg base tt f_Graph_pump i_Graph_pump :=
  c.all (n := 24) (fd := b_Graph_pump) rfl rfl ⟨rfl, rfl, rfl, by decide +kernel, rfl, by decide +kernel, by decide +kernel⟩ rfl rfl rfl (by decide) (fun _ _ _ _ _ _ us hl => match us, hl with | [_], _ => rfl) fun X p k cx h e M => d_Graph_pump h (by rw [e]; exact wk_of c)
theorem s_Graph_longest_chain {K : PySem.W.Frag} {mg : Str → Option Value} {base : Heap} {P : Program} {w : World} (c : Has ll fn ds K mg base) : AllK (mkW P w K ds ll.tf ll.xs) mg base tt f_Graph_longest_chain i_Graph_longest_chain :=
  c.all (n := 25) (fd := b_Graph_longest_chain) rfl rfl ⟨rfl, rfl, rfl, by decide +kernel, rfl, by decide +kernel, by decide +kernel⟩ rfl rfl rfl (by decide) (fun _ _ _ _ _ _ us hl => match us, hl with | [_], _ => rfl) fun X p k cx h e M => d_Graph_longest_chain h (by rw [e]; exact wk_of c)
theorem s_Graph_degree {K : PySem.W.Frag} {mg : Str → Option Value} {base : Heap} {P : Program} {w : World} (c : Has ll fn ds K mg base) : AllK (mkW P w K ds ll.tf ll.xs) mg base tt f_Graph_degree i_Graph_degree :=
  c.all (n := 26) (fd := b_Graph_degree) rfl rfl ⟨rfl, rfl, rfl, by decide +kernel, rfl, by decide +kernel, by decide +kernel⟩ rfl rfl rfl (by decide) (fun _ _ _ _ _ _ us hl => match us, hl with | [_], _ => rfl) fun X p k cx h e M => d_Graph_degree h (by rw [e]; exact wk_of c)
theorem s_growth {K : PySem.W.Frag} {mg : Str → Option Value} {base : Heap} {P : Program} {w : World} (c : Has ll fn ds K mg base) : AllK (mkW P w K ds ll.tf ll.xs) mg base tt f_growth i_growth :=
  c.all (n := 27) (fd := b_growth) rfl rfl ⟨rfl, rfl, rfl, by decide +kernel, rfl, by decide +kernel, by decide +kernel⟩ rfl rfl rfl (by decide) (fun _ _ _ _ _ _ us hl => match us, hl with | [_], _ => rfl) fun X p k cx h e M => d_growth h (by rw [e]; exact wk_of c)
theorem s_is_text {K : PySem.W.Frag} {mg : Str → Option Value} {base : Heap} {P : Program} {w : World} (c : Has ll fn ds K mg base) : AllK (mkW P w K ds ll.tf ll.xs) mg base tt f_is_text i_is_text :=
  c.all (n := 28) (fd := b_is_text) rfl rfl ⟨rfl, rfl, rfl, by decide +kernel, rfl, by decide +kernel, by decide +kernel⟩ rfl rfl rfl (by decide) (fun _ _ _ _ _ _ us hl => match us, hl with | [_, _], _ => rfl) fun X p k cx h e M => d_is_text h (by rw [e]; exact wk_of c)
theorem s_is_word {K : PySem.W.Frag} {mg : Str → Option Value} {base : Heap} {P : Program} {w : World} (c : Has ll fn ds K mg base) : AllK (mkW P w K ds ll.tf ll.xs) mg base tt f_is_word i_is_word :=
  c.all (n := 29) (fd := b_is_word) rfl rfl ⟨rfl, rfl, rfl, by decide +kernel, rfl, by decide +kernel, by decide +kernel⟩ rfl rfl rfl (by decide) (fun _ _ _ _ _ _ us hl => match us, hl with | [_, _], _ => rfl) fun X p k cx h e M => d_is_word h (by rw [e]; exact wk_of c)
theorem s_check_text {K : PySem.W.Frag} {mg : Str → Option Value} {base : Heap} {P : Program} {w : World} (c : Has ll fn ds K mg base) : AllK (mkW P w K ds ll.tf ll.xs) mg base tt f_check_text i_check_text :=
  c.all (n := 30) (fd := b_check_text) rfl rfl ⟨rfl, rfl, rfl, by decide +kernel, rfl, by decide +kernel, by decide +kernel⟩ rfl rfl rfl (by decide) (fun _ _ _ _ _ _ us hl => match us, hl with | [_, _], _ => rfl) fun X p k cx h e M => d_check_text h (by rw [e]; exact wk_of c)
theorem s_Run_init {K : PySem.W.Frag} {mg : Str → Option Value} {base : Heap} {P : Program} {w : World} (c : Has ll fn ds K mg base) : AllK (mkW P w K ds ll.tf ll.xs) mg base tt f_Run_init i_Run_init :=
  c.all (n := 31) (fd := b_Run_init) rfl rfl ⟨rfl, rfl, rfl, by decide +kernel, rfl, by decide +kernel, by decide +kernel⟩ rfl rfl rfl (by decide) (fun _ _ _ _ _ _ us hl => match us, hl with | [_, _, _], _ => rfl) fun X p k cx h e M => d_Run_init h (by rw [e]; exact wk_of c)
theorem s_Run_tried {K : PySem.W.Frag} {mg : Str → Option Value} {base : Heap} {P : Program} {w : World} (c : Has ll fn ds K mg base) : AllK (mkW P w K ds ll.tf ll.xs) mg base tt f_Run_tried i_Run_tried :=
  c.all (n := 32) (fd := b_Run_tried) rfl rfl ⟨rfl, rfl, rfl, by decide +kernel, rfl, by decide +kernel, by decide +kernel⟩ rfl rfl rfl (by decide) (fun _ _ _ _ _ _ us hl => match us, hl with | [_, _, _, _], _ => rfl) fun X p k cx h e M => d_Run_tried h (by rw [e]; exact wk_of c)
theorem s_run_of {K : PySem.W.Frag} {mg : Str → Option Value} {base : Heap} {P : Program} {w : World} (c : Has ll fn ds K mg base) : AllK (mkW P w K ds ll.tf ll.xs) mg base tt f_run_of i_run_of :=
  c.all (n := 33) (fd := b_run_of) rfl rfl ⟨rfl, rfl, rfl, by decide +kernel, rfl, by decide +kernel, by decide +kernel⟩ rfl rfl rfl (by decide) (fun _ _ _ _ _ _ us hl => match us, hl with | [_, _], _ => rfl) fun X p k cx h e M => d_run_of h (by rw [e]; exact wk_of c)
theorem s_steps {K : PySem.W.Frag} {mg : Str → Option Value} {base : Heap} {P : Program} {w : World} (c : Has ll fn ds K mg base) : AllK (mkW P w K ds ll.tf ll.xs) mg base tt f_steps i_steps :=
  c.all (n := 34) (fd := b_steps) rfl rfl ⟨rfl, rfl, rfl, by decide +kernel, rfl, by decide +kernel, by decide +kernel⟩ rfl rfl rfl (by decide) (fun _ _ _ _ _ _ us hl => match us, hl with | [_, _], _ => rfl) fun X p k cx h e M => d_steps h (by rw [e]; exact wk_of c)
theorem s_Attempts_init {K : PySem.W.Frag} {mg : Str → Option Value} {base : Heap} {P : Program} {w : World} (c : Has ll fn ds K mg base) : AllK (mkW P w K ds ll.tf ll.xs) mg base tt f_Attempts_init i_Attempts_init :=
  c.all (n := 35) (fd := b_Attempts_init) rfl rfl ⟨rfl, rfl, rfl, by decide +kernel, rfl, by decide +kernel, by decide +kernel⟩ rfl rfl rfl (by decide) (fun _ _ _ _ _ _ us hl => match us, hl with | [_, _, _], _ => rfl) fun X p k cx h e M => d_Attempts_init h (by rw [e]; exact wk_of c)
theorem s_Attempts_descend {K : PySem.W.Frag} {mg : Str → Option Value} {base : Heap} {P : Program} {w : World} (c : Has ll fn ds K mg base) : AllK (mkW P w K ds ll.tf ll.xs) mg base tt f_Attempts_descend i_Attempts_descend :=
  c.all (n := 36) (fd := b_Attempts_descend) rfl rfl ⟨rfl, rfl, rfl, by decide +kernel, rfl, by decide +kernel, by decide +kernel⟩ rfl rfl rfl (by decide) (fun _ _ _ _ _ _ us hl => match us, hl with | [_, _, _], _ => rfl) fun X p k cx h e M => d_Attempts_descend h (by rw [e]; exact wk_of c)
theorem s_attempts {K : PySem.W.Frag} {mg : Str → Option Value} {base : Heap} {P : Program} {w : World} (c : Has ll fn ds K mg base) : AllK (mkW P w K ds ll.tf ll.xs) mg base tt f_attempts i_attempts :=
  c.all (n := 37) (fd := b_attempts) rfl rfl ⟨rfl, rfl, rfl, by decide +kernel, rfl, by decide +kernel, by decide +kernel⟩ rfl rfl rfl (by decide) (fun _ _ _ _ _ _ us hl => match us, hl with | [_, _], _ => rfl) fun X p k cx h e M => d_attempts h (by rw [e]; exact wk_of c)
theorem s_path_counts {K : PySem.W.Frag} {mg : Str → Option Value} {base : Heap} {P : Program} {w : World} (c : Has ll fn ds K mg base) : AllK (mkW P w K ds ll.tf ll.xs) mg base tt f_path_counts i_path_counts :=
  c.all (n := 38) (fd := b_path_counts) rfl rfl ⟨rfl, rfl, rfl, by decide +kernel, rfl, by decide +kernel, by decide +kernel⟩ rfl rfl rfl (by decide) (fun _ _ _ _ _ _ us hl => match us, hl with | [_, _], _ => rfl) fun X p k cx h e M => d_path_counts h (by rw [e]; exact wk_of c)
theorem s_advanced {K : PySem.W.Frag} {mg : Str → Option Value} {base : Heap} {P : Program} {w : World} (c : Has ll fn ds K mg base) : AllK (mkW P w K ds ll.tf ll.xs) mg base tt f_advanced i_advanced :=
  c.all (n := 39) (fd := b_advanced) rfl rfl ⟨rfl, rfl, rfl, by decide +kernel, rfl, by decide +kernel, by decide +kernel⟩ rfl rfl rfl (by decide) (fun _ _ _ _ _ _ us hl => match us, hl with | [_, _, _], _ => rfl) fun X p k cx h e M => d_advanced h (by rw [e]; exact wk_of c)
theorem s_paths_to {K : PySem.W.Frag} {mg : Str → Option Value} {base : Heap} {P : Program} {w : World} (c : Has ll fn ds K mg base) : AllK (mkW P w K ds ll.tf ll.xs) mg base tt f_paths_to i_paths_to :=
  c.all (n := 40) (fd := b_paths_to) rfl rfl ⟨rfl, rfl, rfl, by decide +kernel, rfl, by decide +kernel, by decide +kernel⟩ rfl rfl rfl (by decide) (fun _ _ _ _ _ _ us hl => match us, hl with | [_, _], _ => rfl) fun X p k cx h e M => d_paths_to h (by rw [e]; exact wk_of c)
theorem s_all_texts {K : PySem.W.Frag} {mg : Str → Option Value} {base : Heap} {P : Program} {w : World} (c : Has ll fn ds K mg base) : AllK (mkW P w K ds ll.tf ll.xs) mg base tt f_all_texts i_all_texts :=
  c.all (n := 41) (fd := b_all_texts) rfl rfl ⟨rfl, rfl, rfl, by decide +kernel, rfl, by decide +kernel, by decide +kernel⟩ rfl rfl rfl (by decide) (fun _ _ _ _ _ _ us hl => match us, hl with | [_], _ => rfl) fun X p k cx h e M => d_all_texts h (by rw [e]; exact wk_of c)
theorem s_worst {K : PySem.W.Frag} {mg : Str → Option Value} {base : Heap} {P : Program} {w : World} (c : Has ll fn ds K mg base) : AllK (mkW P w K ds ll.tf ll.xs) mg base tt f_worst i_worst :=
  c.all (n := 42) (fd := b_worst) rfl rfl ⟨rfl, rfl, rfl, by decide +kernel, rfl, by decide +kernel, by decide +kernel⟩ rfl rfl rfl (by decide) (fun _ _ _ _ _ _ us hl => match us, hl with | [_, _], _ => rfl) fun X p k cx h e M => d_worst h (by rw [e]; exact wk_of c)
theorem s_counts_from {K : PySem.W.Frag} {mg : Str → Option Value} {base : Heap} {P : Program} {w : World} (c : Has ll fn ds K mg base) : AllK (mkW P w K ds ll.tf ll.xs) mg base tt f_counts_from i_counts_from :=
  c.all (n := 43) (fd := b_counts_from) rfl rfl ⟨rfl, rfl, rfl, by decide +kernel, rfl, by decide +kernel, by decide +kernel⟩ rfl rfl rfl (by decide) (fun _ _ _ _ _ _ us hl => match us, hl with | [_, _, _], _ => rfl) fun X p k cx h e M => d_counts_from h (by rw [e]; exact wk_of c)
theorem s_are_words {K : PySem.W.Frag} {mg : Str → Option Value} {base : Heap} {P : Program} {w : World} (c : Has ll fn ds K mg base) : AllK (mkW P w K ds ll.tf ll.xs) mg base tt f_are_words i_are_words :=
  c.all (n := 44) (fd := b_are_words) rfl rfl ⟨rfl, rfl, rfl, by decide +kernel, rfl, by decide +kernel, by decide +kernel⟩ rfl rfl rfl (by decide) (fun _ _ _ _ _ _ us hl => match us, hl with | [_], _ => rfl) fun X p k cx h e M => d_are_words h (by rw [e]; exact wk_of c)
theorem s_is_ladder {K : PySem.W.Frag} {mg : Str → Option Value} {base : Heap} {P : Program} {w : World} (c : Has ll fn ds K mg base) : AllK (mkW P w K ds ll.tf ll.xs) mg base tt f_is_ladder i_is_ladder :=
  c.all (n := 45) (fd := b_is_ladder) rfl rfl ⟨rfl, rfl, rfl, by decide +kernel, rfl, by decide +kernel, by decide +kernel⟩ rfl rfl rfl (by decide) (fun _ _ _ _ _ _ us hl => match us, hl with | [_, _, _], _ => rfl) fun X p k cx h e M => d_is_ladder h (by rw [e]; exact wk_of c)
theorem s_grouped {K : PySem.W.Frag} {mg : Str → Option Value} {base : Heap} {P : Program} {w : World} (c : Has ll fn ds K mg base) : AllK (mkW P w K ds ll.tf ll.xs) mg base tt f_grouped i_grouped :=
  c.all (n := 46) (fd := b_grouped) rfl rfl ⟨rfl, rfl, rfl, by decide +kernel, rfl, by decide +kernel, by decide +kernel⟩ rfl rfl rfl (by decide) (fun _ _ _ _ _ _ us hl => match us, hl with | [_, _], _ => rfl) fun X p k cx h e M => d_grouped h (by rw [e]; exact wk_of c)
theorem s_written {K : PySem.W.Frag} {mg : Str → Option Value} {base : Heap} {P : Program} {w : World} (c : Has ll fn ds K mg base) : AllK (mkW P w K ds ll.tf ll.xs) mg base tt f_written i_written :=
  c.all (n := 47) (fd := b_written) rfl rfl ⟨rfl, rfl, rfl, by decide +kernel, rfl, by decide +kernel, by decide +kernel⟩ rfl rfl rfl (by decide) (fun _ _ _ _ _ _ us hl => match us, hl with | [_], _ => rfl) fun X p k cx h e M => d_written h (by rw [e]; exact wk_of c)
theorem s_Reader_init {K : PySem.W.Frag} {mg : Str → Option Value} {base : Heap} {P : Program} {w : World} (c : Has ll fn ds K mg base) : AllK (mkW P w K ds ll.tf ll.xs) mg base tt f_Reader_init i_Reader_init :=
  c.all (n := 48) (fd := b_Reader_init) rfl rfl ⟨rfl, rfl, rfl, by decide +kernel, rfl, by decide +kernel, by decide +kernel⟩ rfl rfl rfl (by decide) (fun _ _ _ _ _ _ us hl => match us, hl with | [_, _], _ => rfl) fun X p k cx h e M => d_Reader_init h (by rw [e]; exact wk_of c)
theorem s_Reader_peek {K : PySem.W.Frag} {mg : Str → Option Value} {base : Heap} {P : Program} {w : World} (c : Has ll fn ds K mg base) : AllK (mkW P w K ds ll.tf ll.xs) mg base tt f_Reader_peek i_Reader_peek :=
  c.all (n := 49) (fd := b_Reader_peek) rfl rfl ⟨rfl, rfl, rfl, by decide +kernel, rfl, by decide +kernel, by decide +kernel⟩ rfl rfl rfl (by decide) (fun _ _ _ _ _ _ us hl => match us, hl with | [_], _ => rfl) fun X p k cx h e M => d_Reader_peek h (by rw [e]; exact wk_of c)
theorem s_Reader_take {K : PySem.W.Frag} {mg : Str → Option Value} {base : Heap} {P : Program} {w : World} (c : Has ll fn ds K mg base) : AllK (mkW P w K ds ll.tf ll.xs) mg base tt f_Reader_take i_Reader_take :=
  c.all (n := 50) (fd := b_Reader_take) rfl rfl ⟨rfl, rfl, rfl, by decide +kernel, rfl, by decide +kernel, by decide +kernel⟩ rfl rfl rfl (by decide) (fun _ _ _ _ _ _ us hl => match us, hl with | [_], _ => rfl) fun X p k cx h e M => d_Reader_take h (by rw [e]; exact wk_of c)
theorem s_Reader_sequence {K : PySem.W.Frag} {mg : Str → Option Value} {base : Heap} {P : Program} {w : World} (c : Has ll fn ds K mg base) : AllK (mkW P w K ds ll.tf ll.xs) mg base tt f_Reader_sequence i_Reader_sequence :=
  c.all (n := 51) (fd := b_Reader_sequence) rfl rfl ⟨rfl, rfl, rfl, by decide +kernel, rfl, by decide +kernel, by decide +kernel⟩ rfl rfl rfl (by decide) (fun _ _ _ _ _ _ us hl => match us, hl with | [_], _ => rfl) fun X p k cx h e M => d_Reader_sequence h (by rw [e]; exact wk_of c)
theorem s_Reader_repeated {K : PySem.W.Frag} {mg : Str → Option Value} {base : Heap} {P : Program} {w : World} (c : Has ll fn ds K mg base) : AllK (mkW P w K ds ll.tf ll.xs) mg base tt f_Reader_repeated i_Reader_repeated :=
  c.all (n := 52) (fd := b_Reader_repeated) rfl rfl ⟨rfl, rfl, rfl, by decide +kernel, rfl, by decide +kernel, by decide +kernel⟩ rfl rfl rfl (by decide) (fun _ _ _ _ _ _ us hl => match us, hl with | [_], _ => rfl) fun X p k cx h e M => d_Reader_repeated h (by rw [e]; exact wk_of c)
theorem s_Reader_atom {K : PySem.W.Frag} {mg : Str → Option Value} {base : Heap} {P : Program} {w : World} (c : Has ll fn ds K mg base) : AllK (mkW P w K ds ll.tf ll.xs) mg base tt f_Reader_atom i_Reader_atom :=
  c.all (n := 53) (fd := b_Reader_atom) rfl rfl ⟨rfl, rfl, rfl, by decide +kernel, rfl, by decide +kernel, by decide +kernel⟩ rfl rfl rfl (by decide) (fun _ _ _ _ _ _ us hl => match us, hl with | [_], _ => rfl) fun X p k cx h e M => d_Reader_atom h (by rw [e]; exact wk_of c)
theorem s_parse {K : PySem.W.Frag} {mg : Str → Option Value} {base : Heap} {P : Program} {w : World} (c : Has ll fn ds K mg base) : AllK (mkW P w K ds ll.tf ll.xs) mg base tt f_parse i_parse :=
  c.all (n := 54) (fd := b_parse) rfl rfl ⟨rfl, rfl, rfl, by decide +kernel, rfl, by decide +kernel, by decide +kernel⟩ rfl rfl rfl (by decide) (fun _ _ _ _ _ _ us hl => match us, hl with | [_], _ => rfl) fun X p k cx h e M => d_parse h (by rw [e]; exact wk_of c)
theorem s_Suite_init {K : PySem.W.Frag} {mg : Str → Option Value} {base : Heap} {P : Program} {w : World} (c : Has ll fn ds K mg base) : AllK (mkW P w K ds ll.tf ll.xs) mg base tt f_Suite_init i_Suite_init :=
  c.all (n := 55) (fd := b_Suite_init) rfl rfl ⟨rfl, rfl, rfl, by decide +kernel, rfl, by decide +kernel, by decide +kernel⟩ rfl rfl rfl (by decide) (fun _ _ _ _ _ _ us hl => match us, hl with | [_, _, _], _ => rfl) fun X p k cx h e M => d_Suite_init h (by rw [e]; exact wk_of c)
theorem s_Suite_undo {K : PySem.W.Frag} {mg : Str → Option Value} {base : Heap} {P : Program} {w : World} (c : Has ll fn ds K mg base) : AllK (mkW P w K ds ll.tf ll.xs) mg base tt f_Suite_undo i_Suite_undo :=
  c.all (n := 56) (fd := b_Suite_undo) rfl rfl ⟨rfl, rfl, rfl, by decide +kernel, rfl, by decide +kernel, by decide +kernel⟩ rfl rfl rfl (by decide) (fun _ _ _ _ _ _ us hl => match us, hl with | [_], _ => rfl) fun X p k cx h e M => d_Suite_undo h (by rw [e]; exact wk_of c)
theorem s_l_cell {K : PySem.W.Frag} {mg : Str → Option Value} {base : Heap} {P : Program} {w : World} (c : Has ll fn ds K mg base) : AllK (mkW P w K ds ll.tf ll.xs) mg base tt f_l_cell i_l_cell :=
  c.all (n := 57) (fd := b_l_cell) rfl rfl ⟨rfl, rfl, rfl, by decide +kernel, rfl, by decide +kernel, by decide +kernel⟩ rfl rfl rfl (by decide) (fun _ _ _ _ _ _ us hl => match us, hl with | [_, _], _ => rfl) fun X p k cx h e M => d_l_cell h (by rw [e]; exact wk_of c)
theorem s_l_drawn {K : PySem.W.Frag} {mg : Str → Option Value} {base : Heap} {P : Program} {w : World} (c : Has ll fn ds K mg base) : AllK (mkW P w K ds ll.tf ll.xs) mg base tt f_l_drawn i_l_drawn :=
  c.all (n := 58) (fd := b_l_drawn) rfl rfl ⟨rfl, rfl, rfl, by decide +kernel, rfl, by decide +kernel, by decide +kernel⟩ rfl rfl rfl (by decide) (fun _ _ _ _ _ _ us hl => match us, hl with | [_, _], _ => rfl) fun X p k cx h e M => d_l_drawn h (by rw [e]; exact wk_of c)
theorem s_l_roll {K : PySem.W.Frag} {mg : Str → Option Value} {base : Heap} {P : Program} {w : World} (c : Has ll fn ds K mg base) : AllK (mkW P w K ds ll.tf ll.xs) mg base tt f_l_roll i_l_roll :=
  c.all (n := 59) (fd := b_l_roll) rfl rfl ⟨rfl, rfl, rfl, by decide +kernel, rfl, by decide +kernel, by decide +kernel⟩ rfl rfl rfl (by decide) (fun _ _ _ _ _ _ us hl => match us, hl with | [_, _], _ => rfl) fun X p k cx h e M => d_l_roll h (by rw [e]; exact wk_of c)
theorem s_l_rounds {K : PySem.W.Frag} {mg : Str → Option Value} {base : Heap} {P : Program} {w : World} (c : Has ll fn ds K mg base) : AllK (mkW P w K ds ll.tf ll.xs) mg base tt f_l_rounds i_l_rounds :=
  c.all (n := 60) (fd := b_l_rounds) rfl rfl ⟨rfl, rfl, rfl, by decide +kernel, rfl, by decide +kernel, by decide +kernel⟩ rfl rfl rfl (by decide) (fun _ _ _ _ _ _ us hl => match us, hl with | [_, _], _ => rfl) fun X p k cx h e M => d_l_rounds h (by rw [e]; exact wk_of c)
theorem s_l_met {K : PySem.W.Frag} {mg : Str → Option Value} {base : Heap} {P : Program} {w : World} (c : Has ll fn ds K mg base) : AllK (mkW P w K ds ll.tf ll.xs) mg base tt f_l_met i_l_met :=
  c.all (n := 61) (fd := b_l_met) rfl rfl ⟨rfl, rfl, rfl, by decide +kernel, rfl, by decide +kernel, by decide +kernel⟩ rfl rfl rfl (by decide) (fun _ _ _ _ _ _ us hl => match us, hl with | [_], _ => rfl) fun X p k cx h e M => d_l_met h (by rw [e]; exact wk_of c)
theorem s_l_alone {K : PySem.W.Frag} {mg : Str → Option Value} {base : Heap} {P : Program} {w : World} (c : Has ll fn ds K mg base) : AllK (mkW P w K ds ll.tf ll.xs) mg base tt f_l_alone i_l_alone :=
  c.all (n := 62) (fd := b_l_alone) rfl rfl ⟨rfl, rfl, rfl, by decide +kernel, rfl, by decide +kernel, by decide +kernel⟩ rfl rfl rfl (by decide) (fun _ _ _ _ _ _ us hl => match us, hl with | [_, _], _ => rfl) fun X p k cx h e M => d_l_alone h (by rw [e]; exact wk_of c)
theorem all_ok {K : PySem.W.Frag} {mg : Str → Option Value} {base : Heap} {P : Program} {w : World} (c : Has ll fn ds K mg base) : ∀ f i, tt.fi f = some i → AllK (mkW P w K ds ll.tf ll.xs) mg base tt f i := fun f i h => by
  have h : (ent f).map (·.2) = some i := h
  unfold ent at h
  exact ent_br (P := AllK _ _ _ _) (ent_br (P := AllK _ _ _ _) (ent_br (P := AllK _ _ _ _) (ent_br (P := AllK _ _ _ _) (ent_br (P := AllK _ _ _ _) (ent_leaf (P := AllK _ _ _ _) (s_is_integer c)) (ent_br (P := AllK _ _ _ _) (ent_leaf (P := AllK _ _ _ _) (s_is_letters c)) (ent_leaf (P := AllK _ _ _ _) (s_has_shape c)))) (ent_br (P := AllK _ _ _ _) (ent_br (P := AllK _ _ _ _) (ent_leaf (P := AllK _ _ _ _) (s_items_of c)) (ent_leaf (P := AllK _ _ _ _) (s_nullable c))) (ent_br (P := AllK _ _ _ _) (ent_leaf (P := AllK _ _ _ _) (s_all_sets c)) (ent_leaf (P := AllK _ _ _ _) (s_node_count c))))) (ent_br (P := AllK _ _ _ _) (ent_br (P := AllK _ _ _ _) (ent_br (P := AllK _ _ _ _) (ent_leaf (P := AllK _ _ _ _) (s_stars_are_good c)) (ent_leaf (P := AllK _ _ _ _) (s_is_pattern c))) (ent_br (P := AllK _ _ _ _) (ent_leaf (P := AllK _ _ _ _) (s_check_pattern c)) (ent_leaf (P := AllK _ _ _ _) (s_Machine_init c)))) (ent_br (P := AllK _ _ _ _) (ent_br (P := AllK _ _ _ _) (ent_leaf (P := AllK _ _ _ _) (s_Machine_choices c)) (ent_leaf (P := AllK _ _ _ _) (s_Machine_firsts c))) (ent_br (P := AllK _ _ _ _) (ent_leaf (P := AllK _ _ _ _) (s_Machine_assign c)) (ent_leaf (P := AllK _ _ _ _) (s_Machine_reached c)))))) (ent_br (P := AllK _ _ _ _) (ent_br (P := AllK _ _ _ _) (ent_br (P := AllK _ _ _ _) (ent_br (P := AllK _ _ _ _) (ent_leaf (P := AllK _ _ _ _) (s_check_position c)) (ent_leaf (P := AllK _ _ _ _) (s_follow_list c))) (ent_br (P := AllK _ _ _ _) (ent_leaf (P := AllK _ _ _ _) (s_is_text c)) (ent_leaf (P := AllK _ _ _ _) (s_is_word c)))) (ent_br (P := AllK _ _ _ _) (ent_br (P := AllK _ _ _ _) (ent_leaf (P := AllK _ _ _ _) (s_check_text c)) (ent_leaf (P := AllK _ _ _ _) (s_Run_init c))) (ent_br (P := AllK _ _ _ _) (ent_leaf (P := AllK _ _ _ _) (s_Run_tried c)) (ent_leaf (P := AllK _ _ _ _) (s_run_of c))))) (ent_br (P := AllK _ _ _ _) (ent_br (P := AllK _ _ _ _) (ent_br (P := AllK _ _ _ _) (ent_leaf (P := AllK _ _ _ _) (s_steps c)) (ent_leaf (P := AllK _ _ _ _) (s_Attempts_init c))) (ent_br (P := AllK _ _ _ _) (ent_leaf (P := AllK _ _ _ _) (s_Attempts_descend c)) (ent_leaf (P := AllK _ _ _ _) (s_attempts c)))) (ent_br (P := AllK _ _ _ _) (ent_br (P := AllK _ _ _ _) (ent_leaf (P := AllK _ _ _ _) (s_path_counts c)) (ent_leaf (P := AllK _ _ _ _) (s_advanced c))) (ent_br (P := AllK _ _ _ _) (ent_leaf (P := AllK _ _ _ _) (s_paths_to c)) (ent_leaf (P := AllK _ _ _ _) (s_all_texts c))))))) (ent_br (P := AllK _ _ _ _) (ent_br (P := AllK _ _ _ _) (ent_br (P := AllK _ _ _ _) (ent_br (P := AllK _ _ _ _) (ent_br (P := AllK _ _ _ _) (ent_leaf (P := AllK _ _ _ _) (s_worst c)) (ent_leaf (P := AllK _ _ _ _) (s_search c))) (ent_br (P := AllK _ _ _ _) (ent_leaf (P := AllK _ _ _ _) (s_Graph_init c)) (ent_leaf (P := AllK _ _ _ _) (s_Graph_word_between c)))) (ent_br (P := AllK _ _ _ _) (ent_br (P := AllK _ _ _ _) (ent_leaf (P := AllK _ _ _ _) (s_Graph_from_start c)) (ent_leaf (P := AllK _ _ _ _) (s_Graph_twin_moves c))) (ent_br (P := AllK _ _ _ _) (ent_leaf (P := AllK _ _ _ _) (s_Graph_double_loop c)) (ent_leaf (P := AllK _ _ _ _) (s_Graph_loop c))))) (ent_br (P := AllK _ _ _ _) (ent_br (P := AllK _ _ _ _) (ent_br (P := AllK _ _ _ _) (ent_leaf (P := AllK _ _ _ _) (s_Graph_pump c)) (ent_leaf (P := AllK _ _ _ _) (s_Graph_longest_chain c))) (ent_br (P := AllK _ _ _ _) (ent_leaf (P := AllK _ _ _ _) (s_Graph_degree c)) (ent_leaf (P := AllK _ _ _ _) (s_growth c)))) (ent_br (P := AllK _ _ _ _) (ent_br (P := AllK _ _ _ _) (ent_leaf (P := AllK _ _ _ _) (s_counts_from c)) (ent_leaf (P := AllK _ _ _ _) (s_are_words c))) (ent_br (P := AllK _ _ _ _) (ent_leaf (P := AllK _ _ _ _) (s_is_ladder c)) (ent_leaf (P := AllK _ _ _ _) (s_Suite_init c)))))) (ent_br (P := AllK _ _ _ _) (ent_br (P := AllK _ _ _ _) (ent_br (P := AllK _ _ _ _) (ent_br (P := AllK _ _ _ _) (ent_leaf (P := AllK _ _ _ _) (s_Suite_undo c)) (ent_leaf (P := AllK _ _ _ _) (s_grouped c))) (ent_br (P := AllK _ _ _ _) (ent_leaf (P := AllK _ _ _ _) (s_written c)) (ent_leaf (P := AllK _ _ _ _) (s_Reader_init c)))) (ent_br (P := AllK _ _ _ _) (ent_br (P := AllK _ _ _ _) (ent_leaf (P := AllK _ _ _ _) (s_Reader_peek c)) (ent_leaf (P := AllK _ _ _ _) (s_Reader_take c))) (ent_br (P := AllK _ _ _ _) (ent_leaf (P := AllK _ _ _ _) (s_Reader_sequence c)) (ent_leaf (P := AllK _ _ _ _) (s_Reader_repeated c))))) (ent_br (P := AllK _ _ _ _) (ent_br (P := AllK _ _ _ _) (ent_br (P := AllK _ _ _ _) (ent_leaf (P := AllK _ _ _ _) (s_Reader_atom c)) (ent_leaf (P := AllK _ _ _ _) (s_parse c))) (ent_br (P := AllK _ _ _ _) (ent_leaf (P := AllK _ _ _ _) (s_l_cell c)) (ent_leaf (P := AllK _ _ _ _) (s_l_drawn c)))) (ent_br (P := AllK _ _ _ _) (ent_br (P := AllK _ _ _ _) (ent_leaf (P := AllK _ _ _ _) (s_l_roll c)) (ent_leaf (P := AllK _ _ _ _) (s_l_rounds c))) (ent_br (P := AllK _ _ _ _) (ent_leaf (P := AllK _ _ _ _) (s_l_met c)) (ent_leaf (P := AllK _ _ _ _) (s_l_alone c))))))) h
abbrev RW : PySem.W.OpenLaw := PySem.Challenge.rw_regexsteps_k19_errors_apart
theorem law_is {w : World} {K : PySem.W.Frag} {mg : Str → Option Value} {fa : Addr} {h : Heap} {n : Nat} (hn : n ≤ 63) (X : K.In h) (G : h.Ns mainGlobals mg) (c : He.SaysX [] fn [] (ll.tf.map (·.1)) (ll.ok ds) w h K) (hfa : mg "law" = some (.ref fa)) {nf : Nat}
    (rounds : ∀ ns : List Int, ns.length ≤ 63 → ∃ (cs : List Int) (as : List EV.S) (pe : EV.Env), tt.ev (74 + 1) f_l_rounds [.d (.scr ns), .d (.int 4)] [] [] = some (.ok (.d (.lst (cs.map dice0))) as pe))
    (turn : ∀ c m : Int, ∃ (c' m' : Int) (env' : EV.Env), (evN ⟨tt.ev (74 + 1), [], i_law.N.length, tt.wl⟩ nf).s b_law.body (env0 i_law.N.length c m) = some (.ok .nx env') ∧ env'[1]? = some (some (.l true [.int c', .int m']))) :
    LawAtS RW w K (L2.CX RW.prog w) (3 * (74 + 1) + 3) n "_law_script" mg fa h :=
  law_at (i := i_law) (f0 := f_law) (nl := 63) (lb := forBody ((defBody (top 74)).getD 0 (.Pass ⟨0, 0, 0, 0⟩))) (b := b_law.body) (f := f_l_rounds) (j := 62) (j1 := 0) (j2 := 0) X G c hfa (List.mem_of_getElem? (i := 83) rfl) rfl rfl ⟨rfl, rfl, rfl, by decide +kernel, rfl, by decide +kernel, by decide +kernel⟩ rfl (by decide) (fun _ _ _ _ _ _ us hl => match us, hl with | [_], _ => rfl) hn rfl (fun _ c => all_ok c) fi_l_rounds rfl rfl rfl rfl rfl (fun X fT => (.inl rfl)) (fun _ c X p k cx h e M => d_law h (by rw [e]; exact wk_of c) (M (List.mem_of_getElem? (i := 2) rfl))) rounds turn (fun _ _ => rfl)
end L
set_option maxHeartbeats 0
namespace L
open PySem PySem.Spec PyProof.Rows L2 LamX EV
def loose0 : List Str := ["Attempts", "BadBudget", "BadDegree", "BadLength", "BadPattern", "BadPosition", "BadSyntax", "BadText", "BadWord", "CHARACTERS", "END", "Graph", "LETTERS", "LONGEST_WORST", "MOST_ATTEMPTS", "MOST_BUDGET", "MOST_DEGREE", "MOST_NODES", "MOST_SETS", "MOST_TEXT", "Machine", "NothingToUndo", "Reader", "Run", "StepError", "Suite", "TooMany", "_law_alone", "_law_cell", "_law_drawn"]
def loose1 : List Str := ["_law_met", "_law_roll", "_law_rounds", "_wall", "advanced", "all_sets", "all_texts", "are_words", "attempts", "check_pattern", "check_position", "check_text", "counts_from", "crossings_of", "follow_list", "grouped", "growth", "has_shape", "is_integer", "is_ladder", "is_letters", "is_pattern", "is_text", "is_word", "items_of", "node_count", "nullable", "parse", "path_counts", "paths_to"]
def loose2 : List Str := ["run_of", "search", "stars_are_good", "steps", "worst", "written"]
def loose : List Str := loose0 ++ loose1 ++ loose2
abbrev R : PySem.W.OpenRow := PySem.W.OpenLaw.row RW
abbrev hk : PySem.W.Hook := He.hookX 4 [] fn [] (ll.tf.map (·.1)) (ll.ok ds)
def ob (s : PySem.W.SharedT) : He.AlX := He.obsX 4 [] fn [] (ll.tf.map (·.1)) (ll.ok ds) (HandSHeadRun.getT s)
theorem ob_eq (s : PySem.W.SharedT) : ob s = hk.obs s.abs := He.obsX_eq (HandSHeadRun.getT_eq s)
set_option maxHeartbeats 0 in
theorem run (w : World) : HandSHeadRun.RunEq R (PySem.W.view R.prog [74]) hk ob 16000 loose w := by
  intro os
  kernel_rfl
end L

set_option maxRecDepth 100000
set_option maxHeartbeats 4000000
namespace L
open PySem PySem.Spec PyProof.Rows L2 LamX EV
abbrev nf : Nat := 60
theorem rounds : ∀ ns : List Int, ns.length ≤ 63 → ∃ (cs : List Int) (as : List EV.S) (pe : EV.Env), tt.ev (74 + 1) f_l_rounds [.d (.scr ns), .d (.int 4)] [] [] = some (.ok (.d (.lst (cs.map dice0))) as pe) :=
  fun ns hl => rounds_ev (T := tt) (k := 73) rfl rfl rfl hl
/-- behind the roll -/
def env1 (v c m : Int) : EV.Env := [none, some (.l true [.int c, .int m]), some (.d (.int (1 + v))), some (.d (.tup [.str [115, 101, 116], .str [97]])), none, none, none, none]
theorem rest0 (c m : Int) : chk ((evN ⟨tt.ev (74 + 1), [], i_law.N.length, tt.wl⟩ 59).s (b_law.body.drop 1) (env1 0 c m)) = true := by kernel_rfl
theorem rest1 (c m : Int) : chk ((evN ⟨tt.ev (74 + 1), [], i_law.N.length, tt.wl⟩ 59).s (b_law.body.drop 1) (env1 1 c m)) = true := by kernel_rfl
theorem rest2 (c m : Int) : chk ((evN ⟨tt.ev (74 + 1), [], i_law.N.length, tt.wl⟩ 59).s (b_law.body.drop 1) (env1 2 c m)) = true := by kernel_rfl
theorem rest3 (c m : Int) : chk ((evN ⟨tt.ev (74 + 1), [], i_law.N.length, tt.wl⟩ 59).s (b_law.body.drop 1) (env1 3 c m)) = true := by kernel_rfl
theorem rest4 (c m : Int) : chk ((evN ⟨tt.ev (74 + 1), [], i_law.N.length, tt.wl⟩ 59).s (b_law.body.drop 1) (env1 4 c m)) = true := by kernel_rfl
theorem rest5 (c m : Int) : chk ((evN ⟨tt.ev (74 + 1), [], i_law.N.length, tt.wl⟩ 59).s (b_law.body.drop 1) (env1 5 c m)) = true := by kernel_rfl
theorem rest6 (c m : Int) : chk ((evN ⟨tt.ev (74 + 1), [], i_law.N.length, tt.wl⟩ 59).s (b_law.body.drop 1) (env1 6 c m)) = true := by kernel_rfl
theorem rest7 (c m : Int) : chk ((evN ⟨tt.ev (74 + 1), [], i_law.N.length, tt.wl⟩ 59).s (b_law.body.drop 1) (env1 7 c m)) = true := by kernel_rfl
theorem rest8 (c m : Int) : chk ((evN ⟨tt.ev (74 + 1), [], i_law.N.length, tt.wl⟩ 59).s (b_law.body.drop 1) (env1 8 c m)) = true := by kernel_rfl
theorem rest (c m : Int) : ∀ v : Int, 0 ≤ v → v < 9 → chk ((evN ⟨tt.ev (74 + 1), [], i_law.N.length, tt.wl⟩ 59).s (b_law.body.drop 1) (env1 v c m)) = true := by
  intro v h0 h1
  have : v = 0 ∨ v = 1 ∨ v = 2 ∨ v = 3 ∨ v = 4 ∨ v = 5 ∨ v = 6 ∨ v = 7 ∨ v = 8 := by omega
  rcases this with z | z | z | z | z | z | z | z | z <;> subst z
  · exact rest0 c m
  · exact rest1 c m
  · exact rest2 c m
  · exact rest3 c m
  · exact rest4 c m
  · exact rest5 c m
  · exact rest6 c m
  · exact rest7 c m
  · exact rest8 c m
theorem turn : ∀ c m : Int, ∃ (c' m' : Int) (env' : EV.Env), (evN ⟨tt.ev (74 + 1), [], i_law.N.length, tt.wl⟩ nf).s b_law.body (env0 i_law.N.length c m) = some (.ok .nx env') ∧ env'[1]? = some (some (.l true [.int c', .int m'])) := by
  intro c m
  obtain ⟨v, c', m', h0, h1, hr⟩ := roll_ev (T := tt) (k := 73) (c := c) (m := m) (n := 9) rfl rfl rfl (by decide) (by decide)
  have e1 : stepS1 ⟨tt.ev (73 + 2), [], i_law.N.length, tt.wl⟩ (evN ⟨tt.ev (73 + 2), [], i_law.N.length, tt.wl⟩ (49 + 10)) (.unp (.tup [(.nm 2), (.nm 3)]) (.e (.tup [(.prim .add [.e (.cst (.int 1)), .e (.call .fn f_l_roll [.bw 1, .e (.cst (.int 9))])]), (.tup [(.cst (.str [115, 101, 116])), (.cst (.str [97]))])]))) (env0 8 c m) = some (.ok .nx (env1 v c' m')) := by
    simp [env0, env1, List.replicate, evN_s, evN_e, stepS, stepS1, stepE, evDs, evB, evD, frz, evOs, evO1, evP, fillO, fPlc, unlockR, lockE, unlockE, R.bind, prim, pAdd, S.toD, evAs, callR, specs, bwsOf, lamsOf, argS, backS, hr, setG, setGs, setSlot, pinned, pin, reflag, flagOf]
  refine chk_ok ?_
  have e0 : (evN ⟨tt.ev (74 + 1), [], i_law.N.length, tt.wl⟩ nf).s b_law.body (env0 i_law.N.length c m) = (stepS1 ⟨tt.ev (73 + 2), [], i_law.N.length, tt.wl⟩ (evN ⟨tt.ev (73 + 2), [], i_law.N.length, tt.wl⟩ (49 + 10)) (.unp (.tup [(.nm 2), (.nm 3)]) (.e (.tup [(.prim .add [.e (.cst (.int 1)), .e (.call .fn f_l_roll [.bw 1, .e (.cst (.int 9))])]), (.tup [(.cst (.str [115, 101, 116])), (.cst (.str [97]))])]))) (env0 8 c m)).bind fun f env' => match f with
    | .nx => (evN ⟨tt.ev (74 + 1), [], i_law.N.length, tt.wl⟩ 59).s (b_law.body.drop 1) env'
    | f => some (.ok f env') := rfl
  rw [e0, e1]
  exact rest c' m' v h0 h1
end L

open PySem PySem.W PySem.Calls PyProof.Rows
set_option maxHeartbeats 0 in
theorem PySem.Challenge.cw_regexsteps_k19_errors_apart_holds : PySem.Challenge.rw_regexsteps_k19_errors_apart.Holds := by
  w_on; o_law
  refine HandSHeadRun.head_any (r := OpenLaw.row PySem.Challenge.rw_regexsteps_k19_errors_apart) (q := view (OpenLaw.row PySem.Challenge.rw_regexsteps_k19_errors_apart).prog [74]) (H := L.hk) (ob := L.ob) (M := 16000) (loose := L.loose) (d := HandSHeadRun.topDef (OpenLaw.row PySem.Challenge.rw_regexsteps_k19_errors_apart).prog 74) (kwd := []) L.ob_eq
    (by kernel_rfl) (fun s => by kernel_rfl) L.run (by kernel_rfl) (by kernel_rfl) (by kernel_rfl) (by rfl) (by first | assumption | decide +kernel) (by decide +kernel) ⟨rfl, rfl, rfl, rfl, rfl, by decide +kernel⟩ ?hw ?hc
  case hw => w_witness2
  case hc =>
    refine LamX.walk_ofTsE (l := PySem.Challenge.rw_regexsteps_k19_errors_apart) (n := 63) (k := 3 * (74 + 1) + 3) (x := "_law_script") (CX := fun w => L2.CX (PySem.Challenge.rw_regexsteps_k19_errors_apart).prog w) rfl (by decide) (by kernel_rfl) ⟨rfl, by decide, by decide⟩ ?F (fun _ _ _ _ _ z => by obtain ⟨_, _, _, _, _, _, _, _, _, _, _, _, z⟩ := z; exact z)
    intro w mg fa h Y G hmg0
    obtain ⟨K, KX, c⟩ := Y
    have hmg : mg ("law" : PySem.Str) = some (.ref fa) := by
      have e : (HandSHeadRun.topDef (OpenLaw.row PySem.Challenge.rw_regexsteps_k19_errors_apart).prog 74).name = ("law" : PySem.Str) := by kernel_rfl
      rw [← e]
      exact hmg0
    exact ⟨K, KX, L.law_is (nf := L.nf) (by decide) KX G c hmg L.rounds L.turn⟩
