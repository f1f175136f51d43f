import PyProof.Rows.All
import Wide.All
import OpenK.AllK
import Wide.FinOn
import HandS.ForMost
import HandS.ForExc
import KE.DataEq
import KE.DataCmp
import KE.DataFind
import KE.DataMinMax
import KE.SortData
import HandS.Deep
import HandS.TupMul
import HandS.TupLe
import HandS.Style
import HandS.Zip
import HandS.Rev
import HandS.DictTup
import HandS.TupLen
import KE.GoesMore
import KE.GoesEnum
import HandS.Iter
import HandS.Sort
import HandS.More
import KE.KDictCopyH
import KE.KDictSum
import PyProof.TupleOfSeq
import PyProof.Transfer
import HandS.Conv
import HandS.SortKw
import KE.KDictPairs
import KE.KDictZip
import HandS.HotCalls
import HandS.ExcInit
import HandS.ExcField
import HandS.HeadHook1
import KE.KExcIs
import HandS.IsInst
import HandS.ExcOwn
import PyProof.PvWalk
import HandS.Comp
import KE.KDictDisplayH
import HandS.Small
import HandS.ExcIs
import HandS.WordsExc
import HandS.Ends
import PySem.Challenge.RW_twoforone_k12_steps_looked_at
set_option linter.all false
set_option Elab.async false
set_option maxRecDepth 100000
/-! Z, part 1: values without a heap, a small language, what it computes. -/
namespace Z
open PySem

inductive D where
  | non | bl (b : Bool) | int (i : Int) | str (x : Str)
  | tup (xs : List D) | lst (xs : List D) | dic (t : Bool) (kvs : List (D × D))
  /-- a list that is read alone (the script) -/
  | fls (xs : List D)
  deriving Inhabited

inductive R (α : Type) where
  | ok (a : α) | exc (c : String) (fs : List D) | bad
  deriving Inhabited
def R.bind {α β : Type} (r : R α) (f : α → R β) : R β := match r with
  | .ok a => f a
  | .exc c fs => .exc c fs
  | .bad => .bad
instance : Monad R where
  pure := R.ok
  bind := R.bind
@[simp] theorem bind_ok {α β : Type} (a : α) (f : α → R β) : (R.ok a >>= f) = f a := rfl
@[simp] theorem bind_bad {α β : Type} (f : α → R β) : ((R.bad : R α) >>= f) = R.bad := rfl
@[simp] theorem bind_exc {α β : Type} (c : String) (fs : List D) (f : α → R β) : ((R.exc c fs : R α) >>= f) = R.exc c fs := rfl
@[simp] theorem pure_R {α : Type} (a : α) : (pure a : R α) = R.ok a := rfl
/-- what never raises -/
def pr {α : Type} : R α → R α
  | .ok a => .ok a
  | _ => .bad
@[simp] theorem pr_ok {α : Type} (a : α) : pr (R.ok a) = R.ok a := rfl
@[simp] theorem pr_bad {α : Type} : pr (R.bad : R α) = R.bad := rfl
def gd {α : Type} (c : Prop) [Decidable c] (r : R α) : R α := if c then r else .bad
@[simp] theorem gd_pos {α : Type} {c : Prop} [Decidable c] (h : c) (r : R α) : gd c r = r := if_pos h
theorem gd_neg {α : Type} {c : Prop} [Decidable c] (h : ¬ c) (r : R α) : gd c r = .bad := if_neg h

/-! ### values -/
def isC : D → Bool
  | .lst _ => true
  | .dic _ _ => true
  | _ => false
mutual
def pureD : D → Bool
  | .tup ds => pureL ds
  | .lst _ => false
  | .dic _ _ => false
  | .fls _ => false
  | _ => true
def pureL : List D → Bool
  | [] => true
  | d :: ds => pureD d && pureL ds
end
def b2z (b : Bool) : Int := if b then 1 else 0
mutual
def eqD : D → D → Bool
  | .non, .non => true
  | .bl a, .bl b => a == b
  | .bl a, .int i => b2z a == i
  | .int i, .bl a => i == b2z a
  | .int i, .int j => i == j
  | .str x, .str y => x == y
  | .tup xs, .tup ys => eqL xs ys
  | .lst xs, .lst ys => eqL xs ys
  | _, _ => false
def eqL : List D → List D → Bool
  | [], [] => true
  | x :: xs, y :: ys => eqD x y && eqL xs ys
  | _, _ => false
end
mutual
/-- data without dicts, at most so deep -/
def plD : Nat → D → Bool
  | 0, .tup _ => false
  | 0, .lst _ => false
  | n + 1, .tup ds => plL n ds
  | n + 1, .lst ds => plL n ds
  | _, .dic _ _ => false
  | _, .fls _ => false
  | _, _ => true
def plL : Nat → List D → Bool
  | _, [] => true
  | n, d :: ds => plD n d && plL n ds
end
def flat : D → Bool
  | .tup _ => false
  | .lst _ => false
  | .dic _ _ => false
  | .fls _ => false
  | _ => true
def intOf : D → Option Int
  | .int i => some i
  | _ => none
def blOf : D → Option Bool
  | .bl i => some i
  | _ => none
def strOf : D → Option Str
  | .str i => some i
  | _ => none
def allOf {α : Type} (f : D → Option α) : List D → Option (List α)
  | [] => some []
  | d :: ds => match f d, allOf f ds with
    | some a, some r => some (a :: r)
    | _, _ => none
def lexLe : List Int → List Int → Bool
  | [], _ => true
  | _ :: _, [] => false
  | x :: xs, y :: ys => if x = y then lexLe xs ys else decide (x < y)
def seqOf : D → Option (List D)
  | .tup xs => some xs
  | .lst xs => some xs
  | _ => none
/-- the key by which things of a class sort: 0 ints, 1 tuples of ints, 2 tuples of an int and a tuple of ints -/
def skey : Nat → D → Option (List Int)
  | 0, .int i => some [i]
  | 1, .tup ds => allOf intOf ds
  | 2, .tup [.int i, .tup ds] => (allOf intOf ds).map (i :: ·)
  | _, _ => none
def sclass : D → Nat
  | .int _ => 0
  | .tup [.int _, .tup _] => 2
  | _ => 1
def ins {α : Type} (le : α → α → Bool) (a : α) : List α → List α
  | [] => [a]
  | b :: r => if le a b then a :: b :: r else b :: ins le a r
def isort {α : Type} (le : α → α → Bool) : List α → List α
  | [] => []
  | a :: r => ins le a (isort le r)
def kle (p q : List Int × D) : Bool := lexLe p.1 q.1
def szL : Nat := 1000000
def sortD (ds : List D) : R (List D) := match ds with
  | [] => .ok []
  | d :: _ => match allOf (skey (sclass d)) ds with
    | some ks => gd ((ks.all fun k => !k.isEmpty) = true ∧ ds.length ≤ szL) (.ok ((isort kle (ks.zip ds)).map (·.2)))
    | none => .bad
/-! dicts -/
def keyOk : D → Bool
  | .int _ => true
  | .str _ => true
  | .tup ds => (allOf intOf ds).isSome
  | _ => false
def dget (kvs : List (D × D)) (k : D) : Option D := match kvs with
  | [] => none
  | (q, v) :: r => if eqD q k then some v else dget r k
def dput (kvs : List (D × D)) (k v : D) : List (D × D) :=
  if (kvs.any fun p => eqD p.1 k) = true then kvs.map (fun p => if eqD p.1 k = true then (p.1, v) else p) else kvs ++ [(k, v)]
/-- tuples or not -/
def keyCl : D → Bool
  | .tup _ => true
  | _ => false
def keyFit (t : Bool) (k : D) : Bool := keyOk k && (keyCl k == t)
/-! places -/
def ixN (n : Nat) (i : Int) : Option Nat := L2.ixN n i
def atI {α : Type} (xs : List α) (i : Int) : Option α := L2.atI xs i
def cut {α : Type} (xs : List α) (lo hi : Option Int) : List α :=
  let a := HT.sIx xs.length 0 lo
  (xs.drop a).take (HT.sIx xs.length xs.length hi - a)

/-! ### the language -/
inductive Bin | add | sub | mul | fdiv | mod | pow | shl | shr | band | bxor
inductive Cmp | eq | ne | lt | le | gt | ge | is | isn | in_ | nin
inductive Ty | int | bool | str | tup | lst
inductive Bi | len | sum | max | min | minT | max2 | min2 | maxd0 | sorted | list | tuple | abs | int | all | dict (t : Bool) | tuprev | listrev | maxvals | sumvals | listrng | sortset | lenset
inductive Src | seq | keys | sgn | rng1 | rng2 | rng3 | enum (k : Int) | zip | items
inductive Pat | one (i : Nat) | tup (is : List Nat)
inductive E where
  | var (i : Nat)
  | non | bl (b : Bool) | int (i : Int) | str (x : String)
  | glb (x : String) (i : Int)
  | tup (es : List E) | lst (es : List E) | dct0 (t : Bool) | dsp (t : Bool) (k v : E)
  | bin (o : Bin) (a b : E)
  | neg (a : E)
  | cmp (o : Cmp) (a b : E)
  | chain (o p : Cmp) (a b c : E)
  | and (es : List E) | or (es : List E) | not (a : E)
  | ife (c a b : E)
  | idx (a i : E)
  | slc (a : E) (lo hi : Option E)
  | rev (a : E)
  | call (k : Nat) (fr : Bool) (es : List E)
  | bi (b : Bi) (es : List E)
  | isi (e : E) (t : Ty)
  | get1 (d k : E) | get2 (d k x : E)
  | count (o a : E) | index (o a : E)
  | comp (elt : E) (p : Pat) (s : Src) (es : List E) (c : Option E)
/-- the def that tells an exception's kind: its name, the classes in its rows -/
structure Knd where
  nm : String
  ls : List (List String)
  deriving DecidableEq
/-- an except suite: what it hands back -/
inductive SA where
  | int (i : Int) | kinds | fld (f : String)
inductive SV where
  | one (a : SA) | eqk (i : Int) | tup (as : List SA) | lst (as : List SA)
inductive SU where
  | ret (v : SV) | ifk (i : Int) (v w : SV)
inductive S where
  | asg (i : Nat) (own : Bool) (e : E) (un : List Nat)
  | asgt (is : List Nat) (e : E) (un : List Nat)
  | par (is : List Nat) (es : List E)
  | seti (i : Nat) (k v : E) (un : List Nat)
  | augi (i : Nat) (o : Bin) (k v : E)
  | aug (i : Nat) (o : Bin) (e : E)
  | app (i : Nat) (e : E) (un : List Nat)
  | ext (i : Nat) (e : E)
  | inse (i : Nat) (k e : E) (un : List Nat)
  | rem (i : Nat) (e : E)
  | pop (j i : Nat)
  | xpr (e : E) (un : List Nat)
  | ret (e : E) (un : List Nat)
  | retv (i : Nat)
  | ret0
  | iff (c : E) (a b : List S)
  | iffu (un : List Nat) (c : E) (a b : List S)
  | for_ (p : Pat) (s : Src) (es : List E) (un : List Nat) (b : List S)
  | forx (p : Pat) (i : Nat) (j : Int) (un : List Nat) (b : List S)
  | whl (L : Nat) (c : E) (b : List S)
  | never
  | wipe (is : List Nat)
  | raise (c : String) (es : List E)
  | try_ (b : List S) (i : Nat) (k : Knd) (su : SU)
structure FD where
  nm : String
  prm : List String
  nms : List String
  fr : Bool
  body : List S
structure Prg where
  fn : Nat → Option FD
  consts : List (String × Int)
  kinds : List Knd
  excs : List String

/-! ### what it computes -/
abbrev Rho := List (Option (Bool × D))
def rget (ρ : Rho) (i : Nat) : R (Bool × D) := match ρ[i]? with
  | some (some p) => .ok p
  | _ => .bad
def unown1 (ρ : Rho) (i : Nat) : Rho := match ρ[i]? with
  | some (some (_, d)) => ρ.set i (some (false, d))
  | _ => ρ
def unown : List Nat → Rho → Rho
  | [], ρ => ρ
  | i :: r, ρ => unown r (unown1 ρ i)
def setR (ρ : Rho) (i : Nat) (own : Bool) (d : D) : Rho := ρ.set i (some (own, d))
def owned (ρ : Rho) (i : Nat) : Bool := match ρ[i]? with
  | some (some (o, _)) => o
  | _ => false
def ownedL (ρ : Rho) (i : Nat) : Bool := match ρ[i]? with
  | some (some (true, .lst _)) => true
  | _ => false
/-- syntax: what makes a list or dict makes a new one -/
def frE : E → Bool
  | .var _ => false
  | .idx _ _ => false
  | .get1 _ _ => false
  | .get2 _ _ _ => false
  | .call _ fr _ => fr
  | .ife _ a b => frE a && frE b
  | .and _ => false
  | .or _ => false
  | .bi .minT _ => false
  | _ => true
def anyOwn (es : List E) (ρ : Rho) : Bool := es.any fun
  | .var i => owned ρ i
  | _ => false
def small (i : Int) : Bool := decide (-(2 ^ 64) < i) && decide (i < 2 ^ 64)
def binI : Bin → Int → Int → R Int
  | .add, i, j => .ok (i + j)
  | .sub, i, j => .ok (i - j)
  | .mul, i, j => gd (small i = true ∨ small j = true) (.ok (i * j))
  | .fdiv, i, j => gd (j ≠ 0 ∧ (j.natAbs < 1073741824 ∨ j.natAbs.log2 < 9000)) (.ok (i.fdiv j))
  | .mod, i, j => gd (j ≠ 0) (.ok (i.fmod j))
  | .pow, i, j => gd (0 ≤ j ∧ j ≤ 1000000 ∧ i.natAbs < 2 ^ 64) (.ok (i ^ j.toNat))
  | .shl, i, j => gd (0 ≤ j ∧ j ≤ 1000000 ∧ i.natAbs < 2 ^ 64) (.ok (i * 2 ^ j.toNat))
  | .shr, i, j => gd (0 ≤ j) (.ok (i / 2 ^ j.toNat))
  | .band, i, j => .ok (Builtin.bitAnd i j)
  | .bxor, i, j => .ok (Builtin.bitXor i j)
def binD : Bin → D → D → R D
  | o, .int i, .int j => do return .int (← binI o i j)
  | .add, .lst xs, .lst ys => gd (xs.length + ys.length ≤ szL) (.ok (.lst (xs ++ ys)))
  | .add, .tup xs, .tup ys => gd (xs.length + ys.length ≤ szL) (.ok (.tup (xs ++ ys)))
  | .add, .str x, .str y => gd (x.length + y.length ≤ szL) (.ok (.str (x ++ y)))
  | .mul, .lst xs, .int k => gd (k ≤ 1000 ∧ -1000 ≤ k ∧ xs.length ≤ 1000) (.ok (.lst (List.replicate k.toNat xs).flatten))
  | .mul, .tup xs, .int k => gd (-1000 ≤ k ∧ k ≤ 1000 ∧ xs.length ≤ 1000 ∧ xs ≠ []) (.ok (.tup (List.replicate k.toNat xs).flatten))
  | _, _, _ => .bad
def inD (x y : D) : R Bool := match y with
  | .lst ys => gd (plD 20 x = true ∧ plL 19 ys = true) (.ok (ys.any fun z => eqD z x))
  | .tup ys => gd (plD 20 x = true ∧ plL 19 ys = true) (.ok (ys.any fun z => eqD z x))
  | .dic t kvs => gd (keyFit t x = true) (.ok (dget kvs x).isSome)
  | _ => .bad
def isD (x y : D) : R Bool := match x, y with
  | x, .non => .ok (match x with | .non => true | _ => false)
  | .bl a, .bl b => .ok (a == b)
  | _, _ => .bad
def eqR (x y : D) : R Bool := gd (plD 20 x = true ∧ plD 20 y = true) (.ok (eqD x y))
def cmpD : Cmp → D → D → R Bool
  | .eq, x, y => eqR x y
  | .ne, x, y => do return !(← eqR x y)
  | .lt, .int i, .int j => .ok (decide (i < j))
  | .le, .int i, .int j => .ok (decide (i ≤ j))
  | .gt, .int i, .int j => .ok (decide (j < i))
  | .ge, .int i, .int j => .ok (decide (j ≤ i))
  | .le, .tup xs, .tup ys => match allOf intOf xs, allOf intOf ys with
    | some a, some b => .ok (lexLe a b)
    | _, _ => .bad
  | .is, x, y => isD x y
  | .isn, x, y => do return !(← isD x y)
  | .in_, x, y => inD x y
  | .nin, x, y => do return !(← inD x y)
  | _, _, _ => .bad
def oR {α : Type} : Option α → R α
  | some a => .ok a
  | none => .bad
def idxD (a i : D) : R D := match a, i with
  | .lst xs, .int k => oR (atI xs k)
  | .tup xs, .int k => oR (atI xs k)
  | .fls xs, .int k => oR (atI xs k)
  | .dic t kvs, k => gd (keyFit t k = true) (oR (dget kvs k))
  | _, _ => .bad
def slcD (a : D) (lo hi : Option Int) : R D := match a with
  | .lst xs => .ok (.lst (cut xs lo hi))
  | .tup xs => .ok (.tup (cut xs lo hi))
  | .fls xs => .ok (.lst (cut xs lo hi))
  | _ => .bad
def revD : D → R D
  | .lst xs => .ok (.lst xs.reverse)
  | .tup xs => .ok (.tup xs.reverse)
  | _ => .bad
def maxL (m : Int) : List Int → Int
  | [] => m
  | x :: r => maxL (if x > m then x else m) r
def minL (m : Int) : List Int → Int
  | [] => m
  | x :: r => minL (if x < m then x else m) r
/-- the first of the least, by keys -/
def minK (m : List Int × D) : List (List Int × D) → List Int × D
  | [] => m
  | x :: r => minK (if lexLe m.1 x.1 then m else x) r
def maxD (ds : List D) : R D := match allOf intOf ds with
  | some (n :: r) => .ok (.int (maxL n r))
  | _ => .bad
def minD (ds : List D) : R D := match allOf intOf ds with
  | some (n :: r) => .ok (.int (minL n r))
  | _ => .bad
/-- the first of the least rows -/
def minT (ds : List D) : R D := match allOf (skey 1) ds with
  | some ks => match ks.zip ds with
    | p :: r => .ok (minK p r).2
    | [] => .bad
  | none => .bad
def sumD (ds : List D) : R D := match allOf intOf ds with
  | some ns => .ok (.int ns.sum)
  | none => .bad
def pairOf : D → Option (D × D)
  | .tup [k, v] => some (k, v)
  | _ => none
def dputs (kvs : List (D × D)) : List (D × D) → List (D × D)
  | [] => kvs
  | (k, v) :: r => dputs (dput kvs k v) r
def allKey (t : Bool) (ps : List (D × D)) : Bool := ps.all fun p => keyFit t p.1
def big62 (i : Int) : Bool := decide (-(2 ^ 62) ≤ i) && decide (i < 2 ^ 62)
def rngL (lo : Int) (n : Nat) (c : Int) : List D := (List.range n).map fun (k : Nat) => .int (lo + (k : Int) * c)
/-- what is there twice counts once: ints -/
def dedup : List Int → List Int
  | [] => []
  | x :: r => if x ∈ dedup r then dedup r else x :: dedup r
def setL (ds : List D) : R (List Int) := match allOf intOf ds with
  | some ns => gd (ns.length < 64) (.ok (dedup ns))
  | none => .bad
def setD (ds : List D) : R D := do
  let ns ← setL ds
  return .lst (((isort (fun a b => decide (a ≤ b)) ns).map D.int))
def biD : Bi → List D → R D
  | .len, [.str x] => gd (x.length ≤ szL) (.ok (.int x.length))
  | .len, [.lst xs] => .ok (.int xs.length)
  | .len, [.tup xs] => .ok (.int xs.length)
  | .len, [.fls xs] => .ok (.int xs.length)
  | .len, [.dic _ kvs] => .ok (.int kvs.length)
  | .sum, [.lst xs] => sumD xs
  | .sum, [.tup xs] => sumD xs
  | .sumvals, [.dic false kvs] => sumD (kvs.map (·.2))
  | .maxvals, [.dic false kvs] => maxD (kvs.map (·.2))
  | .max, [.lst xs] => maxD xs
  | .max, [.tup xs] => maxD xs
  | .min, [.lst xs] => minD xs
  | .min, [.tup xs] => minD xs
  | .minT, [.lst xs] => minT xs
  | .max2, [.int i, .int j] => .ok (.int (if j > i then j else i))
  | .min2, [.int i, .int j] => .ok (.int (if j < i then j else i))
  | .maxd0, [.lst xs] => match xs with
    | [] => .ok (.int 0)
    | x :: r => maxD (x :: r)
  | .sorted, [.lst xs] => do return .lst (← sortD xs)
  | .sorted, [.tup xs] => do return .lst (← sortD xs)
  | .sorted, [.dic _ kvs] => do return .lst (← sortD (kvs.map (·.1)))
  | .list, [.lst xs] => .ok (.lst xs)
  | .list, [.tup xs] => .ok (.lst xs)
  | .tuple, [.lst xs] => .ok (.tup xs)
  | .tuple, [.tup xs] => .ok (.tup xs)
  | .abs, [.int i] => .ok (.int (if i < 0 then -i else i))
  | .int, [.int i] => .ok (.int i)
  | .int, [.bl b] => .ok (.int (b2z b))
  | .all, [.lst xs] => match allOf blOf xs with
    | some bs => .ok (.bl (bs.all id))
    | none => .bad
  | .dict t, [.lst xs] => match allOf pairOf xs with
    | some ps => gd (allKey t ps = true) (.ok (.dic t (dputs [] ps)))
    | none => .bad
  | .tuprev, [.lst xs] => .ok (.tup xs.reverse)
  | .tuprev, [.tup xs] => .ok (.tup xs.reverse)
  | .listrev, [.lst xs] => .ok (.lst xs.reverse)
  | .listrev, [.tup xs] => .ok (.lst xs.reverse)
  | .listrng, [.int j] => gd (big62 j = true ∧ j ≤ 1000000) (.ok (.lst (rngL 0 j.toNat 1)))
  | .sortset, [.lst xs] => setD xs
  | .lenset, [.tup xs] => do return .int ((← setL xs).length : Nat)
  | _, _ => .bad
def isiB : D → Ty → Bool
  | .bl _, .int => true
  | .bl _, .bool => true
  | .int _, .int => true
  | .str _, .str => true
  | .tup _, .tup => true
  | .lst _, .lst => true
  | .fls _, .lst => true
  | _, _ => false
def isiD (d : D) (t : Ty) : R Bool := match d with
  | .dic true _ => .bad
  | _ => .ok (isiB d t)
def getD1 (d k : D) : R (Option D) := match d with
  | .dic t kvs => gd (keyFit t k = true) (.ok (dget kvs k))
  | _ => .bad
def countD (o a : D) : R D := match o with
  | .lst xs => gd (plD 20 a = true ∧ plL 19 xs = true) (.ok (.int ((xs.filter fun z => eqD z a).length : Nat)))
  | _ => .bad
def indexL (a : D) : List D → Nat → Option Nat
  | [], _ => none
  | x :: r, k => if eqD x a then some k else indexL a r (k + 1)
def indexD (o a : D) : R D := match o with
  | .lst xs => gd (plD 20 a = true ∧ plL 19 xs = true) (match indexL a xs 0 with
    | some k => .ok (.int (k : Nat))
    | none => .bad)
  | _ => .bad
def srcD : Src → List D → R (List D)
  | .seq, [.lst xs] => .ok xs
  | .seq, [.tup xs] => .ok xs
  | .seq, [.fls xs] => .ok xs
  | .keys, [.dic _ kvs] => .ok (kvs.map (·.1))
  | .sgn, [.str x] => .ok (x.cps.toList.map fun c => .str ⟨#[c]⟩)
  | .rng1, [.int j] => gd (big62 j = true ∧ j ≤ 1000000) (.ok (rngL 0 j.toNat 1))
  | .rng2, [.int i, .int j] => gd (big62 i = true ∧ big62 j = true ∧ j - i ≤ 1000000) (.ok (rngL i (j - i).toNat 1))
  | .rng3, [.int i, .int j, .int c] => gd (big62 i = true ∧ big62 j = true ∧ c = -1 ∧ i - j ≤ 1000000) (.ok (rngL i (i - j).toNat (-1)))
  | .enum s, [.lst xs] => .ok (xs.zipIdx.map fun p => .tup [.int (s + p.2), p.1])
  | .zip, [.lst xs, .lst ys] => .ok ((xs.zip ys).map fun p => .tup [p.1, p.2])
  | .zip, [.tup xs, .tup ys] => .ok ((xs.zip ys).map fun p => .tup [p.1, p.2])
  | .zip, [.lst xs, .tup ys] => .ok ((xs.zip ys).map fun p => .tup [p.1, p.2])
  | .zip, [.tup xs, .lst ys] => .ok ((xs.zip ys).map fun p => .tup [p.1, p.2])
  | .items, [.dic false kvs] => .ok (kvs.map fun p => .tup [p.1, p.2])
  | _, _ => .bad
def setAll : List Nat → List D → Rho → R Rho
  | [], [], ρ => .ok ρ
  | i :: is, d :: ds, ρ => setAll is ds (setR ρ i false d)
  | _, _, _ => .bad
def asgP : Pat → D → Rho → R Rho
  | .one i, d, ρ => .ok (setR ρ i false d)
  | .tup is, .tup ds, ρ => setAll is ds ρ
  | _, _, _ => .bad
def patL : Pat → List Nat
  | .one i => [i]
  | .tup is => is
def wipeR (ρ : Rho) : List Nat → Rho
  | [] => ρ
  | v :: vs => (wipeR ρ vs).set v none
def compL (f : D → R (Option D)) : List D → R (List D)
  | [] => .ok []
  | d :: ds => do
    let o ← f d
    let r ← compL f ds
    match o with
    | some x => return x :: r
    | none => return r
def noOwn (ρ : Rho) (is : List Nat) : Bool := is.all fun i => !owned ρ i
def isV : E → Bool
  | .var _ => true
  | _ => false
abbrev Calls := Nat → List D → R D
def isDic : D → Bool
  | .dic _ _ => true
  | _ => false
def isLst : D → Bool
  | .lst _ => true
  | _ => false
mutual
def evE (C : Calls) : Bool → E → Rho → R D
  | b, .var i, ρ => do
    let p ← rget ρ i
    gd (b = true ∨ p.1 = false) (.ok p.2)
  | _, .non, _ => .ok .non
  | _, .bl b, _ => .ok (.bl b)
  | _, .int i, _ => .ok (.int i)
  | _, .str x, _ => .ok (.str (Str.ofString x))
  | _, .glb _ i, _ => .ok (.int i)
  | _, .tup es, ρ => do
    let ds ← evL C false es ρ
    return .tup ds
  | _, .lst es, ρ => do
    let ds ← evL C false es ρ
    return .lst ds
  | _, .dct0 t, _ => .ok (.dic t [])
  | _, .dsp t k v, ρ => do
    let x ← evE C true k ρ
    let y ← evE C false v ρ
    gd (keyFit t x = true) (.ok (.dic t [(x, y)]))
  | _, .bin o a b, ρ => do
    let x ← evE C true a ρ
    let y ← evE C true b ρ
    pr (binD o x y)
  | _, .neg a, ρ => do
    let x ← evE C true a ρ
    match x with
    | .int i => return .int (-i)
    | _ => .bad
  | _, .cmp o a b, ρ => do
    let x ← evE C true a ρ
    let y ← evE C true b ρ
    let k ← pr (cmpD o x y)
    return .bl k
  | _, .chain o p a b c, ρ => do
    let x ← evE C true a ρ
    let y ← evE C true b ρ
    let k ← pr (cmpD o x y)
    match k with
    | true => do
      let z ← evE C true c ρ
      let k ← pr (cmpD p y z)
      return .bl k
    | false => return .bl false
  | _, .and es, ρ => evAnd C es ρ
  | _, .or es, ρ => evOr C es ρ
  | _, .not a, ρ => do
    let x ← evE C false a ρ
    match x with
    | .bl k => return .bl (!k)
    | _ => .bad
  | _, .ife c a b, ρ => do
    let x ← evE C false c ρ
    match x with
    | .bl true => evE C false a ρ
    | .bl false => evE C false b ρ
    | _ => .bad
  | _, .idx a i, ρ => do
    let x ← evE C true a ρ
    let y ← evE C true i ρ
    pr (idxD x y)
  | _, .slc a lo hi, ρ => do
    let x ← evE C true a ρ
    let l ← evO C lo ρ
    let h ← evO C hi ρ
    pr (slcD x l h)
  | _, .rev a, ρ => do
    let x ← evE C true a ρ
    pr (revD x)
  | _, .call k _ es, ρ => do
    let ds ← evA C es ρ
    let d ← C k ds
    gd (anyOwn es ρ = false ∨ pureD d = true) (.ok d)
  | _, .bi b es, ρ => do
    let ds ← evL C true es ρ
    pr (biD b ds)
  | _, .isi e t, ρ => do
    let x ← evE C true e ρ
    let k ← pr (isiD x t)
    return .bl k
  | _, .get1 d k, ρ => do
    let x ← evE C true d ρ
    gd (isDic x = true) (do
      let y ← evE C true k ρ
      let o ← pr (getD1 x y)
      return o.getD .non)
  | _, .get2 d k z, ρ => do
    let x ← evE C true d ρ
    gd (isDic x = true) (do
      let y ← evE C true k ρ
      let v ← evE C false z ρ
      let o ← pr (getD1 x y)
      return o.getD v)
  | _, .count o a, ρ => do
    let x ← evE C true o ρ
    gd (isLst x = true) (do
      let y ← evE C true a ρ
      pr (countD x y))
  | _, .index o a, ρ => do
    let x ← evE C true o ρ
    gd (isLst x = true) (do
      let y ← evE C true a ρ
      pr (indexD x y))
  | _, .comp elt p s es c, ρ => do
    let ds ← evL C false es ρ
    let xs ← pr (srcD s ds)
    let ys ← pr (compL (fun d => do
      let ρ' ← asgP p d (wipeR ρ (patL p))
      let k ← evC C c ρ'
      match k with
      | true => do
        let y ← evE C false elt ρ'
        return some y
      | false => return none) xs)
    gd (noOwn ρ (patL p) = true ∧ xs.length < szL) (.ok (.lst ys))
def evC (C : Calls) : Option E → Rho → R Bool
  | none, _ => .ok true
  | some e, ρ => do
    let x ← evE C false e ρ
    match x with
    | .bl b => return b
    | _ => .bad
def evO (C : Calls) : Option E → Rho → R (Option Int)
  | none, _ => .ok none
  | some e, ρ => do
    let x ← evE C false e ρ
    match x with
    | .int i => return some i
    | _ => .bad
def evL (C : Calls) : Bool → List E → Rho → R (List D)
  | _, [], _ => .ok []
  | b, e :: es, ρ => do
    let d ← evE C b e ρ
    let ds ← evL C b es ρ
    return d :: ds
def evA (C : Calls) : List E → Rho → R (List D)
  | [], _ => .ok []
  | e :: es, ρ => do
    let d ← evE C (isV e) e ρ
    let ds ← evA C es ρ
    return d :: ds
def evAnd (C : Calls) : List E → Rho → R D
  | [], _ => .bad
  | [e], ρ => evE C false e ρ
  | e :: f :: es, ρ => do
    let x ← evE C false e ρ
    match x with
    | .bl true => evAnd C (f :: es) ρ
    | .bl false => return .bl false
    | _ => .bad
def evOr (C : Calls) : List E → Rho → R D
  | [], _ => .bad
  | [e], ρ => evE C false e ρ
  | e :: f :: es, ρ => do
    let x ← evE C false e ρ
    match x with
    | .bl true => return .bl true
    | .bl false => evOr C (f :: es) ρ
    | _ => .bad
end
inductive Out where
  | nx (ρ : Rho) | rt (d : D)
def loopF (f : D → Rho → R Out) : List D → Rho → R Out
  | [], ρ => .ok (.nx ρ)
  | d :: ds, ρ => do
    let o ← f d ρ
    match o with
    | .nx ρ' => loopF f ds ρ'
    | .rt d => return .rt d
/-- nothing is raised while a dict is walked -/
def isDS : Src → Bool
  | .keys => true
  | .items => true
  | _ => false
def dictX {α : Type} (s : Src) (r : R α) : R α := if isDS s = true then pr r else r
def loopW (c : Rho → R D) (f : Rho → R Out) : Nat → Rho → R Out
  | 0, _ => .bad
  | k + 1, ρ => do
    let x ← c ρ
    match x with
    | .bl true => do
      let o ← f ρ
      match o with
      | .nx ρ' => loopW c f k ρ'
      | .rt d => return .rt d
    | .bl false => return .nx ρ
    | _ => .bad
/-- an item of a name's list, from its end -/
def ixE (i : Nat) (j : Int) : E := .idx (.var i) (.neg (.int j))
def lstAt (ρ : Rho) (i : Nat) : Bool := match ρ[i]? with
  | some (some (_, .lst _)) => true
  | _ => false
def augD : Bin → D → D → R D
  | .add, .int i, .int j => .ok (.int (i + j))
  | .sub, .int i, .int j => .ok (.int (i - j))
  | _, _, _ => .bad
def popD : List D → R (D × List D)
  | [] => .bad
  | x :: r => .ok ((x :: r).getLast (List.cons_ne_nil _ _), (x :: r).dropLast)
def updI (ρ : Rho) (i : Nat) (f : D → R D) : R Rho := do
  let p ← rget ρ i
  gd (p.1 = true) (do return setR ρ i true (← f p.2))
def setiD (k v : D) : D → R D
  | .lst xs => match k with
    | .int j => match ixN xs.length j with
      | some m => .ok (.lst (xs.set m v))
      | none => .bad
    | _ => .bad
  | .dic t kvs => gd (keyFit t k = true ∧ kvs.length < szL) (.ok (.dic t (dput kvs k v)))
  | _ => .bad
def appD (v : D) : D → R D
  | .lst xs => gd (xs.length < szL) (.ok (.lst (xs ++ [v])))
  | _ => .bad
def extD (v : D) : D → R D
  | .lst xs => match v with
    | .lst ys => gd (xs.length + ys.length ≤ szL) (.ok (.lst (xs ++ ys)))
    | _ => .bad
  | _ => .bad
def insD (k v : D) : D → R D
  | .lst xs => match k with
    | .int j => gd (0 ≤ j ∧ j ≤ xs.length ∧ xs.length < szL) (.ok (.lst (xs.take j.toNat ++ v :: xs.drop j.toNat)))
    | _ => .bad
  | _ => .bad
def remL (v : D) : List D → Option (List D)
  | [] => none
  | x :: r => if eqD x v then some r else (remL v r).map (x :: ·)
def remD (v : D) : D → R D
  | .lst xs => gd (plD 20 v = true ∧ plL 19 xs = true) (match remL v xs with
    | some r => .ok (.lst r)
    | none => .bad)
  | _ => .bad
/-- the fields of the program's exceptions -/
def fldsOf : String → List String
  | "NoWeb" => ["at"]
  | "NoSteps" => ["at"]
  | "NoText" => ["row"]
  | "TooGreat" => ["many", "most"]
  | _ => []
/-- found.index(True), where True stands there once -/
def kindAt (bs : List Bool) : Option Int := if (bs.filter id).length = 1 then some (bs.findIdx id : Nat) else none
def kindR (l : List (List String)) (c : String) : R Int := match kindAt (l.flatten.map fun c' => decide (c' = c)) with
  | some r => .ok r
  | none => .bad
def saD (l : List (List String)) (c : String) (fs : List D) : SA → R D
  | .int i => .ok (.int i)
  | .kinds => do return .int (← kindR l c)
  | .fld f => match ((fldsOf c).zip fs).lookup f with
    | some d => .ok d
    | none => .bad
def saL (l : List (List String)) (c : String) (fs : List D) : List SA → R (List D)
  | [] => .ok []
  | a :: as => do
    let d ← saD l c fs a
    let ds ← saL l c fs as
    return d :: ds
def svD (l : List (List String)) (c : String) (fs : List D) : SV → R D
  | .one a => saD l c fs a
  | .eqk i => do return .bl (decide ((← kindR l c) = i))
  | .tup as => do return .tup (← saL l c fs as)
  | .lst as => do return .lst (← saL l c fs as)
def suD (l : List (List String)) (c : String) (fs : List D) : SU → R D
  | .ret v => svD l c fs v
  | .ifk i v w => do
    let k ← kindR l c
    if k = i then svD l c fs v else svD l c fs w
def tryR (l : List (List String)) (su : SU) : R Out → R Out
  | .ok o => .ok o
  | .exc c fs => gd (c ∈ l.flatten) (do
    let d ← pr (suD l c fs su)
    return .rt d)
  | .bad => .bad
mutual
def exS (C : Calls) (fr : Bool) : S → Rho → R Out
  | .asg i own e un, ρ => do
    let d ← evE C false e (unown un ρ)
    gd (own = false ∨ (frE e = true ∧ isC d = true)) (.ok (.nx (setR (unown un ρ) i own d)))
  | .asgt is e un, ρ => do
    let d ← evE C false e (unown un ρ)
    let ρ' ← pr (asgP (.tup is) d (unown un ρ))
    return .nx ρ'
  | .par is es, ρ => do
    let ds ← evL C false es ρ
    let ρ' ← pr (setAll is ds ρ)
    return .nx ρ'
  | .seti i k v un, ρ => gd (owned (unown un ρ) i = true) (do
    let x ← evE C false v (unown un ρ)
    let y ← evE C true k (unown un ρ)
    let ρ' ← pr (updI (unown un ρ) i (setiD y x))
    return .nx ρ')
  | .augi i o k v, ρ => gd (owned ρ i = true) (do
    let y ← evE C true k ρ
    let p ← rget ρ i
    let x ← pr (idxD p.2 y)
    let z ← evE C true v ρ
    let u ← pr (augD o x z)
    let ρ' ← pr (updI ρ i (setiD y u))
    return .nx ρ')
  | .aug i o e, ρ => do
    let p ← rget ρ i
    let z ← evE C true e ρ
    let u ← pr (augD o p.2 z)
    return .nx (setR ρ i false u)
  | .app i e un, ρ => gd (ownedL (unown un ρ) i = true) (do
    let x ← evE C false e (unown un ρ)
    let ρ' ← pr (updI (unown un ρ) i (appD x))
    return .nx ρ')
  | .ext i e, ρ => gd (ownedL ρ i = true) (do
    let x ← evE C true e ρ
    let ρ' ← pr (updI ρ i (extD x))
    return .nx ρ')
  | .inse i k e un, ρ => gd (ownedL (unown un ρ) i = true) (do
    let y ← evE C false k (unown un ρ)
    let x ← evE C false e (unown un ρ)
    let ρ' ← pr (updI (unown un ρ) i (insD y x))
    return .nx ρ')
  | .rem i e, ρ => gd (ownedL ρ i = true) (do
    let x ← evE C true e ρ
    let ρ' ← pr (updI ρ i (remD x))
    return .nx ρ')
  | .pop j i, ρ => do
    let p ← rget ρ i
    gd (p.1 = true) (match p.2 with
      | .lst xs => do
        let q ← pr (popD xs)
        return .nx (setR (setR ρ i true (.lst q.2)) j false q.1)
      | _ => .bad)
  | .xpr e un, ρ => do
    let _ ← evE C false e (unown un ρ)
    return .nx (unown un ρ)
  | .ret e un, ρ => do
    let d ← evE C false e (unown un ρ)
    gd (fr = false ∨ frE e = true ∨ isC d = false) (.ok (.rt d))
  | .retv i, ρ => do
    let p ← rget ρ i
    gd (fr = false ∨ p.1 = true ∨ isC p.2 = false) (.ok (.rt p.2))
  | .ret0, _ => .ok (.rt .non)
  | .iff c a b, ρ => do
    let x ← evE C false c ρ
    match x with
    | .bl true => exL C fr a ρ
    | .bl false => exL C fr b ρ
    | _ => .bad
  | .iffu un c a b, ρ => do
    let x ← evE C false c (unown un ρ)
    match x with
    | .bl true => exL C fr a ρ
    | .bl false => exL C fr b ρ
    | _ => .bad
  | .for_ p s es un b, ρ => do
    let ds ← evL C false es (unown un ρ)
    let xs ← pr (srcD s ds)
    dictX s (loopF (fun d ρ' => do
      let ρ'' ← pr (asgP p d ρ')
      exL C fr b ρ'') xs (unown un ρ))
  | .forx p i j un b, ρ => gd (lstAt (unown un ρ) i = true) (do
    let ds ← evL C false [ixE i j] (unown un ρ)
    let xs ← pr (srcD .keys ds)
    dictX .keys (loopF (fun d ρ' => do
      let ρ'' ← pr (asgP p d ρ')
      exL C fr b ρ'') xs (unown un ρ)))
  | .whl L c b, ρ => loopW (fun ρ' => evE C false c ρ') (fun ρ' => exL C fr b ρ') L ρ
  | .never, _ => .bad
  | .wipe is, ρ => .ok (.nx (wipeR (unown is ρ) is))
  | .raise c es, ρ => do
    let ds ← evL C true es ρ
    match allOf intOf ds with
    | some ns => gd (ns.length = (fldsOf c).length) (.exc c (ns.map D.int))
    | none => .bad
  | .try_ b _ k su, ρ => tryR k.ls su (exL C fr b ρ)
def exL (C : Calls) (fr : Bool) : List S → Rho → R Out
  | [], ρ => .ok (.nx ρ)
  | s :: r, ρ => do
    let o ← exS C fr s ρ
    match o with
    | .nx ρ' => exL C fr r ρ'
    | .rt d => return .rt d
end
def initR (fd : FD) (ds : List D) : Rho := ds.map (fun d => some (false, d)) ++ List.replicate (fd.nms.length - ds.length) none
def endR : R Out → R D
  | .ok (.rt d) => .ok d
  | .ok (.nx _) => .ok .non
  | .exc c fs => .exc c fs
  | .bad => .bad
def run (P : Prg) : Nat → Nat → List D → R D
  | 0, _, _ => .bad
  | n + 1, k, ds => match P.fn k with
    | none => .bad
    | some fd => gd (ds.length = fd.prm.length) (endR (exL (run P n) fd.fr fd.body (initR fd ds)))
end Z

/-! Z, part 2: which values stand for which data; the state of a def's body. -/
namespace Z
open PySem L2
open Classical

abbrev Frg := PySem.W.Frag
abbrev Le (G H : Hp) : Prop := ∀ a o, G a = some o → H a = some o
theorem Le.refl (H : Hp) : Le H H := fun _ _ h => h
theorem Le.trans {A B C : Hp} (h : Le A B) (k : Le B C) : Le A C := fun a o e => k a o (h a o e)
theorem Le.rd {G H : Hp} (h : Le G H) {a : Addr} {u : HO} (r : Rd G a u) : Rd H a u := by
  rcases r with r | ⟨o, r⟩
  · exact .inl (h _ _ r)
  · exact .inr ⟨o, h _ _ r⟩
theorem Le.sqL {G H : Hp} {K : Frg} (h : Le G H) {a : Addr} {xs : List V} (r : SqL K G a xs) : SqL K H a xs := by
  rcases r with r | r
  · exact .inl (h.rd r)
  · exact .inr r
theorem Le.upd {H : Hp} {a : Addr} {o : HO} (h : H a = none) : Le H (upd H a o) := fun b x e => by
  rw [upd_ne (ne_of_none e h)]; exact e
theorem Le.none {G H : Hp} (h : Le G H) {a : Addr} (e : H a = none) : G a = none := by
  cases q : G a with
  | none => rfl
  | some o => rw [h _ _ q] at e; cases e

def kD : D → Option Key
  | .int i => some (.inl i)
  | .str x => some (.inr x)
  | _ => none
def tkD : D → Option (List Key)
  | .tup ds => (allOf intOf ds).map fun ns => ns.map Sum.inl
  | _ => none
mutual
def Den (K : Frg) (H : Hp) : D → V → Prop
  | .non, v => v = .non
  | .bl b, v => v = .bl b
  | .int i, v => v = .int i
  | .str x, v => v = .str x
  | .tup ds, v => ∃ a vs, v = .ref a ∧ H a = some (.tup vs) ∧ DenL K H ds vs
  | .lst ds, v => ∃ a vs, v = .ref a ∧ H a = some (.lst vs) ∧ DenL K H ds vs
  | .fls ds, v => ∃ a vs, v = .ref a ∧ SqL K H a vs ∧ DenL K H ds vs
  | .dic false kvs, v => ∃ a ks, v = .ref a ∧ Rd H a (.dK ks) ∧ DenK K H kvs ks
  | .dic true kvs, v => ∃ a ks, v = .ref a ∧ Rd H a (.dT ks) ∧ DenT K H kvs ks
def DenL (K : Frg) (H : Hp) : List D → List V → Prop
  | [], vs => vs = []
  | d :: ds, vs => ∃ v r, vs = v :: r ∧ Den K H d v ∧ DenL K H ds r
def DenK (K : Frg) (H : Hp) : List (D × D) → List (Key × V) → Prop
  | [], ks => ks = []
  | (k, d) :: ds, ks => ∃ q v r, ks = (q, v) :: r ∧ kD k = some q ∧ Den K H d v ∧ DenK K H ds r
def DenT (K : Frg) (H : Hp) : List (D × D) → List (List Key × V) → Prop
  | [], ks => ks = []
  | (k, d) :: ds, ks => ∃ q v r, ks = (q, v) :: r ∧ tkD k = some q ∧ Den K H d v ∧ DenT K H ds r
end
mutual
theorem Den.mono {K : Frg} {G H : Hp} (h : Le G H) : ∀ (d : D) (v : V), Den K G d v → Den K H d v
  | .non, _, x => x
  | .bl _, _, x => x
  | .int _, _, x => x
  | .str _, _, x => x
  | .tup ds, v, x => by
    simp only [Den] at x ⊢
    obtain ⟨a, vs, e, g, l⟩ := x
    exact ⟨a, vs, e, h _ _ g, DenL.mono h ds vs l⟩
  | .lst ds, v, x => by
    simp only [Den] at x ⊢
    obtain ⟨a, vs, e, g, l⟩ := x
    exact ⟨a, vs, e, h _ _ g, DenL.mono h ds vs l⟩
  | .fls ds, v, x => by
    simp only [Den] at x ⊢
    obtain ⟨a, vs, e, g, l⟩ := x
    exact ⟨a, vs, e, h.sqL g, DenL.mono h ds vs l⟩
  | .dic false kvs, v, x => by
    simp only [Den] at x ⊢
    obtain ⟨a, ks, e, g, l⟩ := x
    exact ⟨a, ks, e, h.rd g, DenK.mono h kvs ks l⟩
  | .dic true kvs, v, x => by
    simp only [Den] at x ⊢
    obtain ⟨a, ks, e, g, l⟩ := x
    exact ⟨a, ks, e, h.rd g, DenT.mono h kvs ks l⟩
theorem DenL.mono {K : Frg} {G H : Hp} (h : Le G H) : ∀ (ds : List D) (vs : List V), DenL K G ds vs → DenL K H ds vs
  | [], _, x => x
  | d :: ds, vs, x => by
    simp only [DenL] at x ⊢
    obtain ⟨v, r, e, g, l⟩ := x
    exact ⟨v, r, e, Den.mono h d v g, DenL.mono h ds r l⟩
theorem DenK.mono {K : Frg} {G H : Hp} (h : Le G H) : ∀ (ds : List (D × D)) (vs : List (Key × V)), DenK K G ds vs → DenK K H ds vs
  | [], _, x => x
  | (k, d) :: ds, vs, x => by
    simp only [DenK] at x ⊢
    obtain ⟨q, v, r, e, g, g2, l⟩ := x
    exact ⟨q, v, r, e, g, Den.mono h d v g2, DenK.mono h ds r l⟩
theorem DenT.mono {K : Frg} {G H : Hp} (h : Le G H) : ∀ (ds : List (D × D)) (vs : List (List Key × V)), DenT K G ds vs → DenT K H ds vs
  | [], _, x => x
  | (k, d) :: ds, vs, x => by
    simp only [DenT] at x ⊢
    obtain ⟨q, v, r, e, g, g2, l⟩ := x
    exact ⟨q, v, r, e, g, Den.mono h d v g2, DenT.mono h ds r l⟩
end
theorem DenL.length {K : Frg} {H : Hp} : ∀ {ds : List D} {vs : List V}, DenL K H ds vs → vs.length = ds.length
  | [], _, x => by simp only [DenL] at x; rw [x]; rfl
  | d :: ds, vs, x => by
    simp only [DenL] at x
    obtain ⟨v, r, e, g, l⟩ := x
    rw [e, List.length_cons, List.length_cons, DenL.length l]
theorem DenK.length {K : Frg} {H : Hp} : ∀ {ds : List (D × D)} {vs : List (Key × V)}, DenK K H ds vs → vs.length = ds.length
  | [], _, x => by simp only [DenK] at x; rw [x]; rfl
  | (k, d) :: ds, vs, x => by
    simp only [DenK] at x
    obtain ⟨q, v, r, e, g, _, l⟩ := x
    rw [e, List.length_cons, List.length_cons, DenK.length l]
theorem DenT.length {K : Frg} {H : Hp} : ∀ {ds : List (D × D)} {vs : List (List Key × V)}, DenT K H ds vs → vs.length = ds.length
  | [], _, x => by simp only [DenT] at x; rw [x]; rfl
  | (k, d) :: ds, vs, x => by
    simp only [DenT] at x
    obtain ⟨q, v, r, e, g, _, l⟩ := x
    rw [e, List.length_cons, List.length_cons, DenT.length l]
theorem DenL.get {K : Frg} {H : Hp} : ∀ {ds : List D} {vs : List V} {i : Nat} {d : D}, DenL K H ds vs → ds[i]? = some d → ∃ v, vs[i]? = some v ∧ Den K H d v
  | [], _, _, _, _, h => by simp at h
  | d :: ds, vs, 0, e, x, h => by
    simp only [DenL] at x
    obtain ⟨v, r, e, g, l⟩ := x
    simp at h; subst h; subst e
    exact ⟨v, rfl, g⟩
  | d :: ds, vs, i + 1, e, x, h => by
    simp only [DenL] at x
    obtain ⟨v, r, e', g, l⟩ := x
    subst e'
    obtain ⟨w, h1, h2⟩ := DenL.get (i := i) l (by simpa using h)
    exact ⟨w, by simpa using h1, h2⟩
theorem DenL.getV {K : Frg} {H : Hp} {ds : List D} {vs : List V} {i : Nat} {v : V} (x : DenL K H ds vs) (h : vs[i]? = some v) : ∃ d, ds[i]? = some d ∧ Den K H d v := by
  have hi : i < ds.length := by rw [← x.length]; exact (List.getElem?_eq_some_iff.mp h).1
  obtain ⟨w, h1, h2⟩ := x.get (List.getElem?_eq_getElem hi)
  rw [h] at h1; cases h1
  exact ⟨_, List.getElem?_eq_getElem hi, h2⟩
theorem DenL.append {K : Frg} {H : Hp} : ∀ {ds es : List D} {vs us : List V}, DenL K H ds vs → DenL K H es us → DenL K H (ds ++ es) (vs ++ us)
  | [], _, _, _, x, y => by simp only [DenL] at x; subst x; exact y
  | d :: ds, es, vs, us, x, y => by
    simp only [DenL] at x
    obtain ⟨v, r, e, g, l⟩ := x
    subst e
    show DenL K H (d :: (ds ++ es)) _
    simp only [DenL]
    exact ⟨v, r ++ us, rfl, g, DenL.append l y⟩
theorem DenL.one {K : Frg} {H : Hp} {d : D} {v : V} (h : Den K H d v) : DenL K H [d] [v] := by
  simp only [DenL]; exact ⟨v, [], rfl, h, rfl⟩
theorem DenL.take {K : Frg} {H : Hp} : ∀ {ds : List D} {vs : List V} (n : Nat), DenL K H ds vs → DenL K H (ds.take n) (vs.take n)
  | [], _, n, x => by simp only [DenL] at x; subst x; simp [DenL]
  | d :: ds, vs, 0, x => by simp [DenL]
  | d :: ds, vs, n + 1, x => by
    simp only [DenL] at x
    obtain ⟨v, r, e, g, l⟩ := x
    subst e
    show DenL K H (d :: ds.take n) (v :: r.take n)
    simp only [DenL]
    exact ⟨v, r.take n, rfl, g, DenL.take n l⟩
theorem DenL.drop {K : Frg} {H : Hp} : ∀ {ds : List D} {vs : List V} (n : Nat), DenL K H ds vs → DenL K H (ds.drop n) (vs.drop n)
  | [], _, n, x => by simp only [DenL] at x; subst x; simp [DenL]
  | d :: ds, vs, 0, x => x
  | d :: ds, vs, n + 1, x => by
    simp only [DenL] at x
    obtain ⟨v, r, e, g, l⟩ := x
    subst e
    exact DenL.drop n l
theorem DenL.reverse {K : Frg} {H : Hp} : ∀ {ds : List D} {vs : List V}, DenL K H ds vs → DenL K H ds.reverse vs.reverse
  | [], _, x => by simp only [DenL] at x; subst x; simp [DenL]
  | d :: ds, vs, x => by
    simp only [DenL] at x
    obtain ⟨v, r, e, g, l⟩ := x
    subst e
    rw [List.reverse_cons, List.reverse_cons]
    exact DenL.append (DenL.reverse l) (DenL.one g)
theorem DenL.set {K : Frg} {H : Hp} {d : D} {v : V} (h : Den K H d v) : ∀ {ds : List D} {vs : List V} (i : Nat), DenL K H ds vs → DenL K H (ds.set i d) (vs.set i v)
  | [], _, i, x => by simp only [DenL] at x; subst x; simp [DenL]
  | e :: ds, vs, 0, x => by
    simp only [DenL] at x
    obtain ⟨w, r, e', g, l⟩ := x
    subst e'
    show DenL K H (d :: ds) (v :: r)
    simp only [DenL]
    exact ⟨v, r, rfl, h, l⟩
  | e :: ds, vs, i + 1, x => by
    simp only [DenL] at x
    obtain ⟨w, r, e', g, l⟩ := x
    subst e'
    show DenL K H (e :: ds.set i d) (w :: r.set i v)
    simp only [DenL]
    exact ⟨w, r.set i v, rfl, g, DenL.set h i l⟩
theorem DenL.ints {K : Frg} {H : Hp} : ∀ {ds : List D} {vs : List V} {ns : List Int}, DenL K H ds vs → allOf intOf ds = some ns → vs = ns.map V.int ∧ ds = ns.map D.int
  | [], _, _, x, h => by simp only [DenL] at x; simp [allOf] at h; subst h; exact ⟨x, rfl⟩
  | d :: ds, vs, ns, x, h => by
    simp only [DenL] at x
    obtain ⟨v, r, e', g, l⟩ := x
    cases d <;> simp [allOf, intOf] at h
    rename_i i
    cases q : allOf intOf ds with
    | none => rw [q] at h; cases h
    | some ms =>
      rw [q] at h
      simp at h; subst h
      simp only [Den] at g
      obtain ⟨h1, h2⟩ := DenL.ints l q
      exact ⟨by rw [e', g, h1]; rfl, by rw [h2]; rfl⟩
theorem DenL.of_ints {K : Frg} {H : Hp} : ∀ (ns : List Int), DenL K H (ns.map D.int) (ns.map V.int)
  | [] => by simp [DenL]
  | n :: ns => by simp only [List.map_cons, DenL]; exact ⟨_, _, rfl, by simp [Den], DenL.of_ints ns⟩

/-! ### what stands at an address that a name owns -/
def Cont (K : Frg) (H G : Hp) : D → Addr → Prop
  | .lst ds, a => ∃ vs, H a = some (.lst vs) ∧ DenL K G ds vs
  | .dic false kvs, a => ∃ ks, H a = some (.dK ks) ∧ DenK K G kvs ks
  | .dic true kvs, a => ∃ ks, H a = some (.dT ks) ∧ DenT K G kvs ks
  | _, _ => False
theorem Cont.mono {K : Frg} {H H' G G' : Hp} {a : Addr} (h : Le G G') (e : ∀ o, H a = some o → H' a = some o) : ∀ {d : D}, Cont K H G d a → Cont K H' G' d a
  | .lst ds, ⟨vs, x, y⟩ => ⟨vs, e _ x, DenL.mono h _ _ y⟩
  | .dic false kvs, ⟨ks, x, y⟩ => ⟨ks, e _ x, DenK.mono h _ _ y⟩
  | .dic true kvs, ⟨ks, x, y⟩ => ⟨ks, e _ x, DenT.mono h _ _ y⟩
/-- .. read as a value -/
theorem Cont.den {K : Frg} {H G : Hp} {a : Addr} (h : Le G H) : ∀ {d : D}, Cont K H G d a → Den K H d (.ref a)
  | .lst ds, ⟨vs, x, y⟩ => by simp only [Den]; exact ⟨a, vs, rfl, x, DenL.mono h _ _ y⟩
  | .dic false kvs, ⟨ks, x, y⟩ => by simp only [Den]; exact ⟨a, ks, rfl, .inl x, DenK.mono h _ _ y⟩
  | .dic true kvs, ⟨ks, x, y⟩ => by simp only [Den]; exact ⟨a, ks, rfl, .inl x, DenT.mono h _ _ y⟩
theorem Cont.isC {K : Frg} {H G : Hp} {a : Addr} : ∀ {d : D}, Cont K H G d a → isC d = true
  | .lst ds, _ => rfl
  | .dic false kvs, _ => rfl
  | .dic true kvs, _ => rfl
theorem Cont.some {K : Frg} {H G : Hp} {a : Addr} : ∀ {d : D}, Cont K H G d a → ∃ o, H a = some o ∧ ∀ xs, o ≠ .tup xs
  | .lst ds, ⟨vs, x, y⟩ => ⟨_, x, fun _ e => by cases e⟩
  | .dic false kvs, ⟨ks, x, y⟩ => ⟨_, x, fun _ e => by cases e⟩
  | .dic true kvs, ⟨ks, x, y⟩ => ⟨_, x, fun _ e => by cases e⟩
/-- read by a borrower: the top stands in H, what it holds in G -/
def Top (K : Frg) (H G : Hp) : D → V → Prop
  | .lst ds, v => ∃ a vs, v = .ref a ∧ H a = some (.lst vs) ∧ DenL K G ds vs
  | .dic false kvs, v => ∃ a ks, v = .ref a ∧ Rd H a (.dK ks) ∧ DenK K G kvs ks
  | .dic true kvs, v => ∃ a ks, v = .ref a ∧ Rd H a (.dT ks) ∧ DenT K G kvs ks
  | d, v => Den K G d v
theorem Top.of {K : Frg} {H G : Hp} (h : Le G H) {v : V} : ∀ {d : D}, Den K G d v → Top K H G d v
  | .non, x => x
  | .bl _, x => x
  | .int _, x => x
  | .str _, x => x
  | .tup _, x => x
  | .fls _, x => x
  | .lst ds, x => by
    simp only [Den] at x
    obtain ⟨a, vs, e, g, l⟩ := x
    exact ⟨a, vs, e, h _ _ g, l⟩
  | .dic false ds, x => by
    simp only [Den] at x
    obtain ⟨a, ks, e, g, l⟩ := x
    exact ⟨a, ks, e, h.rd g, l⟩
  | .dic true ds, x => by
    simp only [Den] at x
    obtain ⟨a, ks, e, g, l⟩ := x
    exact ⟨a, ks, e, h.rd g, l⟩
theorem Top.ofC {K : Frg} {H G : Hp} {a : Addr} : ∀ {d : D}, Cont K H G d a → Top K H G d (.ref a)
  | .lst ds, ⟨vs, x, y⟩ => ⟨a, vs, rfl, x, y⟩
  | .dic false kvs, ⟨ks, x, y⟩ => ⟨a, ks, rfl, .inl x, y⟩
  | .dic true kvs, ⟨ks, x, y⟩ => ⟨a, ks, rfl, .inl x, y⟩
theorem Top.den {K : Frg} {H G : Hp} (h : Le G H) {v : V} : ∀ {d : D}, Top K H G d v → Den K H d v
  | .non, x => x
  | .bl _, x => x
  | .int _, x => x
  | .str _, x => x
  | .tup _, x => Den.mono h _ _ x
  | .fls _, x => Den.mono h _ _ x
  | .lst ds, ⟨a, vs, e, g, l⟩ => by simp only [Den]; exact ⟨a, vs, e, g, DenL.mono h _ _ l⟩
  | .dic false ds, ⟨a, ks, e, g, l⟩ => by simp only [Den]; exact ⟨a, ks, e, g, DenK.mono h _ _ l⟩
  | .dic true ds, ⟨a, ks, e, g, l⟩ => by simp only [Den]; exact ⟨a, ks, e, g, DenT.mono h _ _ l⟩
theorem Top.mono {K : Frg} {H H' G G' : Hp} (h : Le G G') (e : Le H H') {v : V} : ∀ {d : D}, Top K H G d v → Top K H' G' d v
  | .non, x => x
  | .bl _, x => x
  | .int _, x => x
  | .str _, x => x
  | .tup _, x => Den.mono h _ _ x
  | .fls _, x => Den.mono h _ _ x
  | .lst ds, ⟨a, vs, q, g, l⟩ => ⟨a, vs, q, e _ _ g, DenL.mono h _ _ l⟩
  | .dic false ds, ⟨a, ks, q, g, l⟩ => ⟨a, ks, q, e.rd g, DenK.mono h _ _ l⟩
  | .dic true ds, ⟨a, ks, q, g, l⟩ => ⟨a, ks, q, e.rd g, DenT.mono h _ _ l⟩

/-! ### a heap without some addresses -/
noncomputable def sub (H : Hp) (p : Addr → Prop) : Hp := fun a => if p a then none else H a
theorem sub_le {H : Hp} {p : Addr → Prop} : Le (sub H p) H := fun a o e => by
  unfold sub at e
  split at e
  · cases e
  · exact e
theorem sub_at {H : Hp} {p : Addr → Prop} {a : Addr} (h : ¬ p a) : sub H p a = H a := if_neg h
theorem sub_mono {H H' : Hp} {p p' : Addr → Prop} (h : ∀ a o, H a = some o → ¬ p a → H' a = some o ∧ ¬ p' a) : Le (sub H p) (sub H' p') := fun a o e => by
  unfold sub at e
  split at e
  · cases e
  · rename_i n
    obtain ⟨h1, h2⟩ := h a o e n
    rw [sub_at h2]; exact h1
theorem sub_some {H : Hp} {p : Addr → Prop} {a : Addr} {o : HO} (h : sub H p a = some o) : H a = some o ∧ ¬ p a := by
  unfold sub at h
  split at h
  · cases h
  · rename_i n
    exact ⟨h, n⟩
/-- what is free of lists and dicts leans on tuples alone -/
theorem Den.pure {K : Frg} {G G' : Hp} (h : ∀ a xs, G a = some (.tup xs) → G' a = some (.tup xs)) : (∀ (d : D) (v : V), pureD d = true → Den K G d v → Den K G' d v) ∧ (∀ (ds : List D) (vs : List V), pureL ds = true → DenL K G ds vs → DenL K G' ds vs) := by
  have key : ∀ n, (∀ (d : D) (v : V), sizeOf d ≤ n → pureD d = true → Den K G d v → Den K G' d v) ∧ (∀ (ds : List D) (vs : List V), sizeOf ds ≤ n → pureL ds = true → DenL K G ds vs → DenL K G' ds vs) := by
    intro n
    induction n with
    | zero =>
      refine ⟨fun d v hs => ?_, fun ds vs hs => ?_⟩
      · cases d <;> simp at hs <;> omega
      · cases ds <;> simp at hs <;> omega
    | succ n ih =>
      refine ⟨fun d v hs hp x => ?_, fun ds vs hs hp x => ?_⟩
      · cases d with
        | tup ds =>
          simp only [Den] at x ⊢
          obtain ⟨a, vs, e, g, l⟩ := x
          refine ⟨a, vs, e, h _ _ g, ih.2 ds vs ?_ (by simpa [pureD] using hp) l⟩
          simp at hs; omega
        | lst ds => simp [pureD] at hp
        | dic t ds => simp [pureD] at hp
        | fls ds => simp [pureD] at hp
        | _ => exact x
      · cases ds with
        | nil => exact x
        | cons d ds =>
          simp only [DenL] at x ⊢
          obtain ⟨v, r, e, g, l⟩ := x
          simp only [pureL, Bool.and_eq_true] at hp
          simp at hs
          exact ⟨v, r, e, ih.1 d v (by omega) hp.1 g, ih.2 ds r (by omega) hp.2 l⟩
  exact ⟨fun d v => (key _).1 d v (Nat.le_refl _), fun ds vs => (key _).2 ds vs (Nat.le_refl _)⟩

/-! ### the state of a body: F: addresses of others, not to be leaned on; H0: the heap at the entry -/
def Own (ρ : Rho) (σ : St) (a : Addr) : Prop := ∃ (i : Nat) (d : D), ρ[i]? = some (some (true, d)) ∧ σ[i]? = some (some (V.ref a))
/-- no tuple -/
abbrev nT (o : HO) : Prop := ∀ xs, o ≠ .tup xs
noncomputable def Gz (F : Addr → Prop) (ρ : Rho) (σ : St) (H : Hp) : Hp := sub H fun a => F a ∨ Own ρ σ a
theorem Gz_le {F : Addr → Prop} {ρ : Rho} {σ : St} {H : Hp} : Le (Gz F ρ σ H) H := sub_le
structure SR (K : Frg) (F : Addr → Prop) (H₀ H : Hp) (ρ : Rho) (σ : St) : Prop where
  len : ρ.length = σ.length
  ext : Le H₀ H
  fF : ∀ a, F a → ∃ o, H a = some o ∧ nT o
  sl : ∀ (i : Nat) (d : D), ρ[i]? = some (some (false, d)) → ∃ v, σ[i]? = some (some v) ∧ Den K (Gz F ρ σ H) d v
  ow : ∀ (i : Nat) (d : D), ρ[i]? = some (some (true, d)) → ∃ a, σ[i]? = some (some (V.ref a)) ∧ H₀ a = none ∧ ¬ F a ∧ Cont K H (Gz F ρ σ H) d a
  inj : ∀ (i j : Nat) (d e : D) (a : Addr), ρ[i]? = some (some (true, d)) → ρ[j]? = some (some (true, e)) → σ[i]? = some (some (V.ref a)) → σ[j]? = some (some (V.ref a)) → i = j
section
variable {K : Frg} {F : Addr → Prop} {H₀ H H' : Hp} {ρ : Rho} {σ : St}
theorem Gz_mono (h : Le H H') : Le (Gz F ρ σ H) (Gz F ρ σ H') := sub_mono fun a o e n => ⟨h a o e, n⟩
/-- the heap grows -/
theorem SR.grow (S : SR K F H₀ H ρ σ) (h : Le H H') : SR K F H₀ H' ρ σ where
  len := S.len
  ext := S.ext.trans h
  fF := fun a x => let ⟨o, e, n⟩ := S.fF a x; ⟨o, h _ _ e, n⟩
  sl := fun i d e => let ⟨v, h1, h2⟩ := S.sl i d e; ⟨v, h1, Den.mono (Gz_mono h) _ _ h2⟩
  ow := fun i d e => let ⟨a, h1, h2, h3, h4⟩ := S.ow i d e; ⟨a, h1, h2, h3, h4.mono (Gz_mono h) (fun o => h a o)⟩
  inj := S.inj
theorem SR.own_some (S : SR K F H₀ H ρ σ) {a : Addr} (h : Own ρ σ a) : ∃ o, H a = some o ∧ ∀ xs, o ≠ .tup xs := by
  obtain ⟨i, d, h1, h2⟩ := h
  obtain ⟨b, e1, e2, e3, e4⟩ := S.ow i d h1
  rw [h2] at e1; cases e1
  exact e4.some
/-- an address that is new is nobody's -/
theorem SR.new (S : SR K F H₀ H ρ σ) {a : Addr} (h : H a = none) : ¬ (F a ∨ Own ρ σ a) := fun z => by
  rcases z with z | z
  · obtain ⟨o, e, _⟩ := S.fF a z; rw [h] at e; cases e
  · obtain ⟨o, e, _⟩ := S.own_some z; rw [h] at e; cases e
theorem SR.gz_new (S : SR K F H₀ H ρ σ) {a : Addr} (h : H a = none) : Gz F ρ σ H' a = H' a := sub_at (S.new h)
/-- a name's value, read -/
theorem SR.var (S : SR K F H₀ H ρ σ) {i : Nat} {o : Bool} {d : D} (h : ρ[i]? = some (some (o, d))) : ∃ v, σ[i]? = some (some v) ∧ Top K H (Gz F ρ σ H) d v ∧ (o = false → Den K (Gz F ρ σ H) d v) := by
  cases o with
  | false =>
    obtain ⟨v, h1, h2⟩ := S.sl i d h
    exact ⟨v, h1, Top.of Gz_le h2, fun _ => h2⟩
  | true =>
    obtain ⟨a, h1, _, _, h2⟩ := S.ow i d h
    exact ⟨.ref a, h1, Top.ofC h2, fun z => nomatch z⟩
/-- the entry's heap may be taken later -/
theorem SR.rebase (S : SR K F H₀ H ρ σ) : SR K F (sub H (Own ρ σ)) H ρ σ where
  len := S.len
  ext := sub_le
  fF := S.fF
  sl := S.sl
  ow := fun i d e => let ⟨a, h1, h2, h3, h4⟩ := S.ow i d e; ⟨a, h1, if_pos ⟨i, d, e, h1⟩, h3, h4⟩
  inj := S.inj
theorem SR.base_le (S : SR K F H₀ H ρ σ) : Le H₀ (sub H (Own ρ σ)) := fun a o e => by
  have n : ¬ Own ρ σ a := fun ⟨i, d, h1, h2⟩ => by
    obtain ⟨b, e1, e2, _⟩ := S.ow i d h1
    rw [h2] at e1; cases e1
    rw [e] at e2; cases e2
  rw [sub_at n]; exact S.ext _ _ e
theorem SR.unbase {H₁ : Hp} {ρ' : Rho} {σ' : St} (S : SR K F H₁ H' ρ' σ') (h : Le H₀ H₁) : SR K F H₀ H' ρ' σ' where
  len := S.len
  ext := h.trans S.ext
  fF := S.fF
  sl := S.sl
  ow := fun i d e => let ⟨a, h1, h2, h3, h4⟩ := S.ow i d e; ⟨a, h1, h.none h2, h3, h4⟩
  inj := S.inj
theorem own_set_false {i : Nat} {d : D} {v : V} (hl : ρ.length = σ.length) : ∀ a, Own (ρ.set i (some (false, d))) (σ.set i (some v)) a → Own ρ σ a := by
  rintro a ⟨j, e, h1, h2⟩
  by_cases hj : i = j
  · subst hj
    by_cases hi : i < ρ.length
    · rw [List.getElem?_set_self hi] at h1; cases h1
    · rw [List.getElem?_eq_none (by simpa using hi)] at h1; cases h1
  · rw [List.getElem?_set_ne hj] at h1 h2
    exact ⟨j, e, h1, h2⟩
/-- name := a value -/
theorem SR.set (S : SR K F H₀ H ρ σ) {i : Nat} {d : D} {v : V} (h : Den K (Gz F ρ σ H) d v) : SR K F H₀ H (setR ρ i false d) (σ.set i (some v)) := by
  have gm : Le (Gz F ρ σ H) (Gz F (ρ.set i (some (false, d))) (σ.set i (some v)) H) := sub_mono fun a o e n => ⟨e, fun z => n (z.elim .inl fun z => .inr (own_set_false S.len a z))⟩
  refine ⟨by simp [setR, S.len], S.ext, S.fF, fun j e h1 => ?_, fun j e h1 => ?_, fun j k e f a h1 h2 h3 h4 => ?_⟩
  · unfold setR at h1
    by_cases hj : i = j
    · subst hj
      by_cases hi : i < ρ.length
      · rw [List.getElem?_set_self hi] at h1; cases h1
        exact ⟨v, List.getElem?_set_self (by rw [← S.len]; exact hi), Den.mono gm _ _ h⟩
      · rw [List.getElem?_eq_none (by simpa using hi)] at h1; cases h1
    · rw [List.getElem?_set_ne hj] at h1
      obtain ⟨w, h2, h3⟩ := S.sl j e h1
      exact ⟨w, by rw [List.getElem?_set_ne hj]; exact h2, Den.mono gm _ _ h3⟩
  · unfold setR at h1
    by_cases hj : i = j
    · subst hj
      by_cases hi : i < ρ.length
      · rw [List.getElem?_set_self hi] at h1; cases h1
      · rw [List.getElem?_eq_none (by simpa using hi)] at h1; cases h1
    · rw [List.getElem?_set_ne hj] at h1
      obtain ⟨a, h2, h3, h4, h5⟩ := S.ow j e h1
      exact ⟨a, by rw [List.getElem?_set_ne hj]; exact h2, h3, h4, h5.mono gm fun _ z => z⟩
  · have hj : ∀ {j : Nat} {e : D}, (setR ρ i false d)[j]? = some (some (true, e)) → i ≠ j := fun {j e} h z => by
      subst z
      unfold setR at h
      by_cases hi : i < ρ.length
      · rw [List.getElem?_set_self hi] at h; cases h
      · rw [List.getElem?_eq_none (by simpa using hi)] at h; cases h
    have e1 := hj h1
    have e2 := hj h2
    unfold setR at h1 h2
    rw [List.getElem?_set_ne e1] at h1 h3
    rw [List.getElem?_set_ne e2] at h2 h4
    exact S.inj j k e f a h1 h2 h3 h4
/-- name := a new object of its own -/
theorem SR.setOwn (S : SR K F H₀ H ρ σ) {i : Nat} {d : D} {a : Addr} (h0 : H₀ a = none) (hf : ¬ F a) (ho : ∀ (j : Nat) (e : D), j ≠ i → ρ[j]? = some (some (true, e)) → σ[j]? ≠ some (some (V.ref a)))
    (hn : Le (Gz F ρ σ H) (Gz F (setR ρ i true d) (σ.set i (some (V.ref a))) H'))
    (hH : Le H₀ H') (hF : ∀ a, F a → ∃ o, H' a = some o ∧ nT o) (hO : ∀ (j : Nat) (e : D) (b : Addr), j ≠ i → ρ[j]? = some (some (true, e)) → σ[j]? = some (some (V.ref b)) → ∀ o, H b = some o → H' b = some o)
    (h : Cont K H' (Gz F (setR ρ i true d) (σ.set i (some (V.ref a))) H') d a) : SR K F H₀ H' (setR ρ i true d) (σ.set i (some (V.ref a))) := by
  have out : ∀ {j : Nat} {o : Bool} {e : D}, i ≠ j → (setR ρ i true d)[j]? = some (some (o, e)) → ρ[j]? = some (some (o, e)) := fun {j o e} hj q => by
    unfold setR at q
    rw [List.getElem?_set_ne hj] at q
    exact q
  have inn : ∀ {o : Bool} {e : D}, (setR ρ i true d)[i]? = some (some (o, e)) → o = true ∧ e = d ∧ i < ρ.length := fun {o e} q => by
    unfold setR at q
    by_cases hi : i < ρ.length
    · rw [List.getElem?_set_self hi] at q; cases q; exact ⟨rfl, rfl, hi⟩
    · rw [List.getElem?_eq_none (by simpa using hi)] at q; cases q
  refine ⟨by simp [setR, S.len], hH, hF, fun j e h1 => ?_, fun j e h1 => ?_, fun j k e f b h1 h2 h3 h4 => ?_⟩
  · by_cases hj : i = j
    · subst hj
      exact nomatch (inn h1).1
    · obtain ⟨w, h2, h3⟩ := S.sl j e (out hj h1)
      exact ⟨w, by rw [List.getElem?_set_ne hj]; exact h2, Den.mono hn _ _ h3⟩
  · by_cases hj : i = j
    · subst hj
      obtain ⟨_, rfl, hi⟩ := inn h1
      exact ⟨a, List.getElem?_set_self (by rw [← S.len]; exact hi), h0, hf, h⟩
    · obtain ⟨b, h2, h3, h4, h5⟩ := S.ow j e (out hj h1)
      exact ⟨b, by rw [List.getElem?_set_ne hj]; exact h2, h3, h4, h5.mono hn (hO j e b (Ne.symm hj) (out hj h1) h2)⟩
  · by_cases hj : i = j
    · by_cases hk : i = k
      · exact hj.symm.trans hk
      · subst hj
        obtain ⟨_, _, hi⟩ := inn h1
        rw [List.getElem?_set_self (by rw [← S.len]; exact hi)] at h3; cases h3
        rw [List.getElem?_set_ne hk] at h4
        exact absurd h4 (ho k f (Ne.symm hk) (out hk h2))
    · by_cases hk : i = k
      · subst hk
        obtain ⟨_, _, hi⟩ := inn h2
        rw [List.getElem?_set_self (by rw [← S.len]; exact hi)] at h4; cases h4
        rw [List.getElem?_set_ne hj] at h3
        exact absurd h3 (ho j e (Ne.symm hj) (out hj h1))
      · rw [List.getElem?_set_ne hj] at h3
        rw [List.getElem?_set_ne hk] at h4
        exact S.inj j k e f b (out hj h1) (out hk h2) h3 h4
end
end Z

/-! Z, part 3: data as the library's PyData; orders. -/
namespace Z
open PySem L2
mutual
def toP : D → PyData
  | .non => .none
  | .bl b => .bool b
  | .int i => .int i
  | .str x => .str x
  | .tup ds => .tuple (toPs ds)
  | .lst ds => .list (toPs ds)
  | .dic _ _ => .none
  | .fls _ => .none
def toPs : List D → List PyData
  | [] => []
  | d :: ds => toP d :: toPs ds
end
theorem toPs_map : ∀ ds : List D, toPs ds = ds.map toP
  | [] => rfl
  | d :: ds => by rw [toPs, toPs_map ds]; rfl
mutual
theorem plD_plain : ∀ (n : Nat) (d : D), plD n d = true → (toP d).plain = true ∧ (toP d).depth ≤ n
  | n, .non, _ => by simp [toP, PyData.plain, PyData.depth]
  | n, .bl _, _ => by simp [toP, PyData.plain, PyData.depth]
  | n, .int _, _ => by simp [toP, PyData.plain, PyData.depth]
  | n, .str _, _ => by simp [toP, PyData.plain, PyData.depth]
  | 0, .tup ds, h => by simp [plD] at h
  | 0, .lst ds, h => by simp [plD] at h
  | n + 1, .tup ds, h => by
    simp only [plD] at h
    have := plL_plain n ds h
    simp only [toP, PyData.plain, PyData.depth]
    exact ⟨this.1, by omega⟩
  | n + 1, .lst ds, h => by
    simp only [plD] at h
    have := plL_plain n ds h
    simp only [toP, PyData.plain, PyData.depth]
    exact ⟨this.1, by omega⟩
  | 0, .dic _ _, h => by simp [plD] at h
  | 0, .fls _, h => by simp [plD] at h
  | n + 1, .dic _ _, h => by simp [plD] at h
  | n + 1, .fls _, h => by simp [plD] at h
theorem plL_plain : ∀ (n : Nat) (ds : List D), plL n ds = true → PyData.plainAll (toPs ds) = true ∧ PyData.depthAll (toPs ds) ≤ n
  | n, [], _ => by simp [toPs, PyData.plainAll, PyData.depthAll]
  | n, d :: ds, h => by
    simp only [plL, Bool.and_eq_true] at h
    have h1 := plD_plain n d h.1
    have h2 := plL_plain n ds h.2
    simp only [toPs, PyData.plainAll, PyData.depthAll, Bool.and_eq_true]
    exact ⟨⟨h1.1, h2.1⟩, by omega⟩
end
mutual
theorem eqv_toP : ∀ (n m : Nat) (x y : D), plD n x = true → plD m y = true → PyData.eqv (toP x) (toP y) = eqD x y
  | n, m, .non, y, _, h => by cases y <;> cases m <;> simp [toP, PyData.eqv, eqD, plD] at h ⊢
  | n, m, .bl b, y, _, h => by cases y <;> cases m <;> simp [toP, PyData.eqv, eqD, plD, b2z] at h ⊢
  | n, m, .int i, y, _, h => by cases y <;> cases m <;> simp [toP, PyData.eqv, eqD, plD, b2z] at h ⊢
  | n, m, .str x, y, _, h => by cases y <;> cases m <;> simp [toP, PyData.eqv, eqD, plD] at h ⊢
  | n, m, .tup xs, y, g, h => by
    cases n with
    | zero => simp [plD] at g
    | succ n =>
      cases y with
      | tup ys =>
        cases m with
        | zero => simp [plD] at h
        | succ m =>
          simp only [plD] at g h
          simp only [toP, PyData.eqv, eqD]
          exact eqv_toPs n m xs ys g h
      | _ => cases m <;> simp [toP, PyData.eqv, eqD, plD] at h ⊢
  | n, m, .lst xs, y, g, h => by
    cases n with
    | zero => simp [plD] at g
    | succ n =>
      cases y with
      | lst ys =>
        cases m with
        | zero => simp [plD] at h
        | succ m =>
          simp only [plD] at g h
          simp only [toP, PyData.eqv, eqD]
          exact eqv_toPs n m xs ys g h
      | _ => cases m <;> simp [toP, PyData.eqv, eqD, plD] at h ⊢
  | n, m, .dic _ _, y, g, _ => by cases n <;> simp [plD] at g
  | n, m, .fls _, y, g, _ => by cases n <;> simp [plD] at g
theorem eqv_toPs : ∀ (n m : Nat) (x y : List D), plL n x = true → plL m y = true → PyData.eqvAll (toPs x) (toPs y) = eqL x y
  | n, m, [], [], _, _ => by simp [toPs, PyData.eqvAll, eqL]
  | n, m, [], _ :: _, _, _ => by simp [toPs, PyData.eqvAll, eqL]
  | n, m, _ :: _, [], _, _ => by simp [toPs, PyData.eqvAll, eqL]
  | n, m, x :: xs, y :: ys, g, h => by
    simp only [plL, Bool.and_eq_true] at g h
    simp only [toPs, PyData.eqvAll, eqL]
    rw [eqv_toP n m x y g.1 h.1, eqv_toPs n m xs ys g.2 h.2]
end
mutual
theorem Den.dp {K : Frg} {H : Hp} : ∀ (n : Nat) (d : D) (v : V), plD n d = true → Den K H d v → Dp K H v (toP d)
  | n, .non, v, _, x => by simp only [Den] at x; subst x; exact .non
  | n, .bl b, v, _, x => by simp only [Den] at x; subst x; exact .bl b
  | n, .int b, v, _, x => by simp only [Den] at x; subst x; exact .int b
  | n, .str b, v, _, x => by simp only [Den] at x; subst x; exact .str b
  | 0, .tup ds, v, h, x => by simp [plD] at h
  | 0, .lst ds, v, h, x => by simp [plD] at h
  | n + 1, .tup ds, v, h, x => by
    simp only [Den] at x
    simp only [plD] at h
    obtain ⟨a, vs, rfl, e, l⟩ := x
    exact .tup (.inl (.inl e)) (DenL.dp n ds vs h l)
  | n + 1, .lst ds, v, h, x => by
    simp only [Den] at x
    simp only [plD] at h
    obtain ⟨a, vs, rfl, e, l⟩ := x
    exact .lst (.inl (.inl e)) (DenL.dp n ds vs h l)
  | n, .dic _ _, _, h, _ => by cases n <;> simp [plD] at h
  | n, .fls _, _, h, _ => by cases n <;> simp [plD] at h
theorem DenL.dp {K : Frg} {H : Hp} : ∀ (n : Nat) (ds : List D) (vs : List V), plL n ds = true → DenL K H ds vs → DpAll K H vs (toPs ds)
  | n, [], vs, _, x => by simp only [DenL] at x; subst x; exact .nil
  | n, d :: ds, vs, h, x => by
    simp only [DenL] at x
    simp only [plL, Bool.and_eq_true] at h
    obtain ⟨v, r, rfl, e, l⟩ := x
    exact .cons (Den.dp n d v h.1 e) (DenL.dp n ds r h.2 l)
end
theorem dpAll_any {n m : Nat} {x : D} : ∀ {ys : List D}, plD n x = true → plL m ys = true → ((toPs ys).any fun y => PyData.eqv y (toP x)) = ys.any fun z => eqD z x
  | [], _, _ => rfl
  | y :: ys, h, g => by
    simp only [plL, Bool.and_eq_true] at g
    simp only [toPs, List.any_cons]
    rw [eqv_toP m n y x g.1 h, dpAll_any h g.2]
theorem dpAll_count {n m : Nat} {x : D} : ∀ {ys : List D}, plD n x = true → plL m ys = true → ((toPs ys).countP fun y => PyData.eqv y (toP x)) = (ys.filter fun z => eqD z x).length
  | [], _, _ => rfl
  | y :: ys, h, g => by
    simp only [plL, Bool.and_eq_true] at g
    simp only [toPs, List.countP_cons, List.filter_cons]
    rw [eqv_toP m n y x g.1 h, dpAll_count h g.2]
    by_cases q : eqD y x = true
    · rw [if_pos q, if_pos q]; rfl
    · rw [if_neg q, if_neg q]; rfl
theorem dpAll_place {n m : Nat} {x : D} : ∀ {ys : List D} (k : Nat), plD n x = true → plL m ys = true → indexL x ys k = (SeqAt.dataPlace (toPs ys) (toP x)).map (k + ·)
  | [], k, _, _ => rfl
  | y :: ys, k, h, g => by
    simp only [plL, Bool.and_eq_true] at g
    have ih := dpAll_place (ys := ys) (k + 1) h g.2
    unfold SeqAt.dataPlace at ih ⊢
    simp only [toPs, List.findIdx?_cons, indexL]
    rw [eqv_toP m n y x g.1 h, ih]
    by_cases q : eqD y x = true
    · simp [q]
    · simp [q]
      cases List.findIdx? (fun y => PyData.eqv y (toP x)) (toPs ys) with
      | none => rfl
      | some j => simp; omega
theorem dpAll_rem {n m : Nat} {x : D} : ∀ {ys : List D}, plD n x = true → plL m ys = true → remL x ys = (SeqAt.dataPlace (toPs ys) (toP x)).map fun j => ys.eraseIdx j
  | [], _, _ => rfl
  | y :: ys, h, g => by
    simp only [plL, Bool.and_eq_true] at g
    have ih := dpAll_rem (ys := ys) h g.2
    unfold SeqAt.dataPlace at ih ⊢
    simp only [toPs, List.findIdx?_cons, remL]
    rw [eqv_toP m n y x g.1 h, ih]
    by_cases q : eqD y x = true
    · simp [q]
    · simp [q]
      cases List.findIdx? (fun y => PyData.eqv y (toP x)) (toPs ys) with
      | none => rfl
      | some j => simp
/-! ### orders -/
theorem lexLe_refl : ∀ a : List Int, lexLe a a = true
  | [] => rfl
  | x :: r => by simp [lexLe, lexLe_refl r]
theorem lexLe_not : ∀ a b : List Int, lexLe a b = !decide (b < a)
  | [], b => by simp [lexLe]
  | x :: r, [] => by simp [lexLe]
  | x :: r, y :: s => by
    simp only [lexLe]
    by_cases h : x = y
    · subst h
      rw [if_pos rfl, lexLe_not r s]
      simp [List.cons_lt_cons_iff]
    · rw [if_neg h]
      have : decide (x < y) = !decide (y < x) := by
        by_cases c : x < y
        · simp [c]; omega
        · simp [c]; omega
      rw [this]
      congr 1
      simp only [List.cons_lt_cons_iff, decide_eq_decide]
      constructor
      · intro q; exact .inl q
      · rintro (q | ⟨q, _⟩)
        · exact q
        · exact absurd q.symm h
theorem lexLe_total (a b : List Int) : lexLe a b = true ∨ lexLe b a = true := by
  rw [lexLe_not, lexLe_not]
  by_cases h : b < a
  · have : ¬ a < b := fun g => List.lt_irrefl a (List.lt_trans g h)
    simp [this]
  · simp [h]
theorem lexLe_trans : ∀ {a b c : List Int}, lexLe a b = true → lexLe b c = true → lexLe a c = true
  | [], _, _, _, _ => rfl
  | x :: r, [], _, h, _ => by simp [lexLe] at h
  | x :: r, y :: s, [], _, h => by simp [lexLe] at h
  | x :: r, y :: s, z :: t, h, g => by
    simp only [lexLe] at h g ⊢
    by_cases e : x = y
    · subst e
      rw [if_pos rfl] at h
      by_cases e' : x = z
      · subst e'
        rw [if_pos rfl] at g ⊢
        exact lexLe_trans h g
      · rw [if_neg e'] at g ⊢; exact g
    · rw [if_neg e] at h
      by_cases e' : y = z
      · subst e'
        rw [if_neg e]; exact h
      · rw [if_neg e'] at g
        simp only [decide_eq_true_eq] at h g
        rw [if_neg (by omega)]
        simp; omega
theorem lexLe_anti : ∀ {a b : List Int}, lexLe a b = true → lexLe b a = true → a = b
  | [], [], _, _ => rfl
  | [], _ :: _, _, h => by simp [lexLe] at h
  | _ :: _, [], h, _ => by simp [lexLe] at h
  | x :: r, y :: s, h, g => by
    simp only [lexLe] at h g
    by_cases e : x = y
    · subst e
      rw [if_pos rfl] at h g
      rw [lexLe_anti h g]
    · rw [if_neg e] at h
      rw [if_neg (Ne.symm e)] at g
      simp only [decide_eq_true_eq] at h g
      omega
theorem ins_perm {α : Type} (le : α → α → Bool) (a : α) : ∀ l : List α, (ins le a l).Perm (a :: l)
  | [] => .refl _
  | b :: r => by
    unfold ins
    split
    · exact .refl _
    · exact ((ins_perm le a r).cons b).trans (.swap a b r)
theorem isort_perm {α : Type} (le : α → α → Bool) : ∀ l : List α, (isort le l).Perm l
  | [] => .refl _
  | a :: r => (ins_perm le a _).trans ((isort_perm le r).cons a)
theorem ins_sorted {α : Type} {le : α → α → Bool} (tr : ∀ a b c, le a b = true → le b c = true → le a c = true) (to : ∀ a b, le a b = true ∨ le b a = true) (a : α) : ∀ {l : List α}, l.Pairwise (fun x y => le x y = true) → (ins le a l).Pairwise fun x y => le x y = true
  | [], _ => by simp [ins]
  | b :: r, h => by
    unfold ins
    split
    · rename_i q
      refine List.pairwise_cons.mpr ⟨fun y hy => ?_, h⟩
      rcases List.mem_cons.mp hy with rfl | hy
      · exact q
      · exact tr _ _ _ q ((List.pairwise_cons.mp h).1 y hy)
    · rename_i q
      obtain ⟨h1, h2⟩ := List.pairwise_cons.mp h
      refine List.pairwise_cons.mpr ⟨fun y hy => ?_, ins_sorted tr to a h2⟩
      have := (ins_perm le a r).mem_iff.mp hy
      rcases List.mem_cons.mp this with rfl | hy
      · exact (to y b).resolve_left q
      · exact h1 y hy
theorem isort_sorted {α : Type} {le : α → α → Bool} (tr : ∀ a b c, le a b = true → le b c = true → le a c = true) (to : ∀ a b, le a b = true ∨ le b a = true) : ∀ l : List α, (isort le l).Pairwise fun x y => le x y = true
  | [] => by simp [isort]
  | a :: r => ins_sorted tr to a (isort_sorted tr to r)
end Z

section
set_option maxHeartbeats 4000000
set_option maxRecDepth 100000
/-! Z: tuple * 1, tuple * 0 -/
namespace Z
open PySem PySem.Spec PyProof.Rows L2
theorem tup_mul1 (l : Addr) (items : Array Value) (n : Nat) (dd : Option Addr) (sl : Array (Option Value)) (u : Tok) :
    Meets (Builtin.«tuple.__mul__» ⟨[.ref l, .int 1 u], []⟩) (fun _ R s => s.heap.get? l = some { cls := .type "tuple", dict := dd, data := .seq items n, slots := sl } ∧ R (.ok (.ret (Value.ref l))) s) :=
  .of_wp fun prog w A R s h => by
    obtain ⟨hp, g, d, tk, os⟩ := s
    obtain ⟨hl, h⟩ := h
    have f1 := AutoSeq1.idx_int
    have c1 : (items.isEmpty || (1 : Int) == 1) = true := by simp
    wp_walk using wpAny_loadPart' hl
    repeat (first
      | (refine wpAny_ite_true (decide_eq_true c1) ?_; wp_walk using wpAny_loadPart' hl)
      | (refine wpAny_ite_false (by decide) ?_; wp_walk using wpAny_loadPart' hl))
    exact ⟨_, rfl, h⟩
theorem tup_mul0 (l : Addr) (items : Array Value) (n : Nat) (dd : Option Addr) (sl : Array (Option Value)) (x : Int) (u : Tok) (c0 : (decide (x < -(2 ^ 63)) || decide (x ≥ 2 ^ 63)) = false) (c1 : (items.isEmpty || x == 1) = false) (c2 : (decide (x ≤ 0) || items.isEmpty) = true) :
    Meets (Builtin.«tuple.__mul__» ⟨[.ref l, .int x u], []⟩) (fun _ R s => s.heap.get? l = some { cls := .type "tuple", dict := dd, data := .seq items n, slots := sl } ∧
      R (.ok (.ret (Value.ref s.heap.objs.size))) { s with heap := s.heap.push { cls := Value.type "tuple", data := Data.seq #[] }, toks := s.toks }) :=
  .of_wp fun prog w A R s h => by
    obtain ⟨hp, g, d, tk, os⟩ := s
    obtain ⟨hl, h⟩ := h
    have f1 := AutoSeq1.idx_int
    wp_walk using wpAny_loadPart' hl
    repeat (first
      | (refine wpAny_ite_false (decide_eq_false (by rw [c0]; exact Bool.false_ne_true)) ?_; wp_walk using wpAny_loadPart' hl)
      | (refine wpAny_ite_false (decide_eq_false (by rw [c1]; exact Bool.false_ne_true)) ?_; wp_walk using wpAny_loadPart' hl)
      | (refine wpAny_ite_true (decide_eq_true c2) ?_; wp_walk using wpAny_loadPart' hl))
    exact ⟨_, rfl, h⟩
section
variable {X : Cx}
/-- a row taken once, or not at all -/
theorem op_repT1 : OpR X (binaryOp .Mult) (fun x y H Q => ∃ l k xs, x = .ref l ∧ y = .int k ∧ SqT X.K H l xs ∧ xs ≠ [] ∧ ((k = 1 ∧ Q (.ref l) H) ∨ (k ≤ 0 ∧ -1000 ≤ k ∧ ∀ p, H p = none → Q (.ref p) (upd H p (.tup []))))) := by
  intro pins s σ H x y v u Q I rx ry h
  obtain ⟨l, k, xs, rfl, rfl, hT, hne, q⟩ := h
  cases rx
  obtain ⟨t, rfl⟩ := ry
  obtain ⟨its, r, ⟨⟨cls, dd, data, sl⟩, ho, hc, n, hd⟩, hs⟩ := I.tuple hT
  simp only at hc hd
  subst hc hd
  have hi : its.toArray.isEmpty = false := by
    cases its with
    | nil =>
      have := r.length
      exact absurd (List.eq_nil_of_length_eq_zero this) hne
    | cons a b => rfl
  rcases q with ⟨rfl, q⟩ | ⟨h1, h2, q⟩
  · exact wpAny_binaryOp_repeat_ref (T := "tuple") (U := "int") (by decide) ⟨_, ho, rfl⟩ (fun s' => typeIs_int s' 1 t) noFill_tuple_mul F.fills_int_mul F.slot_int_rmul repeat_tuple F.slot_int_index.lookup
      (call_meets F.slot_int_rmul (typeIs_int s 1 t) F.entry_int_rmul (F.args_int_rmul_2 _ _) (int_rmul_tuple 1 t l its.toArray n dd sl)
        ⟨ho, rfl, ⟨_, ho, rfl⟩, call_meets F.slot_tuple_mul ⟨_, ho, rfl⟩ F.entry_tuple_mul (F.args_tuple_mul_2 _ _) (tup_mul1 l its.toArray n dd sl t) ⟨ho, .ref l, H, I, rfl, q⟩⟩)
  · have c0 : (decide (k < -(2 ^ 63)) || decide (k ≥ 2 ^ 63)) = false := by
      rw [decide_eq_false (by omega), decide_eq_false (by omega)] <;> rfl
    have c1 : (its.toArray.isEmpty || k == 1) = false := by
      rw [hi, Bool.false_or]
      exact beq_eq_false_iff_ne.mpr (by omega)
    have c2 : (decide (k ≤ 0) || its.toArray.isEmpty) = true := by rw [decide_eq_true h1, Bool.true_or]
    refine wpAny_binaryOp_repeat_ref (T := "tuple") (U := "int") (by decide) ⟨_, ho, rfl⟩ (fun s' => typeIs_int s' k t) noFill_tuple_mul F.fills_int_mul F.slot_int_rmul repeat_tuple F.slot_int_index.lookup
      (call_meets F.slot_int_rmul (typeIs_int s k t) F.entry_int_rmul (F.args_int_rmul_2 _ _) (int_rmul_tuple k t l its.toArray n dd sl)
        ⟨ho, rfl, ⟨_, ho, rfl⟩, call_meets F.slot_tuple_mul ⟨_, ho, rfl⟩ F.entry_tuple_mul (F.args_tuple_mul_2 _ _) (tup_mul0 l its.toArray n dd sl k t c0 c1 c2) ⟨ho, ?_⟩⟩)
    refine ⟨.ref s.heap.objs.size, _, I.laid (t' := s.toks) (o := .tup []) (fun b ob q => Heap.get?_push_of_some _ q) (Nat.le_refl _) ?_, rfl, q _ (I.hok.fresh (Nat.le_refl _))⟩
    exact ⟨by decide, [], .nil, IsTup.new _ _⟩
end
end Z
end

set_option maxRecDepth 100000
/-! Z, part 4: the operators. -/
namespace Z
open PySem L2 PyProof.Rows
abbrev St := L2.St
open Classical

def Fresh (K : Frg) (H H' G' : Hp) (d : D) (v : V) : Prop := isC d = true → ∃ a, v = .ref a ∧ H a = none ∧ Cont K H' (sub G' (· = a)) d a
def ResD (fr : Bool) (K : Frg) (H H' G' : Hp) (d : D) (v : V) : Prop := Den K G' d v ∧ (fr = true → Fresh K H H' G' d v)
theorem ResD.weak {K : Frg} {H H' G' : Hp} {d : D} {v : V} {fr : Bool} (h : ResD true K H H' G' d v) : ResD fr K H H' G' d v := ⟨h.1, fun _ => h.2 rfl⟩
theorem ResD.den {K : Frg} {H H' G' : Hp} {d : D} {v : V} (h : Den K G' d v) : ResD false K H H' G' d v := ⟨h, fun z => nomatch z⟩
theorem ResD.early {K : Frg} {H0 H H' G' : Hp} {d : D} {v : V} {fr : Bool} (l : Le H0 H) (h : ResD fr K H H' G' d v) : ResD fr K H0 H' G' d v := ⟨h.1, fun z c => let ⟨a, e, n, q⟩ := h.2 z c; ⟨a, e, l.none n, q⟩⟩
/-- the allocated are known -/
def Kn (H : Hp) (p : Addr → Prop) : Prop := ∀ a, p a → ∃ o, H a = some o ∧ nT o
theorem Kn.no {H : Hp} {p : Addr → Prop} (k : Kn H p) {a : Addr} (h : H a = none) : ¬ p a := fun z => by
  obtain ⟨o, e, _⟩ := k a z; rw [h] at e; cases e
theorem Kn.le {H H' : Hp} {p : Addr → Prop} (k : Kn H p) (l : Le H H') : Kn H' p := fun a z => let ⟨o, e, n⟩ := k a z; ⟨o, l _ _ e, n⟩
theorem sub_grow {H H' : Hp} {p : Addr → Prop} (l : Le H H') : Le (sub H p) (sub H' p) := sub_mono fun a o e n => ⟨l a o e, n⟩
/-- what lay in H lies in H' without a new address -/
theorem le_new {H : Hp} {p : Addr → Prop} {a : Addr} {o : HO} (h : H a = none) : Le (sub H p) (sub (sub (upd H a o) p) (· = a)) := fun b x e => by
  obtain ⟨h1, h2⟩ := sub_some e
  have hb : b ≠ a := ne_of_none h1 h
  rw [sub_at (p := fun x => x = a) (a := b) hb, sub_at h2, upd_ne hb]
  exact h1
theorem resS {K : Frg} {H : Hp} {p : Addr → Prop} {d : D} {v : V} {fr : Bool} (c : isC d = false) (h : Den K (sub H p) d v) : ResD fr K H H (sub H p) d v := ⟨h, fun _ z => by rw [c] at z; cases z⟩
theorem newLst {K : Frg} {H : Hp} {p : Addr → Prop} (k : Kn H p) {a : Addr} {ds : List D} {vs : List V} (h : H a = none) (l : DenL K (sub H p) ds vs) : ResD true K H (upd H a (.lst vs)) (sub (upd H a (.lst vs)) p) (.lst ds) (.ref a) := by
  refine ⟨?_, fun _ _ => ⟨a, rfl, h, vs, upd_same, DenL.mono (le_new h) _ _ l⟩⟩
  simp only [Den]
  exact ⟨a, vs, rfl, by rw [sub_at (k.no h)]; exact upd_same, DenL.mono (sub_grow (Le.upd h)) _ _ l⟩
theorem newTup {K : Frg} {H : Hp} {p : Addr → Prop} (k : Kn H p) {a : Addr} {ds : List D} {vs : List V} {fr : Bool} (h : H a = none) (l : DenL K (sub H p) ds vs) : ResD fr K H (upd H a (.tup vs)) (sub (upd H a (.tup vs)) p) (.tup ds) (.ref a) := by
  refine ⟨?_, fun _ z => by simp [isC] at z⟩
  simp only [Den]
  exact ⟨a, vs, rfl, by rw [sub_at (k.no h)]; exact upd_same, DenL.mono (sub_grow (Le.upd h)) _ _ l⟩
theorem szL_le {n : Nat} (h : n ≤ szL) : n ≤ sizeLine := by rw [sizeLine_eq]; unfold szL at h; omega
theorem szL_lt {n : Nat} (h : n < szL) : n < sizeLine := by rw [sizeLine_eq]; unfold szL at h; omega
theorem gd_ok {α : Type} {c : Prop} [Decidable c] {r : R α} {a : α} (h : gd c r = .ok a) : c ∧ r = .ok a := by
  unfold gd at h
  split at h
  · rename_i q; exact ⟨q, h⟩
  · cases h
theorem bind_some {α β : Type} {r : R α} {f : α → R β} {b : β} (h : (r >>= f) = .ok b) : ∃ a, r = .ok a ∧ f a = .ok b := by
  cases r with
  | ok a => exact ⟨a, rfl, h⟩
  | exc c fs => cases h
  | bad => cases h

/-! ### binary operators -/
def RB (K : Frg) (g : D → D → R D) : R2 := fun x y H Q => ∃ (p : Addr → Prop) (a b d : D), Kn H p ∧ Top K H (sub H p) a x ∧ Top K H (sub H p) b y ∧ g a b = .ok d ∧ ∀ v H', Le H H' → ResD true K H H' (sub H' p) d v → Q v H'
def bop : Bin → Operator
  | .add => .Add | .sub => .Sub | .mul => .Mult | .fdiv => .FloorDiv | .mod => .Mod | .pow => .Pow | .shl => .LShift | .shr => .RShift | .band => .BitAnd | .bxor => .BitXor
theorem small_iff {i : Int} (h : small i = true) : -(2 ^ 64) < i ∧ i < 2 ^ 64 := by
  unfold small at h
  simp only [Bool.and_eq_true, decide_eq_true_eq] at h
  exact h
section
variable {X : Cx}
theorem op_fdivZ : OpR X (binaryOp .FloorDiv) (rI (fun _ j => j ≠ 0 ∧ (j.natAbs < 1073741824 ∨ j.natAbs.log2 < 9000)) fun i j => .int (i.fdiv j)) := opI fun _ _ _ _ _ _ _ hc q => floordiv_int hc.1 q (.inl (hc.2.elim (fun h => PyProof.noPylong_small h) fun h => PyProof.noPylong_of_log2 h))
theorem rep_nil {α : Type} (k : Nat) : (List.replicate k ([] : List α)).flatten = [] := by
  induction k with
  | zero => rfl
  | succ n ih => rw [List.replicate_succ, List.flatten_cons, ih]; rfl
theorem DenL.rep {K : Frg} {H : Hp} {ds : List D} {vs : List V} (h : DenL K H ds vs) : ∀ k : Nat, DenL K H (List.replicate k ds).flatten (List.replicate k vs).flatten
  | 0 => by simp [DenL]
  | k + 1 => by rw [List.replicate_succ, List.replicate_succ, List.flatten_cons, List.flatten_cons]; exact h.append (DenL.rep h k)
theorem opI_z {o : Bin} {op : Operator} {r : R2} (ho : OpR X (binaryOp op) r) (h : ∀ i j z H Q, binI o i j = .ok z → Q (.int z) H → r (.int i) (.int j) H Q) :
    ∀ (pins : List (Addr × Obj)) (s : Shared) (σ : L2.St) (H : Hp) (i j z : Int) (v u : Value) (Q : VK), Inv X pins σ H s → RelV (.int i) v → RelV (.int j) u → binI o i j = .ok z → Q (.int z) H → wpAny (model X.prog X.w) X.A (binaryOp op v u) (EP X pins σ Q) X.xe s :=
  fun pins s σ H i j z v u Q I rv ru e q => ho pins s σ H _ _ v u Q I rv ru (h i j z H Q e q)
theorem opz_int (o : Bin) : ∀ (pins : List (Addr × Obj)) (s : Shared) (σ : L2.St) (H : Hp) (i j z : Int) (v u : Value) (Q : VK), Inv X pins σ H s → RelV (.int i) v → RelV (.int j) u → binI o i j = .ok z → Q (.int z) H →
    wpAny (model X.prog X.w) X.A (binaryOp (bop o) v u) (EP X pins σ Q) X.xe s := by
  cases o with
  | add => exact opI_z op_add fun i j z H Q e q => ⟨i, j, rfl, rfl, by cases e; exact q⟩
  | sub => exact opI_z op_sub fun i j z H Q e q => ⟨i, j, rfl, rfl, by cases e; exact q⟩
  | mul =>
    exact opI_z op_mul fun i j z H Q e q => by
      obtain ⟨c, e⟩ := gd_ok e
      cases e
      exact ⟨i, j, rfl, rfl, c.elim (fun c => .inl (small_iff c)) (fun c => .inr (small_iff c)), q⟩
  | fdiv =>
    exact opI_z op_fdivZ fun i j z H Q e q => by
      obtain ⟨c, e⟩ := gd_ok e
      cases e
      exact ⟨i, j, rfl, rfl, c, q⟩
  | mod =>
    exact opI_z op_modN fun i j z H Q e q => by
      obtain ⟨c, e⟩ := gd_ok e
      cases e
      exact ⟨i, j, rfl, rfl, c, q⟩
  | pow =>
    exact opI_z op_pow fun i j z H Q e q => by
      obtain ⟨c, e⟩ := gd_ok e
      cases e
      exact ⟨i, j, rfl, rfl, c, q⟩
  | shl =>
    exact opI_z op_shl fun i j z H Q e q => by
      obtain ⟨c, e⟩ := gd_ok e
      cases e
      exact ⟨i, j, rfl, rfl, c, q⟩
  | shr =>
    exact opI_z op_shr fun i j z H Q e q => by
      obtain ⟨c, e⟩ := gd_ok e
      cases e
      exact ⟨i, j, rfl, rfl, c, q⟩
  | band => exact opI_z op_and fun i j z H Q e q => ⟨i, j, rfl, rfl, by cases e; exact q⟩
  | bxor => exact opI_z op_xor fun i j z H Q e q => ⟨i, j, rfl, rfl, by cases e; exact q⟩

theorem cat_tup0 {prog : Program} {w : World} {A : Around} {E : Value → Shared → Prop} {s : Shared} {t b : Addr} {ws : List Value} {Q : Value → Shared → Prop} (ht : IsTup s.heap t #[]) (hb : IsTup s.heap b ws.toArray)
    (h1 : Q (.ref b) s) : wpAny (model prog w) A (binaryOp .Add (.ref t) (.ref b)) Q E s := by
  obtain ⟨⟨cls, dd, data, sl⟩, ho, hc, n, hd⟩ := id ht
  obtain ⟨⟨cls2, dd2, data2, sl2⟩, ho2, hc2, n2, hd2⟩ := id hb
  simp only at hc hd hc2 hd2
  subst hc hd hc2 hd2
  exact concat_meets ⟨_, ho, rfl⟩ ⟨_, ho2, rfl⟩ noFill_tuple_add seq_tuple_add PySem.F.slot_tuple_add PySem.F.entry_tuple_add (PySem.F.args_tuple_add_2 _ _)
      (tuple_addW0 t b #[] ws.toArray n n2 dd dd2 sl sl2 (by rfl)) ⟨ho, ho2, h1⟩
theorem op_catT0 : OpR X (binaryOp .Add) (fun x y H Q => ∃ a b ys, x = .ref a ∧ y = .ref b ∧ SqT X.K H a [] ∧ SqT X.K H b ys ∧ Q (.ref b) H) := by
  intro pins s σ H x y v u Q I rx ry h
  obtain ⟨a, b, ys, rfl, rfl, ha, hb, q⟩ := h
  cases rx
  cases ry
  obtain ⟨its, r1, p1, _⟩ := I.tuple ha
  obtain ⟨its2, r2, p2, _⟩ := I.tuple hb
  cases r1
  exact cat_tup0 p1 p2 ⟨.ref b, H, I, rfl, q⟩
theorem opz (o : Bin) : OpR X (binaryOp (bop o)) (RB X.K (binD o)) := by
  intro pins s σ H x y v u Q I rx ry h
  obtain ⟨p, a, b, d, kn, ha, hb, e, q⟩ := h
  have hInts : ∀ i j : Int, a = .int i → b = .int j → wpAny (model X.prog X.w) X.A (binaryOp (bop o) v u) (EP X pins σ Q) X.xe s := fun i j e1 e2 => by
    subst e1; subst e2
    simp only [Top, Den] at ha hb
    subst ha; subst hb
    have e' : (do return D.int (← binI o i j)) = R.ok d := by
      cases o <;> exact e
    obtain ⟨z, ez, e2⟩ := bind_some e'
    cases e2
    exact opz_int o pins s σ H i j z v u Q I rx ry ez (q (.int z) H (Le.refl H) (resS rfl (by simp [Den])))
  cases o <;> cases a <;> cases b <;> first | exact hInts _ _ rfl rfl | (simp [binD] at e; done) | skip
  · -- text + text
    rename_i x1 x2
    obtain ⟨c, e⟩ := gd_ok (show gd _ _ = R.ok d from e)
    cases e
    simp only [Top, Den] at ha hb
    subst ha; subst hb
    exact op_add_str pins s σ H _ _ v u Q I rx ry ⟨x1, x2, rfl, rfl, szL_le c, q _ H (Le.refl H) (resS rfl (by simp [Den]))⟩
  · -- tuple + tuple
    rename_i xs ys
    obtain ⟨c, e⟩ := gd_ok (show gd _ _ = R.ok d from e)
    cases e
    simp only [Top, Den] at ha hb
    obtain ⟨l, vs, rfl, hl, dl⟩ := ha
    obtain ⟨m, us, rfl, hm, dm⟩ := hb
    have hl' := sub_le _ _ hl
    have hm' := sub_le _ _ hm
    cases xs with
    | nil =>
      simp only [DenL] at dl
      subst dl
      refine op_catT0 pins s σ H _ _ v u Q I rx ry ⟨l, m, us, rfl, rfl, .inl (.inl hl'), .inl (.inl hm'), q _ H (Le.refl H) (resS rfl ?_)⟩
      simp only [List.nil_append, Den]
      exact ⟨m, us, rfl, hm, dm⟩
    | cons x0 xs =>
      have hne : vs ≠ [] := fun z => by
        have := dl.length
        rw [z] at this; simp at this
      refine op_catT pins s σ H _ _ v u Q I rx ry ⟨l, m, vs, us, rfl, rfl, .inl (.inl hl'), .inl (.inl hm'), hne, by rw [dl.length, dm.length]; exact szL_le c, fun z => ?_, fun z a ha => ?_⟩
      · subst z
        have : ys = [] := List.eq_nil_of_length_eq_zero (by rw [← dm.length]; rfl)
        subst this
        refine q _ H (Le.refl H) (resS rfl ?_)
        simp only [List.append_nil, Den]
        exact ⟨l, vs, rfl, hl, dl⟩
      · exact q _ _ (Le.upd ha) (newTup kn ha (dl.append dm))
  · -- list + list
    rename_i xs ys
    obtain ⟨c, e⟩ := gd_ok (show gd _ _ = R.ok d from e)
    cases e
    simp only [Top] at ha hb
    obtain ⟨l, vs, rfl, hl, dl⟩ := ha
    obtain ⟨m, us, rfl, hm, dm⟩ := hb
    exact op_cat pins s σ H _ _ v u Q I rx ry ⟨l, m, vs, us, rfl, rfl, hl, hm, by rw [dl.length, dm.length]; exact szL_le c, fun a ha => q _ _ (Le.upd ha) (newLst kn ha (dl.append dm))⟩
  · -- tuple * int
    rename_i xs k
    obtain ⟨c, e⟩ := gd_ok (show gd _ _ = R.ok d from e)
    cases e
    simp only [Top, Den] at ha hb
    obtain ⟨l, vs, rfl, hl, dl⟩ := ha
    subst hb
    have hl' := sub_le _ _ hl
    have vne : vs ≠ [] := fun z => c.2.2.2 (List.eq_nil_of_length_eq_zero (by rw [← dl.length, z]; rfl))
    by_cases k2 : 2 ≤ k
    · exact op_repT pins s σ H _ _ v u Q I rx ry ⟨l, k, vs, rfl, rfl, .inl (.inl hl'), vne, k2, c.2.1, by rw [dl.length]; exact c.2.2.1, fun a ha => q _ _ (Le.upd ha) (newTup kn ha (dl.rep _))⟩
    · refine op_repT1 pins s σ H _ _ v u Q I rx ry ⟨l, k, vs, rfl, rfl, .inl (.inl hl'), vne, ?_⟩
      by_cases k1 : k = 1
      · subst k1
        refine .inl ⟨rfl, q _ H (Le.refl H) ?_⟩
        have e1 : (List.replicate (1 : Int).toNat xs).flatten = xs := by simp
        rw [e1]
        exact resS rfl (by simp only [Den]; exact ⟨l, vs, rfl, hl, dl⟩)
      · refine .inr ⟨by omega, c.1, fun a ha => q _ _ (Le.upd ha) ?_⟩
        have e0 : k.toNat = 0 := by omega
        rw [e0]
        exact newTup kn ha (vs := []) (by simp [DenL])
  · -- list * int
    rename_i xs k
    obtain ⟨c, e⟩ := gd_ok (show gd _ _ = R.ok d from e)
    cases e
    simp only [Top, Den] at ha hb
    obtain ⟨l, vs, rfl, hl, dl⟩ := ha
    subst hb
    refine op_rep pins s σ H _ _ v u Q I rx ry ⟨l, k, vs, rfl, rfl, hl, by omega, by omega, ?_, fun a ha => q _ _ (Le.upd ha) (newLst kn ha (dl.rep _))⟩
    rw [dl.length, sizeLine_eq]
    have a1 : xs.length * k.toNat ≤ 1000 * 1000 := Nat.mul_le_mul c.2.2 (by omega)
    omega
end
end Z

set_option maxRecDepth 100000
/-! Z, part 5: comparisons, places, slices. -/
namespace Z
open PySem L2 PyProof.Rows
open Classical

/-! ### keys -/
theorem kD_inj {a b : D} {q : Key} (h : kD a = some q) (g : kD b = some q) : a = b := by
  cases a <;> simp [kD] at h <;> cases b <;> simp [kD] at g <;> subst h <;> simp_all
theorem eqD_kD {a b : D} {p q : Key} (h : kD a = some p) (g : kD b = some q) : eqD a b = decide (p = q) := by
  cases a <;> simp [kD] at h <;> cases b <;> simp [kD] at g <;> subst h <;> subst g
  · rename_i i j; simp [eqD]; by_cases e : i = j <;> simp [e]
  · rfl
  · rfl
  · rename_i i j; simp [eqD]; by_cases e : i = j <;> simp [e]
theorem ints_map {ds : List D} {ns : List Int} (h : allOf intOf ds = some ns) : ds = ns.map D.int := by
  induction ds generalizing ns with
  | nil => simp [allOf] at h; subst h; rfl
  | cons d r ih =>
    cases d <;> simp [allOf, intOf] at h
    rename_i i
    cases q : allOf intOf r with
    | none => rw [q] at h; cases h
    | some ms =>
      rw [q] at h; simp at h; subst h
      rw [ih q]; rfl
theorem ints_all : ∀ ns : List Int, allOf intOf (ns.map D.int) = some ns
  | [] => rfl
  | n :: ns => by simp [allOf, intOf, ints_all ns]
theorem eqL_ints : ∀ ns ms : List Int, eqL (ns.map D.int) (ms.map D.int) = decide (ns = ms)
  | [], [] => rfl
  | [], _ :: _ => by simp [eqL]
  | _ :: _, [] => by simp [eqL]
  | n :: ns, m :: ms => by
    simp only [List.map_cons, eqL, eqD, eqL_ints ns ms]
    by_cases e : n = m <;> simp [e]
theorem tkD_tup {d : D} {q : List Key} (h : tkD d = some q) : ∃ ns : List Int, d = .tup (ns.map D.int) ∧ q = ns.map Sum.inl := by
  cases d <;> simp [tkD] at h
  obtain ⟨ns, h1, h2⟩ := h
  exact ⟨ns, by rw [ints_map h1], h2.symm⟩
theorem inl_map_inj {ns ms : List Int} : (ns.map (Sum.inl : Int → Key) = ms.map Sum.inl) ↔ ns = ms := by
  constructor
  · intro h
    induction ns generalizing ms with
    | nil => cases ms with
      | nil => rfl
      | cons _ _ => cases h
    | cons n ns ih => cases ms with
      | nil => cases h
      | cons m ms => injection h with h1 h2; injection h1 with h1; rw [h1, ih h2]
  · intro h; rw [h]
theorem eqD_tkD {a b : D} {p q : List Key} (h : tkD a = some p) (g : tkD b = some q) : eqD a b = decide (p = q) := by
  obtain ⟨ns, rfl, rfl⟩ := tkD_tup h
  obtain ⟨ms, rfl, rfl⟩ := tkD_tup g
  simp only [eqD, eqL_ints]
  by_cases e : ns = ms
  · subst e; simp
  · have : ¬ ns.map (Sum.inl : Int → Key) = ms.map Sum.inl := fun z => e (inl_map_inj.mp z)
    rw [decide_eq_false e, decide_eq_false this]
theorem keyFit_k {k : D} (h : keyFit false k = true) : ∃ q, kD k = some q := by
  cases k <;> simp [keyFit, keyOk, keyCl, kD] at h ⊢
theorem keyFit_t {k : D} (h : keyFit true k = true) : ∃ q, tkD k = some q := by
  cases k <;> simp [keyFit, keyOk, keyCl, tkD] at h ⊢
  rename_i ds
  cases q : allOf intOf ds with
  | none => rw [q] at h; cases h
  | some ns => exact ⟨_, ns, rfl, rfl⟩
theorem kD_V {K : Frg} {G : Hp} {k : D} {q : Key} {y : V} (h : kD k = some q) (x : Den K G k y) : y = kV q := by
  cases k <;> simp [kD] at h <;> subst h <;> simpa [Den, kV] using x
theorem tkD_V {K : Frg} {G : Hp} {k : D} {q : List Key} {y : V} (h : tkD k = some q) (x : Den K G k y) : ∃ b, y = .ref b ∧ G b = some (.tup (q.map kV)) := by
  obtain ⟨ns, rfl, rfl⟩ := tkD_tup h
  simp only [Den] at x
  obtain ⟨b, vs, rfl, e, l⟩ := x
  obtain ⟨h1, _⟩ := l.ints (ints_all ns)
  refine ⟨b, rfl, ?_⟩
  rw [e, h1, List.map_map]
  rfl
/-- what a look-up gives -/
def Look (K : Frg) (G : Hp) (o : Option D) (r : Option V) : Prop := match o with
  | some d => ∃ v, r = some v ∧ Den K G d v
  | none => r = none
theorem DenK.get {K : Frg} {G : Hp} {k : D} {q : Key} (hk : kD k = some q) : ∀ {kvs : List (D × D)} {ks : List (Key × V)}, DenK K G kvs ks → Look K G (dget kvs k) (valV ks q)
  | [], ks, x => by simp only [DenK] at x; subst x; rfl
  | (a, d) :: r, ks, x => by
    simp only [DenK] at x
    obtain ⟨p, v, rs, rfl, hp, hd, l⟩ := x
    unfold dget
    rw [eqD_kD hp hk]
    by_cases e : p = q
    · rw [valV_pos e]
      simp [e]
      exact ⟨v, rfl, hd⟩
    · rw [valV_neg e]
      simp [e]
      exact DenK.get hk l
theorem DenT.get {K : Frg} {G : Hp} {k : D} {q : List Key} (hk : tkD k = some q) : ∀ {kvs : List (D × D)} {ks : List (List Key × V)}, DenT K G kvs ks → Look K G (dget kvs k) (valV ks q)
  | [], ks, x => by simp only [DenT] at x; subst x; rfl
  | (a, d) :: r, ks, x => by
    simp only [DenT] at x
    obtain ⟨p, v, rs, rfl, hp, hd, l⟩ := x
    unfold dget
    rw [eqD_tkD hp hk]
    by_cases e : p = q
    · rw [valV_pos e]
      simp [e]
      exact ⟨v, rfl, hd⟩
    · rw [valV_neg e]
      simp [e]
      exact DenT.get hk l
theorem putK_pos {κ : Type} [DecidableEq κ] {p : κ × V} {r : List (κ × V)} {k : κ} {v : V} (e : p.1 = k) (h : ∀ x ∈ r, x.1 ≠ k) : putK (p :: r) k v = (p.1, v) :: r := by
  unfold putK
  simp only [List.any_cons, e, decide_true, Bool.true_or, if_true, List.map_cons]
  congr 1
  conv => rhs; rw [← List.map_id r]
  exact List.map_congr_left fun x hx => by simp [h x hx]
theorem putK_neg {κ : Type} [DecidableEq κ] {p : κ × V} {r : List (κ × V)} {k : κ} {v : V} (e : ¬ p.1 = k) : putK (p :: r) k v = p :: putK r k v := by
  unfold putK
  simp only [List.any_cons, e, decide_false, Bool.false_or, List.map_cons, if_false, List.cons_append]
  split <;> rfl
theorem dlook {K : Frg} {H G : Hp} {t : Bool} {kvs : List (D × D)} {k : D} {x y : V} (hG : Le G H) (h : Top K H G (.dic t kvs) x) (hf : keyFit t k = true) (hy : Den K H k y) : ∃ a o, x = .ref a ∧ DGet H a y o ∧ Look K G (dget kvs k) o ∧ IsD H a := by
  cases t with
  | false =>
    simp only [Top] at h
    obtain ⟨a, ks, rfl, e, l⟩ := h
    obtain ⟨q, hq⟩ := keyFit_k hf
    exact ⟨a, _, rfl, .inl ⟨ks, q, e, kD_V hq hy, rfl⟩, l.get hq, .inl ⟨ks, e⟩⟩
  | true =>
    simp only [Top] at h
    obtain ⟨a, ks, rfl, e, l⟩ := h
    obtain ⟨q, hq⟩ := keyFit_t hf
    obtain ⟨b, rfl, hb⟩ := tkD_V hq hy
    exact ⟨a, _, rfl, .inr ⟨ks, q, b, e, rfl, hb, rfl⟩, l.get hq, .inr ⟨ks, e⟩⟩
theorem look_some {K : Frg} {G : Hp} {o : Option D} {r : Option V} (h : Look K G o r) : r.isSome = o.isSome := by
  cases o with
  | none => rw [show r = none from h]; rfl
  | some d => obtain ⟨v, e, _⟩ := h; rw [e]; rfl
theorem plL_ints {n : Nat} : ∀ ns : List Int, plL n (ns.map D.int) = true
  | [] => by simp [plL]
  | m :: ns => by simp only [List.map_cons, plL, plL_ints ns, Bool.and_true]; cases n <;> rfl
theorem toPs_ints : ∀ ns : List Int, toPs (ns.map D.int) = ns.map PyData.int
  | [] => rfl
  | m :: ns => by simp only [List.map_cons, toPs, toP, toPs_ints ns]
section
variable {X : Cx}
theorem Den.reads {K : Frg} (n : Nat) {pins : List (Addr × Obj)} {s : Shared} {σ : St} {H : Hp} {d : D} {v : V} {u : Value} (I : Inv X pins σ H s) (hp : plD n d = true) (x : Den X.K H d v) (r : RelV v u) : ∃ as, Reads s.heap u (toP d) as :=
  Dp.reads I _ v u (Den.dp n d v hp x) r
def cop : Cmp → CmpOp
  | .eq => .Eq | .ne => .NotEq | .lt => .Lt | .le => .LtE | .gt => .Gt | .ge => .GtE | .is => .Is | .isn => .IsNot | .in_ => .In | .nin => .NotIn
/-- a comparison: both sides read, a truth out -/
def RC (K : Frg) (g : D → D → R Bool) : R2 := fun x y H Q => ∃ (p : Addr → Prop) (a b : D) (k : Bool), Kn H p ∧ Top K H (sub H p) a x ∧ Top K H (sub H p) b y ∧ g a b = .ok k ∧ Q (.bl k) H
theorem fin_k {pins : List (Addr × Obj)} {σ : St} {H : Hp} {s : Shared} {Q : VK} {k : Bool} (I : Inv X pins σ H s) (q : Q (.bl k) H) : EP X pins σ Q (.bool k) s := ⟨.bl k, H, I, rfl, q⟩
theorem eq_z {neg : Bool} (hu : X.A.units + 100 < cLine) (pins : List (Addr × Obj)) (s : Shared) (σ : St) (H : Hp) (x y : V) (v u : Value) (Q : VK) (p : Addr → Prop) (a b : D) (k : Bool) (I : Inv X pins σ H s) (rx : RelV x v) (ry : RelV y u)
    (ha : Top X.K H (sub H p) a x) (hb : Top X.K H (sub H p) b y) (hp : plD 20 a = true ∧ plD 20 b = true) (e : eqD a b = k) (q : Q (.bl (if neg then !k else k)) H) :
    wpAny (model X.prog X.w) X.A (compareOp (if neg then .NotEq else .Eq) v u) (EP X pins σ Q) X.xe s := by
  obtain ⟨as, r1⟩ := Den.reads (K := X.K) 20 I hp.1 (ha.den sub_le) rx
  obtain ⟨bs, r2⟩ := Den.reads (K := X.K) 20 I hp.2 (hb.den sub_le) ry
  have h1 := plD_plain 20 a hp.1
  have h2 := plD_plain 20 b hp.2
  have hm : X.A.units + min (toP a).depth (toP b).depth < cLine := by
    have := Nat.min_le_left (toP a).depth (toP b).depth
    omega
  have ee : PyData.eqv (toP a) (toP b) = k := by rw [eqv_toP 20 20 a b hp.1 hp.2]; exact e
  cases neg with
  | false => exact SeqAt.eq_plain r1 r2 h1.1 h2.1 hm (by rw [ee]; exact fin_k I q)
  | true => exact SeqAt.ne_plain r1 r2 h1.1 h2.1 hm (by rw [ee]; exact fin_k I q)
theorem in_z {neg : Bool} (hu : X.A.units + 100 < cLine) (pins : List (Addr × Obj)) (s : Shared) (σ : St) (H : Hp) (x y : V) (v u : Value) (Q : VK) (p : Addr → Prop) (a b : D) (k : Bool) (I : Inv X pins σ H s) (rx : RelV x v) (ry : RelV y u)
    (kn : Kn H p) (ha : Top X.K H (sub H p) a x) (hb : Top X.K H (sub H p) b y) (e : inD a b = .ok k) (q : Q (.bl (if neg then !k else k)) H) :
    wpAny (model X.prog X.w) X.A (compareOp (if neg then .NotIn else .In) v u) (EP X pins σ Q) X.xe s := by
  cases b <;> first | (simp [inD] at e; done) | skip
  · rename_i ys
    obtain ⟨hp, e⟩ := gd_ok (show gd _ _ = R.ok k from e)
    cases e
    obtain ⟨as, r1⟩ := Den.reads (K := X.K) 20 I hp.1 (ha.den sub_le) rx
    obtain ⟨bs, r2⟩ := Den.reads (K := X.K) 20 (d := .tup ys) I (by simp only [plD]; exact hp.2) (hb.den sub_le) ry
    have h1 := plD_plain 20 a hp.1
    have h2 := plL_plain 19 ys hp.2
    have hm : X.A.units + 1 + min (PyData.depthAll (toPs ys)) (toP a).depth < cLine := by
      have := Nat.min_le_right (PyData.depthAll (toPs ys)) (toP a).depth
      omega
    simp only [toP] at r2
    cases neg with
    | false => exact SeqAt.in_tuple_data r2 r1 h2.1 h1.1 hm (by rw [dpAll_any hp.1 hp.2]; exact fin_k I q)
    | true => exact SeqAt.notIn_tuple_data r2 r1 h2.1 h1.1 hm (by rw [dpAll_any hp.1 hp.2]; exact fin_k I q)
  · rename_i ys
    obtain ⟨hp, e⟩ := gd_ok (show gd _ _ = R.ok k from e)
    cases e
    obtain ⟨as, r1⟩ := Den.reads (K := X.K) 20 I hp.1 (ha.den sub_le) rx
    obtain ⟨bs, r2⟩ := Den.reads (K := X.K) 20 (d := .lst ys) I (by simp only [plD]; exact hp.2) (hb.den sub_le) ry
    have h1 := plD_plain 20 a hp.1
    have h2 := plL_plain 19 ys hp.2
    have hm : X.A.units + 1 + min (PyData.depthAll (toPs ys)) (toP a).depth < cLine := by
      have := Nat.min_le_right (PyData.depthAll (toPs ys)) (toP a).depth
      omega
    simp only [toP] at r2
    cases neg with
    | false => exact SeqAt.in_list_data r2 r1 h2.1 h1.1 hm (by rw [dpAll_any hp.1 hp.2]; exact fin_k I q)
    | true => exact SeqAt.notIn_list_data r2 r1 h2.1 h1.1 hm (by rw [dpAll_any hp.1 hp.2]; exact fin_k I q)
  · rename_i t kvs
    obtain ⟨hp, e⟩ := gd_ok (show gd _ _ = R.ok k from e)
    cases e
    obtain ⟨l, o, rfl, g, lk, _⟩ := dlook sub_le hb hp (ha.den sub_le)
    obtain rfl : u = Value.ref l := ry
    rw [← look_some lk] at q
    cases neg with
    | false => exact d_in (by omega) I g rx fun s' I' => fin_k I' q
    | true => exact d_notIn (by omega) I g rx fun s' I' => fin_k I' q
theorem is_z {neg : Bool} (pins : List (Addr × Obj)) (s : Shared) (σ : St) (H : Hp) (x y : V) (v u : Value) (Q : VK) (G : Hp) (a b : D) (k : Bool) (I : Inv X pins σ H s) (rx : RelV x v) (ry : RelV y u)
    (ha : Top X.K H G a x) (hb : Top X.K H G b y) (e : isD a b = .ok k) (q : Q (.bl (if neg then !k else k)) H) :
    wpAny (model X.prog X.w) X.A (compareOp (if neg then .IsNot else .Is) v u) (EP X pins σ Q) X.xe s := by
  by_cases hn : b = .non
  · subst hn
    simp only [Top, Den] at hb
    subst hb
    have ek : decide (x = V.non) = k := by
      cases a <;> simp [isD] at e <;> subst e
      · simp only [Top, Den] at ha; subst ha; rfl
      · simp only [Top, Den] at ha; subst ha; rfl
      · simp only [Top, Den] at ha; subst ha; rfl
      · simp only [Top, Den] at ha; subst ha; rfl
      · simp only [Top, Den] at ha; obtain ⟨_, _, rfl, _⟩ := ha; rfl
      · simp only [Top, Den] at ha; obtain ⟨_, _, rfl, _⟩ := ha; rfl
      · rename_i t _; cases t <;> (simp only [Top, Den] at ha; obtain ⟨_, _, rfl, _⟩ := ha; rfl)
      · simp only [Top, Den] at ha; obtain ⟨_, _, rfl, _⟩ := ha; rfl
    cases neg with
    | false => exact op_isN pins s σ H x _ v u Q I rx ry ⟨rfl, by rw [ek]; exact q⟩
    | true => exact op_notN pins s σ H x _ v u Q I rx ry ⟨rfl, by rw [ek]; exact q⟩
  · cases a <;> cases b <;> simp [isD] at e <;> first | exact absurd rfl hn | skip
    subst e
    simp only [Top, Den] at ha hb
    subst ha; subst hb
    rename_i c d
    have ek : decide (c = d) = (c == d) := by cases c <;> cases d <;> rfl
    cases neg with
    | false => exact op_is_bl pins s σ H _ _ v u Q I rx ry ⟨c, d, rfl, rfl, by rw [ek]; exact q⟩
    | true => exact op_isnot_bl pins s σ H _ _ v u Q I rx ry ⟨c, d, rfl, rfl, by rw [ek]; exact q⟩

theorem opc (hu : X.A.units + 100 < cLine) (o : Cmp) : OpR X (compareOp (cop o)) (RC X.K (cmpD o)) := by
  intro pins s σ H x y v u Q I rx ry h
  obtain ⟨p, a, b, k, kn, ha, hb, e, q⟩ := h
  have eqh : ∀ (neg : Bool) (k' : Bool), eqR a b = .ok k' → (if neg then !k' else k') = k → wpAny (model X.prog X.w) X.A (compareOp (if neg then .NotEq else .Eq) v u) (EP X pins σ Q) X.xe s := fun neg k' e' ek => by
    obtain ⟨hp, e'⟩ := gd_ok (show gd _ _ = R.ok k' from e')
    cases e'
    exact eq_z (neg := neg) hu pins s σ H x y v u Q p a b _ I rx ry ha hb hp rfl (by rw [ek]; exact q)
  cases o with
  | eq => exact eqh false k e rfl
  | ne =>
    obtain ⟨k', e1, e2⟩ := bind_some (show (eqR a b >>= fun r => pure (!r)) = _ from e)
    cases e2
    exact eqh true k' e1 rfl
  | is => exact is_z (neg := false) pins s σ H x y v u Q _ a b k I rx ry ha hb e q
  | isn =>
    obtain ⟨k', e1, e2⟩ := bind_some (show (isD a b >>= fun r => pure (!r)) = _ from e)
    cases e2
    exact is_z (neg := true) pins s σ H x y v u Q _ a b k' I rx ry ha hb e1 q
  | in_ => exact in_z (neg := false) hu pins s σ H x y v u Q p a b k I rx ry kn ha hb e q
  | nin =>
    obtain ⟨k', e1, e2⟩ := bind_some (show (inD a b >>= fun r => pure (!r)) = _ from e)
    cases e2
    exact in_z (neg := true) hu pins s σ H x y v u Q p a b k' I rx ry kn ha hb e1 q
  | lt =>
    cases a <;> cases b <;> simp [cmpD] at e
    subst e
    simp only [Top, Den] at ha hb; subst ha; subst hb
    exact op_lt pins s σ H _ _ v u Q I rx ry ⟨_, _, rfl, rfl, q⟩
  | gt =>
    cases a <;> cases b <;> simp [cmpD] at e
    subst e
    simp only [Top, Den] at ha hb; subst ha; subst hb
    exact op_gt pins s σ H _ _ v u Q I rx ry ⟨_, _, rfl, rfl, q⟩
  | ge =>
    cases a <;> cases b <;> simp [cmpD] at e
    subst e
    simp only [Top, Den] at ha hb; subst ha; subst hb
    exact op_ge pins s σ H _ _ v u Q I rx ry ⟨_, _, rfl, rfl, q⟩
  | le =>
    cases a <;> cases b <;> simp [cmpD] at e
    · subst e
      simp only [Top, Den] at ha hb; subst ha; subst hb
      exact op_le pins s σ H _ _ v u Q I rx ry ⟨_, _, rfl, rfl, q⟩
    · rename_i xs ys
      cases q1 : allOf intOf xs with
      | none => rw [q1] at e; simp at e
      | some ns =>
        cases q2 : allOf intOf ys with
        | none => rw [q1, q2] at e; simp at e
        | some ms =>
          rw [q1, q2] at e
          simp at e
          subst e
          have p1 : plD 1 (.tup xs) = true := by rw [ints_map q1]; simp only [plD]; exact plL_ints ns
          have p2 : plD 1 (.tup ys) = true := by rw [ints_map q2]; simp only [plD]; exact plL_ints ms
          obtain ⟨as, r1⟩ := Den.reads (K := X.K) 1 I p1 (ha.den sub_le) rx
          obtain ⟨bs, r2⟩ := Den.reads (K := X.K) 1 I p2 (hb.den sub_le) ry
          have d1 := (plD_plain 1 _ p1).2
          rw [ints_map q1] at r1 d1
          rw [ints_map q2] at r2
          simp only [toP, toPs_ints] at r1 r2 d1
          have hm : X.A.units + min (PyData.tuple (ns.map .int)).depth (PyData.tuple (ms.map .int)).depth < cLine := by
            have := Nat.min_le_left (PyData.tuple (ns.map .int)).depth (PyData.tuple (ms.map .int)).depth
            omega
          refine PySem.W.le_data r1 r2 (by simp only [PySem.W.alike]; exact PySem.W.alike_ints ns ms) (fun z => nomatch z) hm ?_
          rw [PySem.W.dataLt_tuple]
          have := PySem.W.dataLt_ints ms ns
          unfold PySem.W.rowLt at this
          rw [this, ← lexLe_not]
          exact fin_k I q
end
end Z

set_option maxRecDepth 100000
/-! Z, part 6: places, slices. -/
namespace HT
open PySem PyProof.Rows
section
variable {prog : Program} {w : World} {A : Around} {E : Value → Shared → Prop} {s : Shared}
theorem getItem_tuple_whole {t sl : Addr} {items : Array Value} {vl vu : Value} {lo hi : Option Int} {Q : Value → Shared → Prop} (ht : IsTup s.heap t items) (hs : s.heap.IsSliceOf sl vl vu .none) (pl : IsPart vl lo) (pu : IsPart vu hi)
    (hw : sIx items.size 0 lo = 0 ∧ sIx items.size items.size hi = items.size)
    (h : Q (.ref t) s) : wpAny (model prog w) A (getItem (.ref t) (.ref sl)) Q E s := by
  obtain ⟨os, hos, hcs, hds⟩ := id hs
  have hTs : s.TypeIs (.ref sl) "slice" := ⟨os, hos, hcs⟩
  unfold getItem
  try with_reducible refine wpAny_holding ?_
  first | refine wpAny_bind (wpAny_pure ?_) | skip
  refine wpAny_bind (wpAny_sequenceKey ht.typeIs (by decide) ?_)
  refine wpAny_bind (wpAny_callSpecial?_slot (name := Str.ofString "__getitem__") ht.typeIs PyProof.Rows.slot_tuple_getitem
    (wpAny_call_entry PyProof.Rows.slot_tuple_getitem ht.typeIs entry_tuple_getitem ?_ (args_tuple_getitem _ _)))
  show wpAny _ _ (Builtin.Tuple.tupleItemsOf (.ref t) >>= _) _ _ s
  refine wpAny_bind (tupleItemsOf_ ht ?_)
  refine wpAny_bind (wpAny_typeOf hTs ?_)
  rw [if_pos (by decide)]
  refine wpAny_bind (sliceApplied_gen hs pl pu ?_)
  have hno : ((((sIx items.size 0 lo : Nat) : Int) == 0 && (1 : Int) == 1 && (sIx items.size items.size hi - sIx items.size 0 lo) == items.size) = true) := by
    rw [hw.1, hw.2]; simp
  show wpAny _ _ (if (((sIx items.size 0 lo : Nat) : Int) == 0 && (1 : Int) == 1 && (sIx items.size items.size hi - sIx items.size 0 lo) == items.size) = true then _ else _) _ _ s
  rw [if_pos hno]
  refine wpAny_bind (m := Builtin.Tuple.tupleIsExact _) ?_
  unfold Builtin.Tuple.tupleIsExact
  refine wpAny_bind (wpAny_typeOf ht.typeIs (wpAny_pure ?_))
  rw [if_pos (by decide)]
  first
    | exact wpAny_bind (wpAny_rule (wpAny_pure ⟨_, rfl, wpAny_pure h⟩))
    | exact wpAny_bind (wpAny_rule (wpAny_bind (wpAny_pure (wpAny_pure ⟨_, rfl, wpAny_pure h⟩))))
    | skip
end
end HT
namespace Z
open PySem L2 PyProof.Rows
open Classical
section
variable {X : Cx}
def RI (K : Frg) : R2 := fun x y H Q => ∃ (p : Addr → Prop) (a b d : D), Kn H p ∧ Top K H (sub H p) a x ∧ Top K H (sub H p) b y ∧ idxD a b = .ok d ∧ ∀ v, Den K (sub H p) d v → Q v H
theorem DenL.at {K : Frg} {G : Hp} {ds : List D} {vs : List V} {i : Int} {d : D} (l : DenL K G ds vs) (h : atI ds i = some d) : ∃ v, L2.atI vs i = some v ∧ Den K G d v := by
  unfold atI L2.atI at h
  unfold L2.atI
  rw [l.length]
  cases q : L2.ixN ds.length i with
  | none => rw [q] at h; cases h
  | some j =>
    rw [q] at h
    exact l.get (i := j) h
theorem oR_ok {α : Type} {o : Option α} {a : α} (h : oR o = .ok a) : o = some a := by
  cases o with
  | none => cases h
  | some b => cases h; rfl
theorem ix_dict (hu : X.A.units + 1 < cLine) : IxR X (fun x y H Q => ∃ a v, x = .ref a ∧ DGet H a y (some v) ∧ Q v H) := by
  intro value slice pins s σ H x y v u Q I rx ry h hs
  obtain ⟨a, v0, rfl, g, q⟩ := h
  obtain rfl : v = Value.ref a := rx
  have hT := dict_typeIs I g
  unfold subscriptTail
  refine wpAny_bind ?_
  rw [getitemInPython_of_ne hT.not_modules]
  refine wpAny_bind (wpAny_specialOf hT PySem.F.slot_dict_getitem.lookup ?_)
  have fin : wpAny (model X.prog X.w) X.A (subscripted slice false (.ref a) u) (fun r s₃ => wpAny (model X.prog X.w) X.A (letTemporaryGo value (.ref a) r >>= fun _ => pure r) (EP X pins σ Q) X.xe s₃) X.xe s := by
    rw [hs]
    exact wpAny_operating (wpAny_mono (d_getItem (Q := EP X pins σ Q) hu I g ry fun w' s3 I3 rw' => ⟨v0, H, I3, rw', q⟩) (fun r s₃ h₃ => wpAny_bind (wpAny_letTemporaryGo (wpAny_pure h₃))) fun _ _ x => x)
  first
    | exact wpAny_pure (wpAny_bind fin)
    | exact wpAny_bind (wpAny_pure (wpAny_bind fin))
    | exact wpAny_bind fin
theorem ixz (hu : X.A.units + 100 < cLine) : IxR X (RI X.K) := by
  intro value slice pins s σ H x y v u Q I rx ry h hs
  obtain ⟨p, a, b, d, kn, ha, hb, e, q⟩ := h
  cases a with
  | lst ds =>
    cases b <;> first | (simp [idxD] at e; done) | skip
    rename_i i
    have e := oR_ok (show oR _ = .ok d from e)
    simp only [Top, Den] at ha hb
    obtain ⟨l, vs, rfl, hl, dl⟩ := ha
    subst hb
    obtain ⟨w, h1, h2⟩ := dl.at e
    exact ix_list value slice pins s σ H _ _ v u Q I rx ry ⟨l, vs, i, w, rfl, rfl, .inl (.inl hl), h1, q w h2⟩ hs
  | fls ds =>
    cases b <;> first | (simp [idxD] at e; done) | skip
    rename_i i
    have e := oR_ok (show oR _ = .ok d from e)
    simp only [Top, Den] at ha hb
    obtain ⟨l, vs, rfl, hl, dl⟩ := ha
    subst hb
    obtain ⟨w, h1, h2⟩ := dl.at e
    exact ix_list value slice pins s σ H _ _ v u Q I rx ry ⟨l, vs, i, w, rfl, rfl, sub_le.sqL hl, h1, q w h2⟩ hs
  | tup ds =>
    cases b <;> first | (simp [idxD] at e; done) | skip
    rename_i i
    have e := oR_ok (show oR _ = .ok d from e)
    simp only [Top, Den] at ha hb
    obtain ⟨l, vs, rfl, hl, dl⟩ := ha
    subst hb
    obtain ⟨w, h1, h2⟩ := dl.at e
    exact ix_tup value slice pins s σ H _ _ v u Q I rx ry ⟨l, vs, i, w, rfl, rfl, .inl (.inl (sub_le _ _ hl)), h1, q w h2⟩ hs
  | dic t kvs =>
    obtain ⟨hf, e⟩ := gd_ok (show gd _ _ = .ok d from e)
    have e := oR_ok e
    obtain ⟨l, o, rfl, g, lk, _⟩ := dlook sub_le ha hf (hb.den sub_le)
    rw [e] at lk
    obtain ⟨w, rfl, hw⟩ := lk
    exact ix_dict (by omega) value slice pins s σ H _ _ v u Q I rx ry ⟨l, w, rfl, g, q w hw⟩ hs
  | str z =>
    cases b <;> simp [idxD] at e
  | _ => cases b <;> simp [idxD] at e
def RS (K : Frg) : V → Option Int → Option Int → Hp → VK → Prop := fun x lo hi H Q => ∃ (p : Addr → Prop) (a d : D), Kn H p ∧ Top K H (sub H p) a x ∧ slcD a lo hi = .ok d ∧ ∀ v H', Le H H' → ResD true K H H' (sub H' p) d v → Q v H'
theorem DenL.cut {K : Frg} {G : Hp} {ds : List D} {vs : List V} (l : DenL K G ds vs) (lo hi : Option Int) : DenL K G (cut ds lo hi) (cutV vs lo hi) := by
  unfold Z.cut cutV
  rw [l.length]
  exact (l.drop _).take _
theorem sl_tupW : SlR X (fun x lo hi H Q => ∃ a xs, x = .ref a ∧ SqT X.K H a xs ∧ (HT.sIx xs.length 0 lo = 0 ∧ HT.sIx xs.length xs.length hi = xs.length) ∧ Q (.ref a) H) := by
  intro pins s σ H x v vl vu lo hi sl Q I rx hs pl pu h
  obtain ⟨a, xs, rfl, hx, hw, q⟩ := h
  cases rx
  obtain ⟨its, r, ht, hz⟩ := I.tuple hx
  have hlen : its.toArray.size = xs.length := by rw [List.size_toArray]; exact r.length.symm
  refine ⟨"tuple", _, PyProof.Rows.slot_tuple_getitem.lookup, ht.typeIs, ?_⟩
  exact HT.getItem_tuple_whole ht hs pl pu (by rw [hlen]; exact hw) ⟨.ref a, H, I, rfl, q⟩
theorem slz : SlR X (RS X.K) := by
  intro pins s σ H x v vl vu lo hi sl Q I rx hs pl pu h
  obtain ⟨p, a, d, kn, ha, e, q⟩ := h
  cases a <;> simp [slcD] at e <;> subst e
  · rename_i ds
    simp only [Top, Den] at ha
    obtain ⟨l, vs, rfl, hl, dl⟩ := ha
    by_cases hw : HT.sIx vs.length 0 lo = 0 ∧ HT.sIx vs.length vs.length hi = vs.length
    · refine sl_tupW pins s σ H _ v vl vu lo hi sl Q I rx hs pl pu ⟨l, vs, rfl, .inl (.inl (sub_le _ _ hl)), hw, q _ H (Le.refl H) (resS rfl ?_)⟩
      have : cut ds lo hi = ds := by
        unfold cut
        rw [← dl.length, hw.1, hw.2]
        simp only [List.drop_zero, Nat.sub_zero]
        rw [dl.length, List.take_length]
      rw [this]
      simp only [Den]
      exact ⟨l, vs, rfl, hl, dl⟩
    · exact sl_tup pins s σ H _ v vl vu lo hi sl Q I rx hs pl pu ⟨l, vs, rfl, .inl (.inl (sub_le _ _ hl)), hw, fun a ha => q _ _ (Le.upd ha) (newTup kn ha (dl.cut lo hi))⟩
  · rename_i ds
    simp only [Top] at ha
    obtain ⟨l, vs, rfl, hl, dl⟩ := ha
    exact sl_list pins s σ H _ v vl vu lo hi sl Q I rx hs pl pu ⟨l, vs, rfl, .inl (.inl hl), fun a ha => q _ _ (Le.upd ha) (newLst kn ha (dl.cut lo hi))⟩
  · rename_i ds
    simp only [Top, Den] at ha
    obtain ⟨l, vs, rfl, hl, dl⟩ := ha
    exact sl_list pins s σ H _ v vl vu lo hi sl Q I rx hs pl pu ⟨l, vs, rfl, sub_le.sqL hl, fun a ha => q _ _ (Le.upd ha) (newLst kn ha (dl.cut lo hi))⟩

/-! ### built-in functions -/
def TopL (K : Frg) (H G : Hp) : List D → List V → Prop
  | [], vs => vs = []
  | d :: ds, vs => ∃ v r, vs = v :: r ∧ Top K H G d v ∧ TopL K H G ds r
theorem TopL.mono {K : Frg} {H H' G G' : Hp} (h : Le G G') (e : Le H H') : ∀ {ds : List D} {vs : List V}, TopL K H G ds vs → TopL K H' G' ds vs
  | [], _, x => x
  | d :: ds, vs, ⟨v, r, q, t, l⟩ => ⟨v, r, q, t.mono h e, TopL.mono h e l⟩
def RF (K : Frg) (g : List D → R D) : List V → Hp → VK → Prop := fun vs H Q => ∃ (p : Addr → Prop) (ds : List D) (d : D), Kn H p ∧ TopL K H (sub H p) ds vs ∧ g ds = .ok d ∧ ∀ v H', Le H H' → ResD true K H H' (sub H' p) d v → Q v H'
theorem f_len : CallR X (.builtin "len") (RF X.K (biD .len)) := by
  intro pins s σ H vs us Q I rv h
  obtain ⟨p, ds, d, kn, ht, e, q⟩ := h
  have sc : ∀ n : Int, d = .int n → Q (.int n) H := fun n z => q _ H (Le.refl H) (by rw [z]; exact resS rfl (by simp [Den]))
  match ds, e with
  | [.str x], e =>
    obtain ⟨hz, e⟩ := gd_ok (show gd _ _ = .ok d from e)
    cases e
    obtain ⟨v, r, rfl, t, rfl⟩ := ht
    simp only [Top, Den] at t; subst t
    exact call_len pins s σ H _ us Q I rv ⟨.str x, x.length, rfl, ⟨szL_le hz, rfl⟩, sc _ rfl⟩
  | [.lst xs], e =>
    cases e
    obtain ⟨v, r, rfl, t, rfl⟩ := ht
    simp only [Top] at t
    obtain ⟨l, vs, rfl, hl, dl⟩ := t
    rw [← dl.length] at sc q
    exact call_len pins s σ H _ us Q I rv ⟨.ref l, vs.length, rfl, .inl ⟨vs, .inl (.inl hl), rfl⟩, sc _ rfl⟩
  | [.tup xs], e =>
    cases e
    obtain ⟨v, r, rfl, t, rfl⟩ := ht
    simp only [Top, Den] at t
    obtain ⟨l, vs, rfl, hl, dl⟩ := t
    rw [← dl.length] at sc q
    exact call_len pins s σ H _ us Q I rv ⟨.ref l, vs.length, rfl, .inr ⟨vs, .inl (.inl (sub_le _ _ hl)), rfl⟩, sc _ rfl⟩
  | [.fls xs], e =>
    cases e
    obtain ⟨v, r, rfl, t, rfl⟩ := ht
    simp only [Top, Den] at t
    obtain ⟨l, vs, rfl, hl, dl⟩ := t
    rw [← dl.length] at sc q
    exact call_len pins s σ H _ us Q I rv ⟨.ref l, vs.length, rfl, .inl ⟨vs, sub_le.sqL hl, rfl⟩, sc _ rfl⟩
  | [.dic false kvs], e =>
    cases e
    obtain ⟨v, r, rfl, t, rfl⟩ := ht
    simp only [Top] at t
    obtain ⟨l, ks, rfl, hl, dl⟩ := t
    rw [← dl.length] at sc q
    obtain ⟨u, rfl, rx⟩ := vals1 rv
    obtain rfl : u = .ref l := rx
    exact d_len I hl fun t s' I' => ⟨.int ks.length, H, I', ⟨t, rfl⟩, sc _ rfl⟩
  | [.dic true kvs], e =>
    cases e
    obtain ⟨v, r, rfl, t, rfl⟩ := ht
    simp only [Top] at t
    obtain ⟨l, ks, rfl, hl, dl⟩ := t
    rw [← dl.length] at sc q
    obtain ⟨u, rfl, rx⟩ := vals1 rv
    obtain rfl : u = .ref l := rx
    obtain ⟨z, hd, ys, rel, dd⟩ := dt_rd I.hok hl
    have hq : ks.length = ys.length := Paired.length rel
    refine PySem.call_len_dictH hd dd (by rw [← hq]; rw [sizeLine_eq] at z; omega) ?_
    rw [← hq]
    exact ⟨.int ((ks.length : Nat) : Int), H, I.tok _, ⟨_, rfl⟩, sc _ rfl⟩
theorem f_list : CallR X (.type "list") (RF X.K (biD .list)) := by
  intro pins s σ H vs us Q I rv h
  obtain ⟨p, ds, d, kn, ht, e, q⟩ := h
  match ds, e with
  | [.lst xs], e =>
    cases e
    obtain ⟨v, r, rfl, t, rfl⟩ := ht
    simp only [Top] at t
    obtain ⟨l, vs, rfl, hl, dl⟩ := t
    exact call_list_of pins s σ H _ us Q I rv ⟨l, vs, rfl, .inl (.inl (.inl hl)), fun a ha => q _ _ (Le.upd ha) (newLst kn ha dl)⟩
  | [.tup xs], e =>
    cases e
    obtain ⟨v, r, rfl, t, rfl⟩ := ht
    simp only [Top, Den] at t
    obtain ⟨l, vs, rfl, hl, dl⟩ := t
    exact call_list_of pins s σ H _ us Q I rv ⟨l, vs, rfl, .inr (.inl (.inl (sub_le _ _ hl))), fun a ha => q _ _ (Le.upd ha) (newLst kn ha dl)⟩
theorem f_tuple : CallR X (.type "tuple") (RF X.K (biD .tuple)) := by
  intro pins s σ H vs us Q I rv h
  obtain ⟨p, ds, d, kn, ht, e, q⟩ := h
  match ds, e with
  | [.lst xs], e =>
    cases e
    obtain ⟨v, r, rfl, t, rfl⟩ := ht
    simp only [Top] at t
    obtain ⟨l, vs, rfl, hl, dl⟩ := t
    exact call_tuple_of pins s σ H _ us Q I rv ⟨l, vs, rfl, .inl ⟨.inl (.inl hl), fun a ha => q _ _ (Le.upd ha) (newTup kn ha dl)⟩⟩
  | [.tup xs], e =>
    cases e
    obtain ⟨v, r, rfl, t, rfl⟩ := ht
    simp only [Top, Den] at t
    obtain ⟨l, vs, rfl, hl, dl⟩ := t
    refine call_tuple_of pins s σ H _ us Q I rv ⟨l, vs, rfl, .inr ⟨.inl (.inl (sub_le _ _ hl)), q _ H (Le.refl H) (resS rfl ?_)⟩⟩
    simp only [Den]
    exact ⟨l, vs, rfl, hl, dl⟩
theorem f_abs : CallR X (.builtin "abs") (RF X.K (biD .abs)) := by
  intro pins s σ H vs us Q I rv h
  obtain ⟨p, ds, d, kn, ht, e, q⟩ := h
  match ds, e with
  | [.int i], e =>
    cases e
    obtain ⟨v, r, rfl, t, rfl⟩ := ht
    simp only [Top, Den] at t; subst t
    exact call_abs pins s σ H _ us Q I rv ⟨i, rfl, q _ H (Le.refl H) (resS rfl (by simp [Den]))⟩
theorem f_int : CallR X (.type "int") (RF X.K (biD .int)) := by
  intro pins s σ H vs us Q I rv h
  obtain ⟨p, ds, d, kn, ht, e, q⟩ := h
  match ds, e with
  | [.int i], e =>
    cases e
    obtain ⟨v, r, rfl, t, rfl⟩ := ht
    simp only [Top, Den] at t; subst t
    exact call_int1 pins s σ H _ us Q I rv (.inl ⟨i, rfl, q _ H (Le.refl H) (resS rfl (by simp [Den]))⟩)
  | [.bl i], e =>
    cases e
    obtain ⟨v, r, rfl, t, rfl⟩ := ht
    simp only [Top, Den] at t; subst t
    exact call_int1 pins s σ H _ us Q I rv (.inr ⟨i, rfl, q _ H (Le.refl H) (resS rfl (by simp [Den, b2z]))⟩)
theorem f_max2 (hc : X.calm = true) : CallR X (.builtin "max") (RF X.K (biD .max2)) := by
  intro pins s σ H vs us Q I rv h
  obtain ⟨p, ds, d, kn, ht, e, q⟩ := h
  match ds, e with
  | [.int i, .int j], e =>
    cases e
    obtain ⟨v, r, rfl, t, v2, r2, rfl, t2, rfl⟩ := ht
    simp only [Top, Den] at t t2; subst t; subst t2
    exact call_max2 hc pins s σ H _ us Q I rv ⟨i, j, rfl, q _ H (Le.refl H) (resS rfl (by simp [Den]))⟩
theorem f_min2 (hc : X.calm = true) : CallR X (.builtin "min") (RF X.K (biD .min2)) := by
  intro pins s σ H vs us Q I rv h
  obtain ⟨p, ds, d, kn, ht, e, q⟩ := h
  match ds, e with
  | [.int i, .int j], e =>
    cases e
    obtain ⟨v, r, rfl, t, v2, r2, rfl, t2, rfl⟩ := ht
    simp only [Top, Den] at t t2; subst t; subst t2
    exact call_min2 hc pins s σ H _ us Q I rv ⟨i, j, rfl, q _ H (Le.refl H) (resS rfl (by simp [Den]))⟩
end
end Z

section
set_option maxHeartbeats 1000000
set_option maxRecDepth 100000
namespace Z
open PySem PySem.Spec PyProof.Rows L2
/-! zip of two rows, each a list or a tuple -/
def SqK (t : Bool) (K : PySem.W.Frag) (H : Hp) (a : Addr) (xs : List V) : Prop := match t with
  | true => SqT K H a xs
  | false => SqL K H a xs
def IsK (t : Bool) (h : Heap) (a : Addr) (its : Array Value) : Prop := match t with
  | true => h.IsTuple a its
  | false => h.IsList a its
def ItK (t : Bool) (h : Heap) (it a : Addr) (i : Nat) : Prop := match t with
  | true => h.IsTupleIter it a i
  | false => h.IsListIter it a i
def oK (t : Bool) (a : Addr) : Obj := match t with
  | true => { cls := .type "tuple_iterator", data := .fields #[.ref a, .int 0 0] }
  | false => { cls := .type "list_iterator", data := .fields #[.ref a, .int 0 0] }
theorem IsK.keep {t : Bool} {h h' : Heap} {a : Addr} {its : Array Value} (x : IsK t h a its) (k : ∀ o, h.get? a = some o → h'.get? a = some o) : IsK t h' a its := by
  cases t with
  | true => exact Heap.IsTuple.at x k
  | false => exact Heap.IsList.at x k
theorem ItK.keep {t : Bool} {h h' : Heap} {it a : Addr} {i : Nat} (x : ItK t h it a i) (k : ∀ o, h.get? it = some o → h'.get? it = some o) : ItK t h' it a i := by
  cases t with
  | true => exact Heap.IsTupleIter.at x k
  | false => exact Heap.IsListIter.at x k
theorem ItK.obj {t : Bool} {h : Heap} {it a : Addr} {i : Nat} (x : ItK t h it a i) : ∃ o, h.get? it = some o ∧ o.data = .fields #[.ref a, .int i 0] := by
  cases t with
  | true => obtain ⟨o, e, _, d⟩ := x; exact ⟨o, e, d⟩
  | false => obtain ⟨o, e, _, d⟩ := x; exact ⟨o, e, d⟩
theorem beginsK (t : Bool) (a : Addr) (its : Array Value) : Begins (.ref a) (oK t a) fun h => IsK t h a its := by
  cases t with
  | true => exact begins_tuple a its
  | false => exact begins_list a its
/-- an iterator that stands at i already -/
theorem drawsK {prog : Program} {w : World} {A : Around} (hh : A.handled = none) (t : Bool) (it a : Addr) (hne : a ≠ it) (its : Array Value) (i : Nat) :
    Draws prog w A it [it, a] (its.size - i) (fun j v => its[i + j]? = some v) (fun j h => ItK t h it a (i + j) ∧ IsK t h a its) where
  live := fun _ _ st => let ⟨o, ho, _⟩ := st.1.obj; ⟨o, ho⟩
  frame := fun _ _ _ st hk => ⟨st.1.keep fun o e => hk it (by simp) o e, st.2.keep fun o e => hk a (by simp) o e⟩
  item := fun j s Q E hj st hQ => by
    have lt : i + j < its.size := by omega
    cases t with
    | true => exact wpAny_nextOf_tuple_item st.1 st.2 (x := its[i + j]) (by simp [lt]) fun h' hit' hs' => hQ _ h' s.toks (by simp [lt]) ⟨hit', (show Heap.IsTuple s.heap a its from st.2).extBut hs'.extBut hne⟩ hs'
    | false => exact wpAny_nextOf_list_item st.1 st.2 (x := its[i + j]) (by simp [lt]) fun h' hit' hs' => hQ _ h' s.toks (by simp [lt]) ⟨hit', (show Heap.IsList s.heap a its from st.2).extBut hs'.extBut hne⟩ hs'
  done := fun s Q E st hE => by
    have ge : its[i + (its.size - i)]? = none := by simp; omega
    cases t with
    | true => exact wpAny_nextOf_tuple_end hh st.1 st.2 ge hE
    | false => exact wpAny_nextOf_list_end hh st.1 st.2 ge hE
theorem SqK.ok {t : Bool} {X : Cx} {pins : List (Addr × Obj)} {σ : L2.St} {H : Hp} {s : Shared} {a : Addr} {xs : List V} (I : Inv X pins σ H s) (h : SqK t X.K H a xs) : ∃ its : List Value, Vals xs its ∧ IsK t s.heap a its.toArray ∧ a < s.heap.objs.size := by
  cases t with
  | true =>
    obtain ⟨its, r, p, _⟩ := I.tuple h
    obtain ⟨o, e, _⟩ := id p
    exact ⟨its, r, p, Heap.lt_size e⟩
  | false =>
    obtain ⟨its, r, p, _⟩ := I.list h
    exact ⟨its, r, p.isList, p.lt⟩
theorem SqK.inj {t : Bool} {X : Cx} {pins : List (Addr × Obj)} {σ : L2.St} {H : Hp} {s : Shared} {a : Addr} {xs ys : List V} (I : Inv X pins σ H s) (h : SqK t X.K H a xs) (h' : SqK t X.K H a ys) : xs = ys := by
  cases t with
  | true => exact I.tuple_inj h h'
  | false => exact I.list_inj h h'
def ItzM (t1 t2 : Bool) (K : PySem.W.Frag) (a b : Addr) : It :=
  ⟨fun i H => ∃ (xs ys : List V) (x y : V), SqK t1 K H a xs ∧ SqK t2 K H b ys ∧ xs[i]? = some x ∧ ys[i]? = some y,
    fun i H v H' => ∃ T x y, v = .ref T ∧ H T = none ∧ H' = upd H T (.tup [x, y]) ∧ (∀ xs, SqK t1 K H a xs → xs[i]? = some x) ∧ ∀ ys, SqK t2 K H b ys → ys[i]? = some y,
    fun i H => ∃ xs ys : List V, SqK t1 K H a xs ∧ SqK t2 K H b ys ∧ (xs.length ≤ i ∨ ys.length ≤ i)⟩
theorem sepK {z TI TO i1 i2 a b : Addr} (D : ZipApart z TI TO i1 i2 a b) : ZipSep2 z TI TO i1 i2 [i1, a] [i2, b] where
  TIz := D.TIz
  TOz := D.TOz
  TITO := D.TITO
  TIi1 := D.TIi1
  mem1 := by simp
  zf1 := by simp; exact ⟨D.i1z.symm, D.l1z.symm⟩
  Tf1 := by simp; exact ⟨D.TOi1, D.l1TO.symm⟩
  TIi2 := D.TIi2
  mem2 := by simp
  zf2 := by simp; exact ⟨D.i2z.symm, D.l2z.symm⟩
  Tf2 := by simp; exact ⟨D.TOi2, D.l2TO.symm⟩
  sep1_2 := by simp; exact ⟨D.i12, D.l2i1.symm⟩
  sep2_1 := by simp; exact ⟨D.i12.symm, D.l1i2.symm⟩
theorem turn_zipM {P : Program} {w : World} {K : PySem.W.Frag} {elts : List Expr} {kk : Nat} {tpos : Pos} {a b z TI TO i1 i2 : Addr} (t1 t2 : Bool) (D : ZipApart z TI TO i1 i2 a b) :
    Turn P w K (.Tuple elts kk tpos) (ItzM t1 t2 K a b) [z, TI, TO, i1, i2] z (fun i h => IsZip h z TI TO .none ∧ IsPair h TI (.ref i1) (.ref i2) ∧ (∃ x y, IsPair h TO x y) ∧ ItK t1 h i1 a i ∧ ItK t2 h i2 b i) where
  mem := by simp
  obj := fun i h st c hc => by
    obtain ⟨hz, hTI, ⟨x, y, hTO⟩, h1, h2⟩ := st
    obtain ⟨o1, e1, d1⟩ := h1.obj
    obtain ⟨o2, e2, d2⟩ := h2.obj
    simp only [List.mem_cons, List.not_mem_nil, or_false] at hc
    rcases hc with q | q | q | q | q <;> rw [q]
    · exact ⟨_, hz, fun v q => nomatch q⟩
    · exact ⟨_, hTI, fun v q => nomatch q⟩
    · exact ⟨_, hTO, fun v q => nomatch q⟩
    · exact ⟨o1, e1, fun v q => by rw [d1] at q; cases q⟩
    · exact ⟨o2, e2, fun v q => by rw [d2] at q; cases q⟩
  keep := fun i h h' st k => by
    obtain ⟨hz, hTI, ⟨x, y, hTO⟩, h1, h2⟩ := st
    exact ⟨k z (by simp) _ hz, k TI (by simp) _ hTI, ⟨x, y, k TO (by simp) _ hTO⟩, h1.keep fun o q => k i1 (by simp) o q, h2.keep fun o q => k i2 (by simp) o q⟩
  item := by
    intro X hP hw hK hc i pins s σ H E I hf st hg
    subst hP hw hK
    obtain ⟨hz, hTI, ⟨x0, y0, hTO⟩, h1, h2⟩ := st
    obtain ⟨xs, ys, x, y, hqx, hqy, hx, hy⟩ := hg
    obtain ⟨its, rv, p, _⟩ := SqK.ok I hqx
    obtain ⟨its2, rv2, p2, _⟩ := SqK.ok I hqy
    obtain ⟨u, hu, ru⟩ := rv.get hx
    obtain ⟨u2, hu2, ru2⟩ := rv2.get hy
    have hzl : z < s.heap.objs.size := Heap.lt_size hz
    have l1 : i < its.length := by have := (List.getElem?_eq_some_iff.mp hu).1; exact this
    have l2 : i < its2.length := by have := (List.getElem?_eq_some_iff.mp hu2).1; exact this
    refine wpAny_pyNext_zipD2_item (i := 0) (sepK D) (drawsK (A := X.A.in1) (I.ok.hd hc) t1 i1 a D.l1i1 its.toArray i) (drawsK (A := X.A.in1) (I.ok.hd hc) t2 i2 b D.l2i2 its2.toArray i) hz hTI hTO ⟨h1, p⟩ ⟨h2, p2⟩ (by simp; omega) (by simp; omega) fun v1 v2 h' tk q1 q2 z' TO' st1 st2 hT hsz hk => ?_
    have e1 : v1 = u := by
      simp only [Nat.add_zero, List.getElem?_toArray] at q1
      rw [hu] at q1; injection q1 with q1; exact q1.symm
    have e2 : v2 = u2 := by
      simp only [Nat.add_zero, List.getElem?_toArray] at q2
      rw [hu2] at q2; injection q2 with q2; exact q2.symm
    subst e1 e2
    refine ⟨_, rfl, wpAny_letOwnedTupleGo_zip (s := { s with heap := h', toks := tk }) z' fun h'' z'' sb => ?_⟩
    have hT2 : h''.get? s.heap.objs.size = some { cls := .type "tuple", data := .seq #[v1, v2] } := (sb.2 _ (Nat.ne_of_gt hzl)).trans hT
    have new : ObjOk X.prog X.w (upd H s.heap.objs.size (.tup [x, y])) h'' s.heap.objs.size (.tup [x, y]) :=
      ⟨by show 2 ≤ sizeLine; decide, [v1, v2], .cons ru (.cons ru2 .nil), ⟨_, hT2, rfl, _, rfl⟩⟩
    have I1 : Inv X pins σ (upd H s.heap.objs.size (.tup [x, y])) { s with heap := h'', toks := tk } :=
      I.turnedNew (t' := tk) (ch := [z, TI, TO, i1, i2]) (fun c o hb q => (sb.2 c (fun q' => hb (by simp [q']))).trans (hk c o (fun q' => hb (by simp [q'])) (fun q' => hb (by simp [q'])) (fun q' => hb (by simp [q'])) (fun q' => hb (by simp [q'])) q)) hf (Nat.le_refl _) new
    refine ⟨.ref s.heap.objs.size, _, I1, rfl, ⟨_, x, y, rfl, I.hok.fresh (Nat.le_refl _), rfl, fun l hl => by rw [SqK.inj I hl hqx]; exact hx, fun l hl => by rw [SqK.inj I hl hqy]; exact hy⟩, ⟨z'', ?_, ⟨v1, v2, ?_⟩, ?_, ?_⟩, fun c hcm => ?_⟩
    · exact (sb.2 _ D.TIz).trans (hk _ _ D.TIz D.TITO D.TIi1 D.TIi2 hTI)
    · exact (sb.2 _ D.TOz).trans TO'
    · exact st1.1.keep fun o q => (sb.2 _ D.i1z).trans q
    · exact st2.1.keep fun o q => (sb.2 _ D.i2z).trans q
    · have hlt : c < s.heap.objs.size := by
        obtain ⟨o1, e1, _⟩ := h1.obj
        obtain ⟨o2, e2, _⟩ := h2.obj
        simp only [List.mem_cons, List.not_mem_nil, or_false] at hcm
        rcases hcm with q | q | q | q | q <;> rw [q]
        · exact hzl
        · exact Heap.lt_size hTI
        · exact Heap.lt_size hTO
        · exact Heap.lt_size e1
        · exact Heap.lt_size e2
      rw [upd_ne (Nat.ne_of_lt hlt)]
      exact (hf c hcm).1
  done := by
    intro X hP hw hK hc i pins s σ H E I hf st hg
    subst hP hw hK
    obtain ⟨hz, hTI, ⟨x0, y0, hTO⟩, h1, h2⟩ := st
    obtain ⟨xs, ys, hqx, hqy, hend⟩ := hg
    obtain ⟨its, rv, p, _⟩ := SqK.ok I hqx
    obtain ⟨its2, rv2, p2, _⟩ := SqK.ok I hqy
    have l1 := rv.length
    have l2 := rv2.length
    exact wpAny_pyNext_zipD2_end (i := 0) (sepK D) (drawsK (A := X.A.in1) (I.ok.hd hc) t1 i1 a D.l1i1 its.toArray i) (drawsK (A := X.A.in1) (I.ok.hd hc) t2 i2 b D.l2i2 its2.toArray i) hz hTI hTO ⟨h1, p⟩ ⟨h2, p2⟩ (Nat.zero_le _) (Nat.zero_le _) (by
      rcases hend with q | q
      · exact .inl (by simp; omega)
      · exact .inr (by simp; omega)) fun h' tk hk => ⟨rfl, I.turnedL (t' := tk) (ch := [z, TI, TO, i1, i2]) (fun c o hb q =>
      hk c o (fun q' => hb (by simp [q'])) (fun q' => hb (by simp [q'])) (fun q' => hb (by simp [q'])) (fun q' => hb (by simp [q'])) q) hf⟩
  self := fun A i s Q E st h => wpAny_pyIter_zip st.1 h
def iZipM (K : PySem.W.Frag) (ta : TA) : TI := fun σ H R => ta σ H fun vs H1 => ∃ t1 t2 a b xs ys, vs = [.ref a, .ref b] ∧ SqK t1 K H1 a xs ∧ SqK t2 K H1 b ys ∧ R (ItzM t1 t2 K a b) H1
theorem pi_zipM {X : Cx} {e e2 : Expr} {ta : TA} {p pos tpos : Pos} {elts : List Expr} {kk : Nat} (hg : Gl X "zip") (hm : X.mg "zip" = none) (ha : PA X [e, e2] ta)
    (hs : starEach [e, e2] X.env = (false, eval e X.env) :: starEach [e2] X.env := by rfl) (hpl : (backTo pos (starEach [e2] X.env)).any (·.1) = false := by rfl) :
    PI X (.Tuple elts kk tpos) (.Call (.Name "zip" p) [e, e2] [] pos) (iZipM X.K ta) := by
  refine ⟨fun pins s σ H R I h => ?_⟩
  refine Call_ (ld_blt I hg hm PyProof.Rows.boot_zip (PyProof.Rows.callWith_type1 (thn (ha.run pos pins s σ H _ I h) fun us s1 ⟨vs, H1, I1, r1, q1⟩ => ?_) hs hpl))
  obtain ⟨t1, t2, a, b, xs, ys, ex, hqx, hqy, q⟩ := q1
  subst ex
  cases r1 with
  | cons r rr =>
    cases rr with
    | cons r' rr =>
      cases rr
      cases r
      cases r'
      have fresh5 : ∀ c, c ∈ [s1.heap.objs.size + 4, s1.heap.objs.size + 2, s1.heap.objs.size + 3, s1.heap.objs.size, s1.heap.objs.size + 1] → FpOk X pins H1 c := fun c hcm => by
        have hle : s1.heap.objs.size ≤ c := by
          simp only [List.mem_cons, List.not_mem_nil, or_false] at hcm
          rcases hcm with z | z | z | z | z <;> rw [z]
          · exact Nat.le_add_right _ _
          · exact Nat.le_add_right _ _
          · exact Nat.le_add_right _ _
          · exact Nat.le_refl _
          · exact Nat.le_add_right _ _
        exact I1.fpOk hle (I1.hok.fresh hle)
      obtain ⟨its, rv, p1, lt1⟩ := SqK.ok I1 hqx
      obtain ⟨its2, rv2, p2, lt2⟩ := SqK.ok I1 hqy
      refine zip_begins2 (beginsK t1 a its.toArray) (beginsK t2 b its2.toArray) p1 p2 fun h' hz hTI hTO g1 g2 hsz hk => wpAny_pyIter_zip hz ?_
      have I2 : Inv X pins σ H1 { s1 with heap := h' } := I1.kept (t' := s1.toks) hk
      have q1 : ItK t1 h' s1.heap.objs.size a 0 := by cases t1 <;> exact ⟨_, g1, rfl, rfl⟩
      have q2 : ItK t2 h' (s1.heap.objs.size + 1) b 0 := by cases t2 <;> exact ⟨_, g2, rfl, rfl⟩
      exact ⟨s1.heap.objs.size + 4, [s1.heap.objs.size + 4, s1.heap.objs.size + 2, s1.heap.objs.size + 3, s1.heap.objs.size, s1.heap.objs.size + 1], _, _, H1, rfl, I2, turn_zipM t1 t2 (PySem.W.ktu_apart s1.heap.objs.size a b lt1 lt2), ⟨hz, hTI, ⟨_, _, hTO⟩, q1, q2⟩, fresh5, q⟩
end Z
end

set_option maxRecDepth 100000
/-! Z, part 6b: sum, max, min, all, sorted. -/
namespace Z
open PySem L2 PyProof.Rows
open Classical
theorem preSum_get : ∀ (ns : List Int) (j : Nat), preSum (fun i => ns.getD i 0) j = (ns.take j).sum := by
  intro ns j
  induction j with
  | zero => simp [preSum]
  | succ j ih =>
    rw [preSum, ih]
    by_cases h : j < ns.length
    · rw [List.take_succ_eq_append_getElem h, List.sum_append]
      simp [List.getD, List.getElem?_eq_getElem h]
    · rw [List.take_of_length_le (by omega), List.take_of_length_le (by omega)]
      simp [List.getD, List.getElem?_eq_none (by omega : ns.length ≤ j)]
theorem ints_val {its : List Value} {ns : List Int} (h : IntsAre its ns) {i : Nat} {v : Value} (e : its.toArray[i]? = some v) : ∃ t, v = .int (ns.getD i 0) t := by
  obtain ⟨n, t, rfl, hn⟩ := h.at i v (by simpa using e)
  exact ⟨t, by simp [List.getD, hn]⟩
/-- an iterator is new: all that was there is there -/
theorem kept_new {h h' : Heap} {o : Obj} (hk : ∀ b ob, b ∉ [h.objs.size] → (h.push o).get? b = some ob → h'.get? b = some ob) : ∀ b ob, h.get? b = some ob → h'.get? b = some ob := fun b ob e => by
  refine hk b ob (fun hm => ?_) (Heap.get?_push_of_some _ e)
  have e1 : b = h.objs.size := by simpa using hm
  exact absurd (e1 ▸ Heap.lt_size e) (Nat.lt_irrefl _)
section
variable {X : Cx} {pins : List (Addr × Obj)} {σ : St} {H : Hp} {s : Shared} {Q : VK}
/-- a list or a tuple of ints, by its own walk -/
theorem seq_walk {x : D} {v : V} {u : Value} {xs : List D} {ns : List Int} (I : Inv X pins σ H s) (r : RelV v u) (hx : seqOf x = some xs) (hn : allOf intOf xs = some ns) {p : Addr → Prop} (t : Top X.K H (sub H p) x v) :
    ∃ a its, u = .ref a ∧ IntsAre its ns ∧ its.length = ns.length ∧ ((s.heap.IsList a its.toArray) ∨ s.heap.IsTuple a its.toArray) := by
  cases x <;> simp only [seqOf] at hx <;> first | (cases hx; done) | skip
  all_goals
    cases hx
  · simp only [Top, Den] at t
    obtain ⟨a, vs, rfl, g, l⟩ := t
    cases r
    obtain ⟨rfl, _⟩ := l.ints hn
    obtain ⟨its, rv, p', _⟩ := I.tuple (.inl (.inl (sub_le _ _ g)))
    exact ⟨a, its, rfl, rv.ints, by rw [rv.ints.length], .inr p'⟩
  · simp only [Top] at t
    obtain ⟨a, vs, rfl, g, l⟩ := t
    cases r
    obtain ⟨rfl, _⟩ := l.ints hn
    obtain ⟨its, rv, p', _⟩ := I.list (.inl (.inl g))
    exact ⟨a, its, rfl, rv.ints, by rw [rv.ints.length], .inl p'.isList⟩
theorem iter_seq {a : Addr} {its : List Value} {A : Around} {E : Value → Shared → Prop} {R : Value → Shared → Prop} (hh : A.handled = none) (h : s.heap.IsList a its.toArray ∨ s.heap.IsTuple a its.toArray)
    (k : ∀ (St : Nat → Heap → Prop) (o : Obj), Walks X.prog X.w A s.heap.objs.size [s.heap.objs.size, a] [s.heap.objs.size] its.toArray.size (fun i v => its.toArray[i]? = some v) St → St 0 (s.heap.push o) →
      (∀ b ∈ [s.heap.objs.size, a], b < (s.heap.push o).objs.size) → R (.ref s.heap.objs.size) { s with heap := s.heap.push o }) : wpAny (model X.prog X.w) A (pyIter (.ref a)) R E s := by
  have lt : a < s.heap.objs.size := by
    rcases h with ⟨_, e, _⟩ | ⟨_, e, _⟩
    · exact Heap.lt_size e
    · exact Heap.lt_size e
  have hb : ∀ (o : Obj), ∀ b ∈ [s.heap.objs.size, a], b < (s.heap.push o).objs.size := fun o b hb => by
    rw [Heap.size_push]
    have : b = s.heap.objs.size ∨ b = a := by simpa using hb
    rcases this with rfl | rfl
    · exact Nat.lt_succ_self _
    · exact Nat.lt_succ_of_lt lt
  rcases h with h | h
  · exact wpAny_pyIter_list h (k _ _ (Walks.list hh _ a (Nat.ne_of_lt lt) _) ⟨⟨_, Heap.get?_push_size _ rfl, rfl, rfl⟩, h.push _⟩ (hb _))
  · refine wpAny_pyIter_tuple h (k _ _ (Walks.tuple hh _ a (Nat.ne_of_lt lt) _) ⟨⟨_, Heap.get?_push_size _ rfl, rfl, rfl⟩, ?_⟩ (hb _))
    obtain ⟨o, e, r⟩ := h
    exact ⟨o, Heap.get?_push_of_some _ e, r⟩
theorem sumD_ok {ds : List D} {d : D} (h : sumD ds = .ok d) : ∃ ns, allOf intOf ds = some ns ∧ d = .int ns.sum := by
  unfold sumD at h
  split at h
  · rename_i ns e; cases h; exact ⟨ns, e, rfl⟩
  · cases h
theorem maxD_ok {ds : List D} {d : D} (h : maxD ds = .ok d) : ∃ n r, allOf intOf ds = some (n :: r) ∧ d = .int (maxL n r) := by
  unfold maxD at h
  split at h
  · rename_i n r e; cases h; exact ⟨n, r, e, rfl⟩
  · cases h
theorem maxL_mem : ∀ (n : Int) (r : List Int), maxL n r ∈ n :: r
  | n, [] => by simp [maxL]
  | n, x :: r => by
    unfold maxL
    have := maxL_mem (if x > n then x else n) r
    rcases List.mem_cons.mp this with e | e
    · rw [e]; split <;> simp
    · exact List.mem_cons_of_mem _ (List.mem_cons_of_mem _ e)
theorem maxL_ge : ∀ (n : Int) (r : List Int), n ≤ maxL n r ∧ ∀ y ∈ r, y ≤ maxL n r
  | n, [] => by simp [maxL]
  | n, x :: r => by
    unfold maxL
    obtain ⟨h1, h2⟩ := maxL_ge (if x > n then x else n) r
    refine ⟨?_, fun y hy => ?_⟩
    · split at h1 <;> split <;> omega
    · rcases List.mem_cons.mp hy with rfl | hy
      · split at h1 <;> split <;> omega
      · exact h2 y hy
theorem minL_mem : ∀ (n : Int) (r : List Int), minL n r ∈ n :: r
  | n, [] => by simp [minL]
  | n, x :: r => by
    unfold minL
    have := minL_mem (if x < n then x else n) r
    rcases List.mem_cons.mp this with e | e
    · rw [e]; split <;> simp
    · exact List.mem_cons_of_mem _ (List.mem_cons_of_mem _ e)
theorem minL_le : ∀ (n : Int) (r : List Int), minL n r ≤ n ∧ ∀ y ∈ r, minL n r ≤ y
  | n, [] => by simp [minL]
  | n, x :: r => by
    unfold minL
    obtain ⟨h1, h2⟩ := minL_le (if x < n then x else n) r
    refine ⟨?_, fun y hy => ?_⟩
    · split at h1 <;> split <;> omega
    · rcases List.mem_cons.mp hy with rfl | hy
      · split at h1 <;> split <;> omega
      · exact h2 y hy
theorem max_is {n M : Int} {r : List Int} (h1 : M ∈ n :: r) (h2 : ∀ y ∈ n :: r, y ≤ M) : M = maxL n r := by
  have a := h2 _ (maxL_mem n r)
  obtain ⟨b, c⟩ := maxL_ge n r
  rcases List.mem_cons.mp h1 with e | e
  · omega
  · have := c _ e; omega
theorem min_is {n M : Int} {r : List Int} (h1 : M ∈ n :: r) (h2 : ∀ y ∈ n :: r, M ≤ y) : M = minL n r := by
  have a := h2 _ (minL_mem n r)
  obtain ⟨b, c⟩ := minL_le n r
  rcases List.mem_cons.mp h1 with e | e
  · omega
  · have := c _ e; omega
theorem arg1 {K : Frg} {H G : Hp} {ds : List D} {vs : List V} {us : List Value} {x : D} (t : TopL K H G ds vs) (r : Vals vs us) (e : ds = [x]) : ∃ v u, vs = [v] ∧ us = [u] ∧ Top K H G x v ∧ RelV v u := by
  subst e
  obtain ⟨v, r', rfl, t1, t2⟩ := t
  simp only [TopL] at t2
  subst t2
  cases r with
  | cons a b =>
    cases b
    exact ⟨v, _, rfl, rfl, t1, a⟩
theorem f_sum (hc : X.calm = true) : CallR X (.builtin "sum") (RF X.K (biD .sum)) := by
  intro pins s σ H vs us Q I r ⟨p, ds, d, kn, t, e, q⟩
  have hq : ∃ x xs, ds = [x] ∧ seqOf x = some xs ∧ sumD xs = .ok d := by
    unfold biD at e
    split at e <;> first | (cases e; done) | skip
    all_goals first | (rename_i z _; cases z; done) | skip
    all_goals first | exact ⟨_, _, rfl, rfl, e⟩ | skip
    all_goals (rename_i z; cases z)
  obtain ⟨x, xs, rfl, hx, he⟩ := hq
  obtain ⟨v, u, rfl, rfl, t1, r1⟩ := arg1 t r rfl
  obtain ⟨ns, hn, rfl⟩ := sumD_ok he
  obtain ⟨a, its, rfl, hi, hl, hw⟩ := seq_walk I r1 hx hn t1
  refine call_sum_walkG (iter_seq (X := X) (I.ok.hd hc) hw fun St o W st hb => ?_)
  refine ⟨_, _, _, _, _, _, fun i => ns.getD i 0, rfl, W, st, hb, fun i v e => ints_val hi e, fun h' tk t' hk => ?_⟩
  refine ⟨.int ns.sum, H, I.kept (kept_new hk), ⟨t', ?_⟩, q _ H (Le.refl H) ⟨by simp [Den], fun _ z => by cases z⟩⟩
  rw [preSum_get, List.size_toArray, hl, List.take_length]
theorem one_seq {f : List D → R D} {b : Bi} {ds : List D} {d : D} (hb : ∀ ds d, biD b ds = .ok d → ∃ x xs, ds = [x] ∧ seqOf x = some xs ∧ f xs = .ok d) (e : biD b ds = .ok d) : ∃ x xs, ds = [x] ∧ seqOf x = some xs ∧ f xs = .ok d := hb ds d e
theorem bi_max {ds : List D} {d : D} (e : biD .max ds = .ok d) : ∃ x xs, ds = [x] ∧ seqOf x = some xs ∧ maxD xs = .ok d := by
  rcases ds with _ | ⟨x, _ | ⟨y, r⟩⟩ <;> simp only [biD] at e <;> first | (cases e; done) | skip
  cases x <;> simp only [biD] at e <;> first | (cases e; done) | exact ⟨_, _, rfl, rfl, e⟩
theorem bi_min {ds : List D} {d : D} (e : biD .min ds = .ok d) : ∃ x xs, ds = [x] ∧ seqOf x = some xs ∧ minD xs = .ok d := by
  rcases ds with _ | ⟨x, _ | ⟨y, r⟩⟩ <;> simp only [biD] at e <;> first | (cases e; done) | skip
  cases x <;> simp only [biD] at e <;> first | (cases e; done) | exact ⟨_, _, rfl, rfl, e⟩
theorem minD_ok {ds : List D} {d : D} (h : minD ds = .ok d) : ∃ n r, allOf intOf ds = some (n :: r) ∧ d = .int (minL n r) := by
  unfold minD at h
  split at h
  · rename_i n r e; cases h; exact ⟨n, r, e, rfl⟩
  · cases h
theorem f_max (hc : X.calm = true) : CallR X (.builtin "max") (RF X.K (biD .max)) := by
  intro pins s σ H vs us Q I r ⟨p, ds, d, kn, t, e, q⟩
  obtain ⟨x, xs, rfl, hx, he⟩ := bi_max e
  obtain ⟨v, u, rfl, rfl, t1, r1⟩ := arg1 t r rfl
  obtain ⟨n, rr, hn, rfl⟩ := maxD_ok he
  obtain ⟨a, its, rfl, hi, hl, hw⟩ := seq_walk I r1 hx hn t1
  refine call_max_walk (iter_seq (X := X) (I.ok.hd hc) hw fun St o W st hb => ?_)
  refine ⟨_, _, _, _, _, _, _, rfl, W, st, hb, by rw [List.size_toArray, hl]; simp, CmpOf.ints_gt (fun i => (n :: rr).getD i 0) (fun i v e => ints_val hi e), fun v h' tk hP hk => ?_⟩
  obtain ⟨t', rfl⟩ := ints_val hi hP
  refine ⟨.int (maxL n rr), H, I.kept (kept_new hk), ⟨t', ?_⟩, q _ H (Le.refl H) ⟨by simp [Den], fun _ z => by cases z⟩⟩
  congr 1
  rw [List.size_toArray, hl]
  obtain ⟨h1, h2⟩ := argBest_gt (fun i => (n :: rr).getD i 0) ((n :: rr).length - 1)
  have hlt := h1
  simp only [List.length_cons, Nat.add_sub_cancel] at h1 h2 hlt ⊢
  refine max_is ?_ fun y hy => ?_
  · exact PySem.getD_mem (by rw [List.length_cons]; omega)
  · obtain ⟨j, hj, rfl⟩ := mem_getD hy
    rw [List.length_cons] at hj
    exact h2 j (by omega)
theorem f_min (hc : X.calm = true) : CallR X (.builtin "min") (RF X.K (biD .min)) := by
  intro pins s σ H vs us Q I r ⟨p, ds, d, kn, t, e, q⟩
  obtain ⟨x, xs, rfl, hx, he⟩ := bi_min e
  obtain ⟨v, u, rfl, rfl, t1, r1⟩ := arg1 t r rfl
  obtain ⟨n, rr, hn, rfl⟩ := minD_ok he
  obtain ⟨a, its, rfl, hi, hl, hw⟩ := seq_walk I r1 hx hn t1
  refine call_min_walk (iter_seq (X := X) (I.ok.hd hc) hw fun St o W st hb => ?_)
  refine ⟨_, _, _, _, _, _, _, rfl, W, st, hb, by rw [List.size_toArray, hl]; simp, CmpOf.ints_lt (fun i => (n :: rr).getD i 0) (fun i v e => ints_val hi e), fun v h' tk hP hk => ?_⟩
  obtain ⟨t', rfl⟩ := ints_val hi hP
  refine ⟨.int (minL n rr), H, I.kept (kept_new hk), ⟨t', ?_⟩, q _ H (Le.refl H) ⟨by simp [Den], fun _ z => by cases z⟩⟩
  congr 1
  rw [List.size_toArray, hl]
  obtain ⟨h1, h2⟩ := argBest_lt (fun i => (n :: rr).getD i 0) ((n :: rr).length - 1)
  simp only [List.length_cons, Nat.add_sub_cancel] at h1 h2 ⊢
  refine min_is ?_ fun y hy => ?_
  · exact PySem.getD_mem (by rw [List.length_cons]; omega)
  · obtain ⟨j, hj, rfl⟩ := mem_getD hy
    rw [List.length_cons] at hj
    exact h2 j (by omega)
theorem DenL.bls {K : Frg} {G : Hp} : ∀ {ds : List D} {vs : List V} {bs : List Bool}, DenL K G ds vs → allOf blOf ds = some bs → vs = bs.map V.bl
  | [], vs, bs, x, h => by simp only [DenL] at x; simp [allOf] at h; subst h; exact x
  | d :: ds, vs, bs, x, h => by
    simp only [DenL] at x
    obtain ⟨v, r, rfl, g, l⟩ := x
    cases d <;> simp [allOf, blOf] at h
    rename_i i
    cases q : allOf blOf ds with
    | none => rw [q] at h; cases h
    | some ms =>
      rw [q] at h
      simp at h
      subst h
      simp only [Den] at g
      rw [g, DenL.bls l q]
      rfl
theorem f_all (hc : X.calm = true) : CallR X (.builtin "all") (RF X.K (biD .all)) := by
  intro pins s σ H vs us Q I r ⟨p, ds, d, kn, t, e, q⟩
  have hq : ∃ xs bs, ds = [.lst xs] ∧ allOf blOf xs = some bs ∧ d = .bl (bs.all id) := by
    rcases ds with _ | ⟨x, _ | ⟨y, r⟩⟩ <;> simp only [biD] at e <;> first | (cases e; done) | skip
    cases x <;> simp only [biD] at e <;> first | (cases e; done) | skip
    split at e
    · cases e; exact ⟨_, _, rfl, by assumption, rfl⟩
    · cases e
  obtain ⟨xs, bs, rfl, hb, rfl⟩ := hq
  obtain ⟨v, r', rfl, t1, t2⟩ := t
  simp only [TopL] at t2
  subst t2
  obtain ⟨a, us', rfl, g, l⟩ := t1
  have := l.bls hb
  subst this
  exact cr_all hc pins s σ H _ us Q I r ⟨a, bs, rfl, .inl (.inl g), q _ H (Le.refl H) ⟨by simp [Den], fun _ z => by cases z⟩⟩
end
end Z

set_option maxRecDepth 100000
/-! Z, part 6c: sorted. -/
namespace Z
open PySem L2 PyProof.Rows
open Classical
def keyOf (c : Nat) (d : D) : List Int := (skey c d).getD []
theorem all_skey {c : Nat} : ∀ {ds : List D} {ks : List (List Int)}, allOf (skey c) ds = some ks → ks = ds.map (keyOf c) ∧ ∀ d ∈ ds, skey c d = some (keyOf c d)
  | [], ks, h => by simp [allOf] at h; subst h; exact ⟨rfl, fun d hd => by cases hd⟩
  | d :: ds, ks, h => by
    unfold allOf at h
    split at h
    · rename_i a r e1 e2
      cases h
      obtain ⟨h1, h2⟩ := all_skey e2
      have ek : keyOf c d = a := by unfold keyOf; rw [e1]; rfl
      refine ⟨by rw [List.map_cons, ek, ← h1], fun x hx => ?_⟩
      rcases List.mem_cons.mp hx with rfl | hx
      · rw [e1, ek]
      · exact h2 x hx
    · cases h
theorem skey0 {x : D} {k : List Int} (h : skey 0 x = some k) : ∃ i, x = .int i ∧ k = [i] := by
  cases x <;> simp [skey] at h
  exact ⟨_, rfl, h.symm⟩
theorem skey1 {x : D} {k : List Int} (h : skey 1 x = some k) : x = .tup (k.map D.int) := by
  cases x <;> simp [skey] at h
  rw [ints_map h]
theorem skey2 {x : D} {k : List Int} (h : skey 2 x = some k) : ∃ i ns, x = .tup [.int i, .tup (ns.map D.int)] ∧ k = i :: ns := by
  cases x with
  | tup ds =>
    rcases ds with _ | ⟨a, _ | ⟨b, _ | ⟨c, r⟩⟩⟩ <;> try (simp [skey] at h; done)
    all_goals try (cases a <;> simp [skey] at h <;> done)
    all_goals
      cases a <;> cases b <;> try (simp [skey] at h; done)
    simp [skey] at h
    obtain ⟨ns, h1, h2⟩ := h
    exact ⟨_, ns, by rw [ints_map h1], h2.symm⟩
  | _ => simp [skey] at h
theorem skeyN {n : Nat} {x : D} : skey (n + 3) x = none := by
  cases x <;> rfl
theorem skey_inj {c : Nat} {x y : D} {k : List Int} (hx : skey c x = some k) (hy : skey c y = some k) : x = y := by
  rcases c with _ | _ | _ | c
  · obtain ⟨i, rfl, rfl⟩ := skey0 hx
    obtain ⟨j, rfl, e⟩ := skey0 hy
    cases e; rfl
  · rw [skey1 hx, skey1 hy]
  · obtain ⟨i, ns, rfl, rfl⟩ := skey2 hx
    obtain ⟨j, ms, rfl, e⟩ := skey2 hy
    cases e; rfl
  · rw [skeyN] at hx; cases hx
theorem tup_lt (ns ms : List Int) : PySem.W.dataLt (.tuple (ns.map .int)) (.tuple (ms.map .int)) = decide (ns < ms) := by
  rw [PySem.W.dataLt_tuple]
  exact PySem.W.dataLt_ints ns ms
theorem eqv_ints : ∀ ns ms : List Int, PyData.eqvAll (ns.map .int) (ms.map .int) = decide (ns = ms)
  | [], [] => by simp [PyData.eqvAll]
  | [], _ :: _ => by simp [PyData.eqvAll]
  | _ :: _, [] => by simp [PyData.eqvAll]
  | n :: ns, m :: ms => by
    simp only [List.map_cons, PyData.eqvAll, PyData.eqv, eqv_ints ns ms]
    by_cases e : n = m <;> simp [e]
/-- a class's data: how they compare -/
theorem le_key {c : Nat} {x y : D} {a b : List Int} (hx : skey c x = some a) (hy : skey c y = some b) : (!PySem.W.dataLt (toP y) (toP x)) = lexLe a b := by
  rcases c with _ | _ | _ | c
  · obtain ⟨i, rfl, rfl⟩ := skey0 hx
    obtain ⟨j, rfl, rfl⟩ := skey0 hy
    simp only [toP, PySem.W.dataLt_int, lexLe]
    by_cases e : i = j
    · simp [e]
    · simp only [e, if_false]
      by_cases l : j < i
      · simp [l]; omega
      · simp [l]; omega
  · rw [skey1 hx, skey1 hy]
    simp only [toP, toPs_ints, tup_lt]
    exact (lexLe_not a b).symm
  · obtain ⟨i, ns, rfl, rfl⟩ := skey2 hx
    obtain ⟨j, ms, rfl, rfl⟩ := skey2 hy
    simp only [toP, toPs, toPs_ints]
    rw [PySem.W.dataLt_pair (by simp [PySem.W.alike]) (by simp [PySem.W.alike, PySem.W.alike_ints]), PySem.W.dataLt_int, tup_lt]
    simp only [PyData.eqv, eqv_ints, lexLe, lexLe_not]
    by_cases e : i = j
    · subst e
      by_cases e2 : ms = ns
      · subst e2
        simp [List.lt_irrefl]
      · simp [e2]
    · have e' : ¬ j = i := fun z => e z.symm
      simp only [e, e', beq_iff_eq, if_false]
      by_cases l : j < i
      · simp [l]; omega
      · simp [l]; omega
  · rw [skeyN] at hx; cases hx
theorem perm_sorted_eq : ∀ {l m : List (List Int)}, l.Perm m → l.Pairwise (fun a b => lexLe a b = true) → m.Pairwise (fun a b => lexLe a b = true) → l = m
  | [], m, h, _, _ => by rw [List.Perm.nil_eq h]
  | a :: l, [], h, _, _ => by exact absurd h.length_eq (by simp)
  | a :: l, b :: m, h, hl, hm => by
    rw [List.pairwise_cons] at hl hm
    have e : a = b := by
      have h1 : a ∈ b :: m := h.mem_iff.mp (List.mem_cons_self ..)
      have h2 : b ∈ a :: l := h.mem_iff.mpr (List.mem_cons_self ..)
      rcases List.mem_cons.mp h1 with e | h1
      · exact e
      · rcases List.mem_cons.mp h2 with e | h2
        · exact e.symm
        · exact lexLe_anti (hl.1 b h2) (hm.1 a h1)
    subst e
    rw [perm_sorted_eq (List.Perm.cons_inv h) hl.2 hm.2]
theorem map_inj_on {α β : Type} {f : α → β} : ∀ {l m : List α}, (∀ x ∈ l, ∀ y ∈ m, f x = f y → x = y) → l.map f = m.map f → l = m
  | [], [], _, _ => rfl
  | [], _ :: _, _, h => by cases h
  | _ :: _, [], _, h => by cases h
  | a :: l, b :: m, k, h => by
    simp only [List.map_cons, List.cons.injEq] at h
    rw [k a (List.mem_cons_self ..) b (List.mem_cons_self ..) h.1, map_inj_on (fun x hx y hy => k x (List.mem_cons_of_mem _ hx) y (List.mem_cons_of_mem _ hy)) h.2]
theorem zip_keys {c : Nat} : ∀ ds : List D, ((ds.map (keyOf c)).zip ds) = ds.map fun d => (keyOf c d, d)
  | [] => rfl
  | d :: ds => by rw [List.map_cons, List.zip_cons_cons, zip_keys ds]; rfl
/-- any sorted perm is the one -/
theorem sort_one {c : Nat} {ds out : List D} {ks : List (List Int)} (h : allOf (skey c) ds = some ks) (hp : out.Perm ds) (hs : out.Pairwise fun a b => lexLe (keyOf c a) (keyOf c b) = true) : (isort kle (ks.zip ds)).map (·.2) = out := by
  obtain ⟨rfl, hk⟩ := all_skey h
  rw [zip_keys]
  have p1 := isort_perm kle (ds.map fun d => (keyOf c d, d))
  have s1 := isort_sorted (le := kle) (fun a b c h1 h2 => lexLe_trans h1 h2) (fun a b => lexLe_total _ _) (ds.map fun d => (keyOf c d, d))
  have fst : ∀ p ∈ isort kle (ds.map fun d => (keyOf c d, d)), p.1 = keyOf c p.2 ∧ p.2 ∈ ds := fun p hp => by
    obtain ⟨d, hd, e⟩ := List.mem_map.mp (p1.mem_iff.mp hp)
    subst e
    exact ⟨rfl, hd⟩
  have perm : ((isort kle (ds.map fun d => (keyOf c d, d))).map (·.2)).Perm ds := by
    have := p1.map (·.2)
    rw [List.map_map] at this
    have e : (fun x : List Int × D => x.2) ∘ (fun d => (keyOf c d, d)) = id := rfl
    rw [e, List.map_id] at this
    exact this
  refine map_inj_on (f := keyOf c) (fun x hx y hy e => ?_) ?_
  · have hx' := hk x (perm.mem_iff.mp hx)
    have hy' := hk y (hp.mem_iff.mp hy)
    rw [e] at hx'
    exact skey_inj hx' hy'
  · refine perm_sorted_eq ((perm.trans hp.symm).map _) ?_ ?_
    · rw [List.map_map, List.pairwise_map]
      refine s1.imp_of_mem fun {p q} hp hq h => ?_
      have h : lexLe p.1 q.1 = true := h
      rw [(fst p hp).1, (fst q hq).1] at h
      exact h
    · rw [List.pairwise_map]; exact hs
theorem sortD_ok {ds es : List D} (h : sortD ds = .ok es) : ∃ c ks, allOf (skey c) ds = some ks ∧ (ks.all fun k => !k.isEmpty) = true ∧ ds.length ≤ szL ∧ es = (isort kle (ks.zip ds)).map (·.2) := by
  cases ds with
  | nil => simp only [sortD] at h; cases h; exact ⟨0, [], rfl, rfl, by unfold szL; simp, rfl⟩
  | cons d r =>
    simp only [sortD] at h
    split at h
    · rename_i ks e
      obtain ⟨h1, h2⟩ := gd_ok h
      cases h2
      exact ⟨_, ks, e, h1.1, h1.2, rfl⟩
    · cases h
/-- the pairs of data and values -/
theorem pairs_of {K : Frg} {G : Hp} : ∀ {ds : List D} {vs : List V}, DenL K G ds vs → ∃ ps : List (D × V), ps.map (·.1) = ds ∧ ps.map (·.2) = vs ∧ ∀ p ∈ ps, Den K G p.1 p.2
  | [], vs, x => by simp only [DenL] at x; subst x; exact ⟨[], rfl, rfl, fun p hp => by cases hp⟩
  | d :: ds, vs, x => by
    simp only [DenL] at x
    obtain ⟨v, r, rfl, g, l⟩ := x
    obtain ⟨ps, h1, h2, h3⟩ := pairs_of l
    refine ⟨(d, v) :: ps, by rw [List.map_cons, h1], by rw [List.map_cons, h2], fun p hp => ?_⟩
    rcases List.mem_cons.mp hp with rfl | hp
    · exact g
    · exact h3 p hp
theorem denL_of {K : Frg} {G : Hp} : ∀ ps : List (D × V), (∀ p ∈ ps, Den K G p.1 p.2) → DenL K G (ps.map (·.1)) (ps.map (·.2))
  | [], _ => by simp [DenL]
  | p :: ps, h => by
    simp only [List.map_cons, DenL]
    exact ⟨_, _, rfl, h p (List.mem_cons_self ..), denL_of ps fun q hq => h q (List.mem_cons_of_mem _ hq)⟩
theorem each_of_vals {vs : List V} {us : List Value} {ps : List (D × V)} (r : Vals vs us) (h : ps.map (·.2) = vs) : PySem.W.EachIs (fun u p => RelV p.2 u) us ps := by
  subst h
  induction ps generalizing us with
  | nil => cases r; exact .nil
  | cons p ps ih =>
    cases r with
    | cons a b => exact .cons a (ih b)
theorem vals_of_each {us : List Value} {ps : List (D × V)} (h : PySem.W.EachIs (fun u p => RelV p.2 u) us ps) : Vals (ps.map (·.2)) us := by
  induction h with
  | nil => exact .nil
  | cons a _ ih => exact .cons a ih
theorem skey_pl {c : Nat} {d : D} {k : List Int} (h : skey c d = some k) : plD 3 d = true ∧ (toP d).depth ≤ 3 := by
  have : plD 3 d = true := by
    rcases c with _ | _ | _ | c
    · obtain ⟨i, rfl, _⟩ := skey0 h; rfl
    · rw [skey1 h]; simp [plD, plL_ints]
    · obtain ⟨i, ns, rfl, _⟩ := skey2 h; simp [plD, plL, plL_ints]
    · rw [skeyN] at h; cases h
  exact ⟨this, (plD_plain 3 d this).2⟩
theorem skey_alike {c : Nat} {x y : D} {a b : List Int} (hx : skey c x = some a) (hy : skey c y = some b) : PySem.W.alike (toP x) (toP y) = true := by
  rcases c with _ | _ | _ | c
  · obtain ⟨i, rfl, _⟩ := skey0 hx
    obtain ⟨j, rfl, _⟩ := skey0 hy
    simp [toP, PySem.W.alike]
  · rw [skey1 hx, skey1 hy]
    simp only [toP, toPs_ints, PySem.W.alike, PySem.W.alike_ints]
  · obtain ⟨i, ns, rfl, _⟩ := skey2 hx
    obtain ⟨j, ms, rfl, _⟩ := skey2 hy
    simp [toP, toPs, toPs_ints, PySem.W.alike, PySem.W.alikeAll, PySem.W.alike_ints]
  · rw [skeyN] at hx; cases hx
/-! the keys of a dict, as they lie -/
theorem vals_get' : ∀ {vs : List V} {us : List Value}, vs.length = us.length → (∀ (i : Nat) (v : V) (u : Value), vs[i]? = some v → us[i]? = some u → RelV v u) → Vals vs us
  | [], [], _, _ => .nil
  | [], _ :: _, h, _ => by simp at h
  | _ :: _, [], h, _ => by simp at h
  | v :: vs, u :: us, h, k => .cons (k 0 v u rfl rfl) (vals_get' (by simpa using h) fun i x y e f => k (i + 1) x y (by simpa using e) (by simpa using f))
theorem denL_get' {K : Frg} {G : Hp} : ∀ {ds : List D} {vs : List V}, vs.length = ds.length → (∀ (i : Nat) (d : D) (v : V), ds[i]? = some d → vs[i]? = some v → Den K G d v) → DenL K G ds vs
  | [], [], _, _ => by simp [DenL]
  | [], _ :: _, h, _ => by simp at h
  | _ :: _, [], h, _ => by simp at h
  | d :: ds, v :: vs, h, k => by
    simp only [DenL]
    exact ⟨v, vs, rfl, k 0 d v rfl rfl, denL_get' (by simpa using h) fun i x y e f => k (i + 1) x y (by simpa using e) (by simpa using f)⟩
section
variable {X : Cx} {pins : List (Addr × Obj)} {σ : St} {H : Hp} {s : Shared}
theorem DenK.nth {K : Frg} {G : Hp} : ∀ {kvs : List (D × D)} {ks : List (Key × V)} {i : Nat} {k d : D}, DenK K G kvs ks → kvs[i]? = some (k, d) → ∃ q v, ks[i]? = some (q, v) ∧ kD k = some q ∧ Den K G d v
  | [], _, _, _, _, _, h => by simp at h
  | (k, d) :: kvs, ks, 0, k', d', x, h => by
    simp only [DenK] at x
    obtain ⟨q, v, r, e, g, g2, l⟩ := x
    simp at h
    obtain ⟨rfl, rfl⟩ := h
    subst e
    exact ⟨q, v, rfl, g, g2⟩
  | (k, d) :: kvs, ks, i + 1, k', d', x, h => by
    simp only [DenK] at x
    obtain ⟨q, v, r, e, g, g2, l⟩ := x
    subst e
    obtain ⟨q, v, h1, h2, h3⟩ := DenK.nth (i := i) l (by simpa using h)
    exact ⟨q, v, by simpa using h1, h2, h3⟩
theorem DenT.nth {K : Frg} {G : Hp} : ∀ {kvs : List (D × D)} {ks : List (List Key × V)} {i : Nat} {k d : D}, DenT K G kvs ks → kvs[i]? = some (k, d) → ∃ q v, ks[i]? = some (q, v) ∧ tkD k = some q ∧ Den K G d v
  | [], _, _, _, _, _, h => by simp at h
  | (k, d) :: kvs, ks, 0, k', d', x, h => by
    simp only [DenT] at x
    obtain ⟨q, v, r, e, g, g2, l⟩ := x
    simp at h
    obtain ⟨rfl, rfl⟩ := h
    subst e
    exact ⟨q, v, rfl, g, g2⟩
  | (k, d) :: kvs, ks, i + 1, k', d', x, h => by
    simp only [DenT] at x
    obtain ⟨q, v, r, e, g, g2, l⟩ := x
    subst e
    obtain ⟨q, v, h1, h2, h3⟩ := DenT.nth (i := i) l (by simpa using h)
    exact ⟨q, v, by simpa using h1, h2, h3⟩
theorem dic_keys {p : Addr → Prop} (I : Inv X pins σ H s) (kn : Kn H p) {t : Bool} {kvs : List (D × D)} {v : V} {u : Value} (r : RelV v u) (x : Top X.K H (sub H p) (.dic t kvs) v) :
    ∃ (a : Addr) (es : Array DictEntry) (ep : Nat) (vs : List V), u = .ref a ∧ (a == sysModules) = false ∧ s.heap.DictRaw a es ep ∧ es.size = kvs.length ∧ kvs.length ≤ sizeLine ∧ DenL X.K (sub H p) (kvs.map (·.1)) vs ∧ Vals vs (es.toList.map (·.key)) := by
  cases t with
  | false =>
    obtain ⟨a, ks, rfl, g, l⟩ := x
    cases r
    obtain ⟨lo, hs, vs, rel, dof⟩ := dk_rd I.hok g
    obtain ⟨es, ep, raw, hsz, hk⟩ := dof.raw
    have l1 := l.length
    have l2 : ks.length = vs.length := Paired.length rel
    refine ⟨a, es, ep, ks.map fun k => kV k.1, rfl, hs, raw, by omega, by omega, denL_get' (by simp [l1]) fun i d v e1 e2 => ?_, vals_get' (by simp; omega) fun i v u e1 e2 => ?_⟩
    · rw [List.getElem?_map] at e1 e2
      cases q : kvs[i]? with
      | none => rw [q] at e1; cases e1
      | some kd =>
        rw [q] at e1
        cases e1
        obtain ⟨k, v', h1, h2, _⟩ := l.nth (k := kd.1) (d := kd.2) q
        rw [h1] at e2
        cases e2
        have : ∀ {k : D} {q : Key}, kD k = some q → Den X.K (sub H p) k (kV q) := fun {k q} h => by
          cases k <;> simp only [kD] at h <;> first | (cases h; done) | skip
          all_goals
            cases h
            simp [Den, kV]
        exact this h2
    · rw [List.getElem?_map] at e1 e2
      cases q : ks[i]? with
      | none => rw [q] at e1; cases e1
      | some kd =>
        rw [q] at e1
        cases e1
        obtain ⟨j, h1⟩ : ∃ z, vs[i]? = some z := ⟨vs[i]'(by rw [← l2]; exact (List.getElem?_eq_some_iff.mp q).1), List.getElem?_eq_getElem _⟩
        obtain ⟨z, h2, h3⟩ := KV.at' rel (k := j.1) (v := j.2) h1
        rw [q] at h2
        have hi : i < es.size := by rw [hsz]; exact (List.getElem?_eq_some_iff.mp h1).1
        have e3 : es.toList[i]? = some es[i] := by rw [Array.getElem?_toList, Array.getElem?_eq_getElem hi]
        rw [e3] at e2
        cases e2
        have := (hk i hi j.1 j.2 h1).1
        have e4 : kd.1 = j.1 := by have := Option.some.inj h2; rw [this]
        show RelV (kV kd.1) es[i].key
        rw [e4]
        exact relV_key (show keyIs j.1 es[i].key = true from this)
  | true =>
    obtain ⟨a, ks, rfl, g, l⟩ := x
    cases r
    obtain ⟨lo, hs, xs, rel, dof⟩ := dt_rd I.hok g
    obtain ⟨es, ep, raw, hsz, hk⟩ := dof.raw
    have l1 := l.length
    have l2 : ks.length = xs.length := Paired.length rel
    refine ⟨a, es, ep, xs.map fun x => .ref x.2.1, rfl, hs, raw, by omega, by omega, denL_get' (by simp; omega) fun i d v e1 e2 => ?_, vals_get' (by simp; omega) fun i v u e1 e2 => ?_⟩
    · rw [List.getElem?_map] at e1 e2
      cases q : kvs[i]? with
      | none => rw [q] at e1; cases e1
      | some kd =>
        rw [q] at e1
        cases e1
        obtain ⟨k, v', h1, h2, _⟩ := l.nth (k := kd.1) (d := kd.2) q
        obtain ⟨b, h3, h4, h5, _⟩ := paired_get rel h1
        rw [h3] at e2
        cases e2
        obtain ⟨ns, e5, e6⟩ := tkD_tup h2
        show Den X.K (sub H p) kd.1 (.ref b.2.1)
        rw [e5]
        simp only [Den]
        refine ⟨b.2.1, ns.map V.int, rfl, ?_, DenL.of_ints ns⟩
        have h5 : H b.2.1 = some (.tup (k.map kV)) := h5
        rw [sub_at (fun z => by obtain ⟨o, e, n⟩ := kn _ z; rw [h5] at e; cases e; exact n _ rfl), h5, e6]
        congr 2
        rw [List.map_map]
        rfl
    · rw [List.getElem?_map] at e1 e2
      cases q : xs[i]? with
      | none => rw [q] at e1; cases e1
      | some kd =>
        rw [q] at e1
        cases e1
        have hi : i < es.size := by rw [hsz]; exact (List.getElem?_eq_some_iff.mp q).1
        obtain ⟨y, h1, h2, _⟩ := hk i hi
        rw [q] at h1
        cases h1
        have e3 : es.toList[i]? = some es[i] := by rw [Array.getElem?_toList, Array.getElem?_eq_getElem hi]
        rw [e3] at e2
        cases e2
        exact h2
theorem items_keys {es : Array DictEntry} {acc : Array Value} (h : ItemsOf (fun i v => ∃ hi : i < es.size, v = es[i].key) acc es.size) : acc.toList = es.toList.map (·.key) := by
  apply List.ext_getElem?
  intro i
  rw [List.getElem?_map, Array.getElem?_toList, Array.getElem?_toList]
  cases q : acc[i]? with
  | none =>
    have : es.size ≤ i := by rw [← h.1]; exact Array.getElem?_eq_none_iff.mp q
    rw [Array.getElem?_eq_none this]
    rfl
  | some v =>
    obtain ⟨hi, rfl⟩ := h.2 i v q
    rw [Array.getElem?_eq_getElem hi]
    rfl
end
section
variable {X : Cx}
theorem f_sorted (hu : X.A.units + 100 < cLine) (hcalm : X.calm = true) : CallR X (.builtin "sorted") (RF X.K (biD .sorted)) := by
  intro pins s σ H vs us Q I r ⟨p, ds, d, kn, t, e, q⟩
  have hq : ∃ x xs es, ds = [x] ∧ (x = .lst xs ∨ x = .tup xs ∨ ∃ t kvs, x = .dic t kvs ∧ xs = kvs.map (·.1)) ∧ sortD xs = .ok es ∧ d = .lst es := by
    rcases ds with _ | ⟨x, _ | ⟨y, r⟩⟩ <;> simp only [biD] at e <;> first | (cases e; done) | skip
    cases x <;> simp only [biD] at e <;> first | (cases e; done) | skip
    all_goals
      obtain ⟨es, h1, h2⟩ := bind_some e
      cases h2
    · exact ⟨_, _, es, rfl, .inr (.inl rfl), h1, rfl⟩
    · exact ⟨_, _, es, rfl, .inl rfl, h1, rfl⟩
    · exact ⟨_, _, es, rfl, .inr (.inr ⟨_, _, rfl, rfl⟩), h1, rfl⟩
  obtain ⟨x, xs, es, rfl, hx, he, rfl⟩ := hq
  obtain ⟨c, ks, hk, hne, hsz, rfl⟩ := sortD_ok he
  obtain ⟨v, u, rfl, rfl, t1, r1⟩ := arg1 t r rfl
  obtain ⟨ek, hsk⟩ := all_skey hk
  -- what holds of the things that are sorted
  have facts : ∀ {vs : List V} {its : List Value}, DenL X.K (sub H p) xs vs → Vals vs its → ∃ ps : List (D × V), ps.map (·.1) = xs ∧ ps.map (·.2) = vs ∧ (∀ p' ∈ ps, Den X.K (sub H p) p'.1 p'.2) ∧ (∀ p ∈ ps, skey c p.1 = some (keyOf c p.1)) ∧
      PySem.W.EachIs (fun v b => ∃ as, Reads s.heap v (toP b.1) as) its ps ∧ PySem.W.EachIs (fun u p => RelV p.2 u) its ps ∧ PySem.W.AllAlike (ps.map fun p => toP p.1) ∧ PySem.W.Sortable (ps.map fun p => toP p.1) := by
    intro vs its l rv
    obtain ⟨ps, e1, e2, e3⟩ := pairs_of l
    have skp : ∀ p ∈ ps, skey c p.1 = some (keyOf c p.1) := fun p hp => hsk p.1 (by rw [← e1]; exact List.mem_map_of_mem hp)
    have er : PySem.W.EachIs (fun v b => ∃ as, Reads s.heap v (toP b.1) as) its ps := by
      have : ∀ {us : List Value} {ps : List (D × V)}, PySem.W.EachIs (fun u p => RelV p.2 u) us ps → (∀ p ∈ ps, Den X.K H p.1 p.2 ∧ plD 3 p.1 = true) → PySem.W.EachIs (fun v b => ∃ as, Reads s.heap v (toP b.1) as) us ps := by
        intro us ps h
        induction h with
        | nil => intro _; exact .nil
        | cons a _ ih =>
          intro k
          obtain ⟨k1, k2⟩ := k _ (List.mem_cons_self ..)
          exact .cons (Den.reads (K := X.K) 3 I k2 k1 a) (ih fun p hp => k p (List.mem_cons_of_mem _ hp))
      exact this (each_of_vals rv e2) fun p hp => ⟨Den.mono sub_le _ _ (e3 p hp), (skey_pl (skp p hp)).1⟩
    have hal : PySem.W.AllAlike (ps.map fun p => toP p.1) := by
      intro d hd d' hd'
      obtain ⟨b, hb, rfl⟩ := List.mem_map.mp hd
      obtain ⟨b', hb', rfl⟩ := List.mem_map.mp hd'
      exact skey_alike (skp b hb) (skp b' hb')
    have hso : PySem.W.Sortable (ps.map fun p => toP p.1) := by
      rcases c with _ | _ | _ | c
      · refine .inr fun d hd => ?_
        obtain ⟨b, hb, rfl⟩ := List.mem_map.mp hd
        obtain ⟨i, e, _⟩ := skey0 (skp b hb)
        rw [e]
        exact ⟨by simp [toP], fun xs z => by simp [toP] at z⟩
      · refine .inl fun d hd => ?_
        obtain ⟨b, hb, rfl⟩ := List.mem_map.mp hd
        have e := skey1 (skp b hb)
        have ne : keyOf 1 b.1 ∈ ks := by rw [ek, ← e1, List.map_map]; exact List.mem_map_of_mem (f := fun p : D × V => keyOf 1 p.1) hb
        rw [List.all_eq_true] at hne
        have := hne _ ne
        cases hq : keyOf 1 b.1 with
        | nil => rw [hq] at this; simp at this
        | cons n r => rw [e, hq]; exact ⟨.int n, r.map .int, by simp [toP, toPs, toPs_ints]⟩
      · refine .inl fun d hd => ?_
        obtain ⟨b, hb, rfl⟩ := List.mem_map.mp hd
        obtain ⟨i, ns, e, _⟩ := skey2 (skp b hb)
        rw [e]
        exact ⟨.int i, [.tuple (ns.map .int)], by simp [toP, toPs, toPs_ints]⟩
      · refine .inl fun d hd => ?_
        obtain ⟨b, hb, rfl⟩ := List.mem_map.mp hd
        have := skp b hb
        rw [skeyN] at this; cases this
    exact ⟨ps, e1, e2, e3, skp, er, each_of_vals rv e2, hal, hso⟩
  -- what comes out
  have fin : ∀ {ps : List (D × V)} {out : List Value}, ps.map (·.1) = xs → (∀ p' ∈ ps, Den X.K (sub H p) p'.1 p'.2) → (∀ p ∈ ps, skey c p.1 = some (keyOf c p.1)) → PySem.W.EachIs (fun u p => RelV p.2 u) out (ps.mergeSort (PySem.W.dataLe false fun p => toP p.1)) →
      ∃ vs' : List V, Vals vs' out ∧ DenL X.K (sub H p) ((isort kle (ks.zip xs)).map (·.2)) vs' ∧ vs'.length ≤ sizeLine := by
    intro ps out e1 e3 skp eo
    have hlen : ps.length = xs.length := by rw [← e1, List.length_map]
    have perm := List.mergeSort_perm ps (PySem.W.dataLe false fun p : D × V => toP p.1)
    have den : ∀ p' ∈ ps.mergeSort (PySem.W.dataLe false fun p : D × V => toP p.1), Den X.K (sub H p) p'.1 p'.2 := fun p' hp => e3 p' (perm.mem_iff.mp hp)
    have dl := denL_of _ den
    have leq : ∀ x ∈ ps, ∀ y ∈ ps, PySem.W.dataLe false (fun p : D × V => toP p.1) x y = lexLe (keyOf c x.1) (keyOf c y.1) := fun x hx y hy => le_key (skp x hx) (skp y hy)
    have srt : ((ps.mergeSort (PySem.W.dataLe false fun p : D × V => toP p.1)).map (·.1)).Pairwise fun a b => lexLe (keyOf c a) (keyOf c b) = true := by
      rw [List.pairwise_map]
      have T : PySem.W.TotalLe (PySem.W.dataLe false fun p : D × V => toP p.1) := PySem.W.sortLe_total _ _ _
      have := List.pairwise_mergeSort (le := PySem.W.dataLe false fun p : D × V => toP p.1) (fun a b c h1 h2 => T.trans a b c h1 h2) (fun a b => by
        have := T.total a b
        rw [Bool.or_eq_true]
        exact this) ps
      refine this.imp_of_mem fun {x y} hx hy h => ?_
      rw [leq x (perm.mem_iff.mp hx) y (perm.mem_iff.mp hy)] at h
      exact h
    have es : (isort kle (ks.zip xs)).map (·.2) = (ps.mergeSort (PySem.W.dataLe false fun p : D × V => toP p.1)).map (·.1) := sort_one hk (by rw [← e1]; exact perm.map _) srt
    have vv := vals_of_each eo
    have hz : ((ps.mergeSort (PySem.W.dataLe false fun p : D × V => toP p.1)).map (·.2)).length ≤ sizeLine := by rw [List.length_map, perm.length_eq, hlen]; exact szL_le hsz
    refine ⟨_, vv, ?_, hz⟩
    rw [es]
    exact dl
  rcases hx with rfl | rfl | ⟨t, kvs, rfl, rfl⟩
  · obtain ⟨a, vs, rfl, g, l⟩ := t1
    cases r1
    obtain ⟨its, rv, hl, _⟩ := I.list (.inl (.inl g))
    obtain ⟨ps, e1, e2, e3, skp, er, ev, hal, hso⟩ := facts l rv
    have hlen : ps.length = xs.length := by rw [← e1, List.length_map]
    refine PySem.W.sorted_data (bs := ps) (enc := fun p => toP p.1) (R := fun u p => RelV p.2 u) hl.isList ev er hal hso (by rw [hlen]; exact szL_le hsz) (fun b hb => ?_) fun out hout eo => ?_
    · have := (skey_pl (skp b hb)).2
      omega
    · obtain ⟨ep, he'⟩ := PyProof.Rows.sortedAll_at s.heap its out.toArray
      obtain ⟨vs', vv, dl, hz⟩ := fin e1 e3 skp eo
      have fr := I.hok.fresh (Nat.le_succ s.heap.objs.size)
      refine ⟨.ref _, upd H (s.heap.objs.size + 1) (.lst vs'), I.laid (t' := s.toks) (fun _ _ => PyProof.Rows.sortedAll_old) (Nat.le_succ _) ⟨hz, out, ep, vv, he'⟩, rfl, q _ _ (Le.upd fr) ?_⟩
      exact newLst kn fr dl
  · simp only [Top, Den] at t1
    obtain ⟨a, vs, rfl, g, l⟩ := t1
    cases r1
    obtain ⟨its, rv, htup, hlo⟩ := I.tuple (.inl (.inl (sub_le _ _ g)))
    obtain ⟨o, ho, hoc, cnt, hod⟩ := id htup
    obtain ⟨ps, e1, e2, e3, skp, er, ev, hal, hso⟩ := facts l rv
    have hlen : ps.length = xs.length := by rw [← e1, List.length_map]
    have hal' : its.length = xs.length := by have l1 := rv.length; have l2 := l.length; omega
    refine Calls.call_function_entry PyProof.Rows.kind_sorted PyProof.Rows.plain_sorted PyProof.Rows.entry_sorted (PyProof.Rows.args_sorted1 _) ?_
    unfold Builtin.«sorted»
    refine wpAny_bind (m := checkCount "sorted" 1 1 _) (wpAny_pure ?_)
    refine wpAny_bind (wpAny_collect_seq a (.inr rfl) ho hoc hod (fun h' hk' => ?_) (by rw [List.size_toArray, hal']; exact szL_le hsz))
    have I1 : Inv X pins σ H { s with heap := h', toks := s.toks } := I.kept hk'
    refine wpAny_bind (wpAny_newList ?_ (by show its.length ≤ _; rw [hal']; exact szL_le hsz))
    have hoL : (h'.push (seqObj "list" its.toArray 0)).get? h'.objs.size = some (seqObj "list" its.toArray 0) := Heap.get?_push_size _ rfl
    show wpAny _ _ _ _ _ { s with heap := h'.push (seqObj "list" its.toArray 0), toks := s.toks }
    have hk2 : ∀ b o, s.heap.get? b = some o → (h'.push (seqObj "list" its.toArray 0)).get? b = some o := fun b o e => Heap.get?_push_of_some _ (hk' b o e)
    have er2 : PySem.W.EachIs (fun v b => ∃ as, Reads (h'.push (seqObj "list" its.toArray 0)) v (toP b.1) as ∧ h'.objs.size ∉ as) its ps := er.mono fun v b ⟨as, rd⟩ => by
      refine ⟨as, PyProof.Rows.Reads.keeps hk2 rd, fun z => ?_⟩
      obtain ⟨o, eo⟩ := PyProof.On.reads_mem_get rd _ z
      exact absurd (Heap.lt_size (hk' _ _ eo)) (Nat.lt_irrefl _)
    refine wpAny_bind (wpAny_holding (PySem.W.list_sort_data (s := { s with heap := h'.push (seqObj "list" its.toArray 0), toks := s.toks }) (bs := ps) (enc := fun p => toP p.1) (R := fun u p => RelV p.2 u) hoL ev er2 hal hso (by rw [hlen]; exact szL_le hsz) (fun b hb => ?_) fun out hout eo => ?_))
    · have := (skey_pl (skp b hb)).2
      show X.A.in1.units + 1 + _ < _
      have hu1 : X.A.in1.units ≤ X.A.units + 1 := by first | exact Nat.le_refl _ | (show X.A.units + 1 ≤ _; omega)
      omega
    · obtain ⟨e', he'⟩ := PyProof.Rows.sortedHeap_at (vs := its) (out := out.toArray) hoL
      obtain ⟨vs', vv, dl, hz⟩ := fin e1 e3 skp eo
      have fr := I1.hok.fresh (Nat.le_refl h'.objs.size)
      refine wpAny_pure ⟨_, rfl, .ref h'.objs.size, upd H h'.objs.size (.lst vs'), I1.laid (t' := s.toks) (fun b u e => ?_) (Nat.le_refl _) ⟨hz, out, e', vv, he'⟩, rfl, q _ _ (Le.upd fr) (newLst kn fr dl)⟩
      have hb : b < h'.objs.size := Heap.lt_size e
      rw [PyProof.Rows.sortedHeap_old (Nat.ne_of_lt hb) (by rw [size_push']; exact Nat.lt_succ_of_lt hb)]
      exact Heap.get?_push_of_some _ e
  · obtain ⟨a, es, ep, vs, rfl, hs, raw, hsz2, hlo, l, rv⟩ := dic_keys I kn r1 t1
    obtain ⟨ps, e1, e2, e3, skp, er, ev, hal, hso⟩ := facts l rv
    have hlen : ps.length = (kvs.map (·.1)).length := by rw [← e1, List.length_map]
    refine Calls.call_function_entry PyProof.Rows.kind_sorted PyProof.Rows.plain_sorted PyProof.Rows.entry_sorted (PyProof.Rows.args_sorted1 _) ?_
    unfold Builtin.«sorted»
    refine wpAny_bind (m := checkCount "sorted" 1 1 _) (wpAny_pure ?_)
    refine wpAny_bind (PySem.W.kdu_collect (A := X.A.in1) (PySem.KdlSrc.rawDict (es := es) (ep := ep) hs) (I.ok.hd hcalm) raw (by omega) fun h' tk acc hk' hacc => ?_)
    have hacc := items_keys hacc
    have I1 : Inv X pins σ H { s with heap := h', toks := tk } := I.kept hk'
    rw [hacc]
    have hal' : (es.toList.map (·.key)).length = kvs.length := by simp [hsz2]
    refine wpAny_bind (wpAny_newList ?_ (by rw [hal']; exact hlo))
    have hoL : (h'.push (seqObj "list" (es.toList.map (·.key)).toArray 0)).get? h'.objs.size = some (seqObj "list" (es.toList.map (·.key)).toArray 0) := Heap.get?_push_size _ rfl
    show wpAny _ _ _ _ _ { s with heap := h'.push (seqObj "list" (es.toList.map (·.key)).toArray 0), toks := tk }
    have hk2 : ∀ b o, s.heap.get? b = some o → (h'.push (seqObj "list" (es.toList.map (·.key)).toArray 0)).get? b = some o := fun b o e => Heap.get?_push_of_some _ (hk' b o e)
    have er2 : PySem.W.EachIs (fun v b => ∃ as, Reads (h'.push (seqObj "list" (es.toList.map (·.key)).toArray 0)) v (toP b.1) as ∧ h'.objs.size ∉ as) (es.toList.map (·.key)) ps := er.mono fun v b ⟨as, rd⟩ => by
      refine ⟨as, PyProof.Rows.Reads.keeps hk2 rd, fun z => ?_⟩
      obtain ⟨o, eo⟩ := PyProof.On.reads_mem_get rd _ z
      exact absurd (Heap.lt_size (hk' _ _ eo)) (Nat.lt_irrefl _)
    refine wpAny_bind (wpAny_holding (PySem.W.list_sort_data (s := { s with heap := h'.push (seqObj "list" (es.toList.map (·.key)).toArray 0), toks := tk }) (bs := ps) (enc := fun p => toP p.1) (R := fun u p => RelV p.2 u) hoL ev er2 hal hso (by rw [hlen]; exact szL_le hsz) (fun b hb => ?_) fun out hout eo => ?_))
    · have := (skey_pl (skp b hb)).2
      show X.A.in1.units + 1 + _ < _
      have hu1 : X.A.in1.units ≤ X.A.units + 1 := by first | exact Nat.le_refl _ | (show X.A.units + 1 ≤ _; omega)
      omega
    · obtain ⟨e', he'⟩ := PyProof.Rows.sortedHeap_at (vs := es.toList.map (·.key)) (out := out.toArray) hoL
      obtain ⟨vs', vv, dl, hz⟩ := fin e1 e3 skp eo
      have fr := I1.hok.fresh (Nat.le_refl h'.objs.size)
      refine wpAny_pure ⟨_, rfl, .ref h'.objs.size, upd H h'.objs.size (.lst vs'), I1.laid (t' := tk) (fun b u e => ?_) (Nat.le_refl _) ⟨hz, out, e', vv, he'⟩, rfl, q _ _ (Le.upd fr) (newLst kn fr dl)⟩
      have hb : b < h'.objs.size := Heap.lt_size e
      rw [PyProof.Rows.sortedHeap_old (Nat.ne_of_lt hb) (by rw [size_push']; exact Nat.lt_succ_of_lt hb)]
      exact Heap.get?_push_of_some _ e
end
end Z

section
set_option maxHeartbeats 4000000
set_option maxRecDepth 100000
/-! Z, part 6c: more built-ins by values. -/
namespace Z
open PySem L2 PyProof.Rows
open Classical
theorem reads_list {h : Heap} {a : Addr} {xs : List PyData} {as : List Addr} (r : Reads h (.ref a) (.list xs) as) : ∃ (its : Array Value) (bs : List Addr), h.IsList a its ∧ ReadsAll h its.toList xs bs := by
  cases r with
  | list h1 h2 h3 h4 => exact ⟨_, _, ⟨_, h1, h2, _, h3⟩, h4⟩
section
variable {X : Cx}
/-- a method of a list that is asked of a thing -/
def RM (K : Frg) (g : D → D → R D) : V → List V → Hp → VK → Prop := fun x vs H Q => ∃ (p : Addr → Prop) (a b d : D) (y : V), Kn H p ∧ Top K H (sub H p) a x ∧ vs = [y] ∧ Top K H (sub H p) b y ∧ g a b = .ok d ∧ (∀ v, Den K (sub H p) d v → isC d = false → Q v H)
theorem mt_count (hu : X.A.units + 100 < cLine) : MtR X "list.count" (RM X.K countD) := by
  intro pins s σ H x vs v us Q I rx rv h
  obtain ⟨p, a, b, d, y, kn, ta, rfl, tb, e, q⟩ := h
  obtain ⟨u, rfl, ry⟩ := vals1 rv
  cases a <;> simp only [countD] at e <;> first | (cases e; done) | skip
  rename_i xs
  obtain ⟨hp, e⟩ := gd_ok e
  cases e
  obtain ⟨as, r1⟩ := Den.reads (K := X.K) 20 I hp.1 (tb.den sub_le) ry
  obtain ⟨bs, r2⟩ := Den.reads (K := X.K) 20 (d := .lst xs) I (by simp only [plD]; exact hp.2) (ta.den sub_le) rx
  obtain ⟨l, ws, rfl, _, _⟩ := ta
  cases rx
  have h1 := plD_plain 20 b hp.1
  have h2 := plL_plain 19 xs hp.2
  simp only [toP] at r2
  obtain ⟨its, cs, hl, rs⟩ := reads_list r2
  refine SeqAt.count_list_data hl rs r1 h2.1 h1.1 (by have := Nat.min_le_right (PyData.depthAll (toPs xs)) (toP b).depth; omega) ?_
  rw [dpAll_count hp.1 hp.2]
  exact ⟨.int _, H, I.kept (h' := s.heap) (t' := s.toks + 1) (fun _ _ z => z), ⟨_, rfl⟩, q _ (by simp [Den]) rfl⟩
theorem mt_index (hu : X.A.units + 100 < cLine) : MtR X "list.index" (RM X.K indexD) := by
  intro pins s σ H x vs v us Q I rx rv h
  obtain ⟨p, a, b, d, y, kn, ta, rfl, tb, e, q⟩ := h
  obtain ⟨u, rfl, ry⟩ := vals1 rv
  cases a <;> simp only [indexD] at e <;> first | (cases e; done) | skip
  rename_i xs
  obtain ⟨hp, e⟩ := gd_ok e
  split at e <;> first | (cases e; done) | skip
  rename_i k hk
  cases e
  rw [dpAll_place 0 hp.1 hp.2] at hk
  obtain ⟨j, hj, ej⟩ := Option.map_eq_some_iff.mp hk
  have ej : j = k := by omega
  subst ej
  obtain ⟨as, r1⟩ := Den.reads (K := X.K) 20 I hp.1 (tb.den sub_le) ry
  obtain ⟨bs, r2⟩ := Den.reads (K := X.K) 20 (d := .lst xs) I (by simp only [plD]; exact hp.2) (ta.den sub_le) rx
  obtain ⟨l, ws, rfl, g, dl⟩ := ta
  cases rx
  have h1 := plD_plain 20 b hp.1
  have h2 := plL_plain 19 xs hp.2
  simp only [toP] at r2
  obtain ⟨its, cs, hl, rs⟩ := reads_list r2
  obtain ⟨its2, rv2, p2, hz⟩ := I.list (.inl (.inl g))
  have hsz : its.size ≤ sizeLine := by
    obtain ⟨o, ho, hc, m, hd⟩ := hl
    obtain ⟨o2, ho2, hc2, m2, hd2⟩ := p2.isList
    rw [ho] at ho2; cases ho2
    rw [hd] at hd2
    cases hd2
    rw [List.size_toArray, ← rv2.length]
    exact hz
  obtain ⟨⟨cls, dd, data, sl⟩, ho, hc, m, hd'⟩ := id hl
  simp only at hc hd'
  subst hc hd'
  obtain ⟨hj1, hit, hno⟩ := SeqAt.hit_at rs h2.1 hj
  have small : (j : Int) < 2 ^ 63 - 1 := by rw [sizeLine_eq] at hsz; omega
  refine call_meets F.slot_list_index ⟨_, ho, rfl⟩ F.entry_list_index (F.args_list_index_2 _ _) (SeqAt.list_indexAt l its m dd sl u _ j hj1 small hit (fun m hm hlt => hno m hm hlt)) ⟨ho, SeqAt.items_plain rs r1 h2.1 h1.1 (by
    have := Nat.min_le_right (PyData.depthAll (toPs xs)) (toP b).depth
    show X.A.units + 1 + _ < _
    omega), ?_⟩
  refine ⟨.int _, H, I.kept (h' := s.heap) (t' := s.toks + 1) (fun _ _ z => z), ⟨_, rfl⟩, q _ (by simp [Den]) rfl⟩
/-- l.remove(x), x there -/
theorem mt_remove (hu : X.A.units + 100 < cLine) : MtR X "list.remove" (fun x vs H Q => ∃ (p : Addr → Prop) (l : Addr) (xs : List D) (ws : List V) (b : D) (y : V) (j : Nat), Kn H p ∧ x = .ref l ∧ H l = some (.lst ws) ∧ DenL X.K (sub H p) xs ws ∧ vs = [y] ∧ Top X.K H (sub H p) b y ∧
    (plD 20 b = true ∧ plL 19 xs = true) ∧ SeqAt.dataPlace (toPs xs) (toP b) = some j ∧ Q .non (upd H l (.lst (ws.eraseIdx j)))) := by
  intro pins s σ H x vs v us Q I rx rv h
  obtain ⟨p, l, xs, ws, b, y, j, kn, rfl, g, dl, rfl, tb, hp, hj, q⟩ := h
  obtain ⟨u, rfl, ry⟩ := vals1 rv
  cases rx
  obtain ⟨as, r1⟩ := Den.reads (K := X.K) 20 I hp.1 (tb.den sub_le) ry
  have ta : Den X.K H (.lst xs) (.ref l) := by simp only [Den]; exact ⟨l, ws, rfl, g, DenL.mono sub_le _ _ dl⟩
  obtain ⟨bs, r2⟩ := Den.reads (K := X.K) 20 (d := .lst xs) (u := .ref l) I (by simp only [plD]; exact hp.2) ta rfl
  have h1 := plD_plain 20 b hp.1
  have h2 := plL_plain 19 xs hp.2
  simp only [toP] at r2
  obtain ⟨its, cs, hl, rs⟩ := reads_list r2
  obtain ⟨z, its2, n2, r, hlen, e⟩ := I.lstM g
  obtain ⟨o, ho, hc, m, hd⟩ := id hl
  rw [e] at ho; cases ho
  have hd : (its2.toArray, n2) = (its, m) := by
    have hd : Data.seq its2.toArray n2 = Data.seq its m := hd
    cases hd; rfl
  cases hd
  obtain ⟨hj1, hit, hno⟩ := SeqAt.hit_at rs h2.1 hj
  refine SeqAt.remove_list_data hl rs r1 h2.1 h1.1 (by have := Nat.min_le_right (PyData.depthAll (toPs xs)) (toP b).depth; omega) hj (by rw [List.size_toArray, ← hlen]; exact z) ?_
  refine ⟨.non, _, I.lset (its' := its2.eraseIdx j) g e ?_ ?_ ?_, rfl, q⟩
  · rw [List.eraseIdxIfInBounds_toArray]
  · rw [List.eraseIdx_eq_take_drop_succ, List.eraseIdx_eq_take_drop_succ]
    exact (r.take j).append (r.drop (j + 1))
  · have := List.length_eraseIdx_le ws j
    omega
/-! ### t[::-1] -/
theorem sliceApplied_rev {prog : Program} {w : World} {A : Around} {E : Value → Shared → Prop} {s : Shared} {sl : Addr} {vl vu vs : Value} {n : Nat} {Q : Int × Int × Nat → Shared → Prop} (hs : s.heap.IsSliceOf sl vl vu vs) (pl : IsPart vl none) (pu : IsPart vu none) (ps : IsPart vs (some (-1)))
    (h : Q ((n : Int) - 1, -1, n) s) : wpAny (model prog w) A (Builtin.Slice.sliceApplied (.ref sl) (pure (n : Int))) Q E s := by
  obtain ⟨os, hos, hcs, hds⟩ := id hs
  unfold Builtin.Slice.sliceApplied Builtin.Slice.sliceFields
  refine wpAny_bind (wpAny_bind (wpAny_field hos hds (x := vl) rfl (wpAny_bind (wpAny_field hos hds (x := vu) rfl (wpAny_bind (wpAny_field hos hds (x := vs) rfl (wpAny_pure ?_)))))))
  refine wpAny_bind (HT.slicePart_ ps ?_)
  show wpAny _ _ (if ((-1 : Int) == 0) = true then _ else _) _ _ s
  rw [if_neg (by decide)]
  refine wpAny_bind (HT.slicePart_ pl (wpAny_bind (HT.slicePart_ pu (wpAny_bind (wpAny_pure ?_)))))
  show wpAny _ _ (match Builtin.Slice.sliceAdjust none none (-1) (n : Int) with | (lo, hi) => pure (lo, (-1 : Int), Builtin.Slice.slicePlaces lo hi (-1))) _ _ s
  have e1 : Builtin.Slice.sliceAdjust none none (-1) (n : Int) = ((n : Int) - 1, -1) := by
    unfold Builtin.Slice.sliceAdjust
    simp
  rw [e1]
  show wpAny _ _ (pure ((n : Int) - 1, (-1 : Int), Builtin.Slice.slicePlaces ((n : Int) - 1) (-1) (-1))) _ _ s
  have e2 : Builtin.Slice.slicePlaces ((n : Int) - 1) (-1) (-1) = n := by
    unfold Builtin.Slice.slicePlaces
    simp
    try omega
  rw [e2]
  exact wpAny_pure h
theorem fm_congr {α β : Type} {f g : α → Option β} : ∀ {l : List α}, (∀ x ∈ l, f x = g x) → l.filterMap f = l.filterMap g
  | [], _ => rfl
  | a :: l, h => by
    rw [List.filterMap_cons, List.filterMap_cons, h a (List.mem_cons_self ..), fm_congr fun x hx => h x (List.mem_cons_of_mem _ hx)]
theorem pick_rev (xs : Array Value) : ((List.range xs.size).filterMap fun (m : Nat) => xs[((xs.size : Int) - 1 + (m : Int) * (-1)).toNat]?).toArray = xs.toList.reverse.toArray := by
  congr 1
  have e : ∀ m ∈ List.range xs.size, xs[((xs.size : Int) - 1 + (m : Int) * (-1)).toNat]? = xs.toList.reverse[m]? := fun m hm => by
    have hm := List.mem_range.mp hm
    have e1 : ((xs.size : Int) - 1 + (m : Int) * (-1)).toNat = xs.size - 1 - m := by omega
    rw [e1, List.getElem?_reverse (by simpa using hm), ← Array.getElem?_toList, Array.length_toList]
  have : (List.range xs.size).filterMap (fun (m : Nat) => xs[((xs.size : Int) - 1 + (m : Int) * (-1)).toNat]?) = (List.range xs.size).filterMap (fun m => xs.toList.reverse[m]?) := by
    exact fm_congr e
  rw [this]
  have key : ∀ l : List Value, (List.range l.length).filterMap (fun m => l[m]?) = l := fun l => by
    induction l with
    | nil => rfl
    | cons a l ih =>
      rw [List.length_cons, List.range_succ_eq_map, List.filterMap_cons, List.filterMap_map]
      simp only [List.getElem?_cons_zero]
      congr 1
  have := key xs.toList.reverse
  rw [List.length_reverse, Array.length_toList] at this
  exact this
theorem getItem_tuple_rev {prog : Program} {w : World} {A : Around} {E : Value → Shared → Prop} {s : Shared} {t sl : Addr} {items : Array Value} {vl vu vs : Value} {Q : Value → Shared → Prop} (ht : IsTup s.heap t items) (hs : s.heap.IsSliceOf sl vl vu vs) (pl : IsPart vl none) (pu : IsPart vu none) (ps : IsPart vs (some (-1)))
    (h : Q (.ref s.heap.objs.size) { s with heap := s.heap.push { cls := .type "tuple", data := .seq items.toList.reverse.toArray } })
    (hsz : items.size ≤ sizeLine) : wpAny (model prog w) A (getItem (.ref t) (.ref sl)) Q E s := by
  have htake : sizeOk (.seq items.toList.reverse.toArray) := by
    show items.toList.reverse.toArray.size ≤ sizeLine
    rw [List.size_toArray, List.length_reverse, Array.length_toList]
    exact hsz
  obtain ⟨os, hos, hcs, hds⟩ := id hs
  have hTs : s.TypeIs (.ref sl) "slice" := ⟨os, hos, hcs⟩
  unfold getItem
  try with_reducible refine wpAny_holding ?_
  first | refine wpAny_bind (wpAny_pure ?_) | skip
  refine wpAny_bind (wpAny_sequenceKey ht.typeIs (by decide) ?_)
  refine wpAny_bind (wpAny_callSpecial?_slot (name := Str.ofString "__getitem__") ht.typeIs PyProof.Rows.slot_tuple_getitem
    (wpAny_call_entry PyProof.Rows.slot_tuple_getitem ht.typeIs entry_tuple_getitem ?_ (args_tuple_getitem _ _)))
  show wpAny _ _ (Builtin.Tuple.tupleItemsOf (.ref t) >>= _) _ _ s
  refine wpAny_bind (tupleItemsOf_ ht ?_)
  refine wpAny_bind (wpAny_typeOf hTs ?_)
  rw [if_pos (by decide)]
  refine wpAny_bind (sliceApplied_rev hs pl pu ps ?_)
  have hno : ¬ ((((items.size : Int) - 1) == 0 && (-1 : Int) == 1 && items.size == items.size) = true) := by
    intro q
    simp at q
  show wpAny _ _ (if (((items.size : Int) - 1) == 0 && (-1 : Int) == 1 && items.size == items.size) = true then _ else _) _ _ s
  rw [if_neg hno, pick_rev]
  first
    | exact wpAny_bind (m := Builtin.Tuple.tupleExact _) (wpAny_newObj_type (wpAny_pure ⟨_, rfl, wpAny_pure h⟩) htake)
    | exact wpAny_bind (m := Builtin.Tuple.tupleExact _) (wpAny_newObj_type (wpAny_bind (wpAny_pure (wpAny_pure ⟨_, rfl, wpAny_pure h⟩))) htake)
    | exact wpAny_bind (wpAny_bind (m := Builtin.Tuple.tupleExact _) (wpAny_newObj_type (wpAny_pure (wpAny_pure ⟨_, rfl, wpAny_pure h⟩)) htake))
    | exact wpAny_bind (wpAny_bind (m := Builtin.Tuple.tupleExact _) (wpAny_newObj_type (wpAny_pure ⟨_, rfl, wpAny_pure h⟩) htake))
def tRevA (K : Frg) (te : TE) : TE := fun σ H Q => te σ H fun x H1 => ∃ a xs, x = .ref a ∧ ((SqL K H1 a xs ∧ ∀ p, H1 p = none → Q (.ref p) (upd H1 p (.lst xs.reverse))) ∨ (SqT K H1 a xs ∧ ∀ p, H1 p = none → Q (.ref p) (upd H1 p (.tup xs.reverse))))
theorem pe_revA {e : Expr} {te : TE} {k : Nat} {p1 p2 p3 pos : Pos} (he : PE X e te) : PE X (.Subscript e (.Slice none none (some (.UnaryOp .USub (.Constant (.int 1) k p1) p2)) p3) pos) (tRevA X.K te) := by
  refine ⟨fun pins s σ H Q I h => ?_⟩
  refine Subscript_ (thn (he.run pins s σ H _ I h) fun v s1 ⟨x, H1, I1, r1, q1⟩ => ?_)
  obtain ⟨a, xs, ex, q⟩ := q1
  subst ex
  cases r1
  have hst : PO X (some (.UnaryOp .USub (.Constant (.int 1) k p1) p2)) (tPart (tUn (rU fun i => .int (-i)) (tC (.int 1)))) := po_some (pe_un un_neg pe_int)
  refine wpAny_Slice (thn (po_none.run pins s1 σ H1 (fun o H2 => o = none ∧ H2 = H1) I1 ⟨rfl, rfl⟩) fun vl s2 ⟨l, H2, I2, pl, el, e2⟩ => ?_)
  subst el e2
  refine thn (po_none.run pins s2 σ H2 (fun o H3 => o = none ∧ H3 = H2) I2 ⟨rfl, rfl⟩) fun vu s3 ⟨u, H3, I3, pu, eu, e3⟩ => ?_
  subst eu e3
  refine thn (hst.run pins s3 σ H3 (fun o H4 => o = some (-1) ∧ H4 = H3) I3 ⟨1, rfl, -1, rfl, rfl, rfl⟩) fun vs s4 ⟨o, H4, I4, ps, eo, e4⟩ => ?_
  subst eo e4
  have I5 : Inv X pins σ H4 { s4 with heap := s4.heap.push { cls := .type "slice", data := .fields #[vl, vu, vs] } } := I4.kept (t' := s4.toks) fun b ob q => Heap.get?_push_of_some _ q
  show wpAny (model X.prog X.w) X.A (subscriptTail e (.Slice none none (some (.UnaryOp .USub (.Constant (.int 1) k p1) p2)) p3) (.ref a) (.ref s4.heap.objs.size)) (EP X pins σ Q) X.xe { s4 with heap := s4.heap.push { cls := .type "slice", data := .fields #[vl, vu, vs] } }
  rcases q with ⟨hx, q⟩ | ⟨hx, q⟩
  · obtain ⟨its, r, ht, hz⟩ := I5.list hx
    have hlen := r.length
    refine tail_any (ops := [.ref a, .ref s4.heap.objs.size]) ht.isList.typeIs (PySem.slot_list_getitem.lookup) ?_ (by with_unfolding_all rfl)
    refine wpAny_getItem_list_slice ht.isList (Heap.IsSliceOf.new _ vl vu vs) pl pu ps (by decide) ?_ (by rw [List.size_toArray]; omega)
    rw [PySem.W.krv_pick]
    refine ⟨.ref _, _, I5.laid (t' := s4.toks) (o := .lst xs.reverse) (fun b ob q => Heap.get?_push_of_some _ q) (Nat.le_refl _) ?_, rfl, q _ (I5.hok.fresh (Nat.le_refl _))⟩
    exact ⟨by rw [List.length_reverse]; exact hz, _, 0, r.reverse, Heap.get?_push_size _ rfl⟩
  · obtain ⟨its, r, ht, hz⟩ := I5.tuple hx
    have hlen := r.length
    refine tail_any (ops := [.ref a, .ref s4.heap.objs.size]) ht.typeIs (PyProof.Rows.slot_tuple_getitem.lookup) ?_ (by with_unfolding_all rfl)
    refine getItem_tuple_rev ht (Heap.IsSliceOf.new _ vl vu vs) pl pu ps ?_ (by rw [List.size_toArray]; omega)
    refine ⟨.ref _, _, I5.laid (t' := s4.toks) (o := .tup xs.reverse) (fun b ob q => Heap.get?_push_of_some _ q) (Nat.le_refl _) ?_, rfl, q _ (I5.hok.fresh (Nat.le_refl _))⟩
    exact ⟨by rw [List.length_reverse]; exact hz, _, r.reverse, IsTup.new _ _⟩
/-! ### min of rows, max with a default -/
theorem allOf_skey1 {ds : List D} {ks : List (List Int)} (h : allOf (skey 1) ds = some ks) : ds = ks.map fun k => .tup (k.map D.int) := by
  obtain ⟨e, hs⟩ := all_skey h
  subst e
  rw [List.map_map]
  symm
  have : ∀ d ∈ ds, ((fun k => D.tup (k.map D.int)) ∘ keyOf 1) d = id d := fun d hd => (skey1 (hs d hd)).symm
  rw [List.map_congr_left this, List.map_id]
theorem minK_min : ∀ (m : List Int × D) (l : List (List Int × D)), (∀ p ∈ m :: l, p.2 = .tup (p.1.map D.int)) →
    toP (minK m l).2 = PySem.W.minD (toP m.2) (l.map fun p => toP p.2) ∧ minK m l ∈ m :: l
  | m, [], h => ⟨rfl, List.mem_cons_self ..⟩
  | m, x :: l, h => by
    have hm := h m (List.mem_cons_self ..)
    have hx := h x (List.mem_cons_of_mem _ (List.mem_cons_self ..))
    have lt : PySem.W.dataLt (toP x.2) (toP m.2) = !lexLe m.1 x.1 := by
      have := le_key (c := 1) (x := m.2) (y := x.2) (a := m.1) (b := x.1) (by rw [hm]; simp [skey, ints_all]) (by rw [hx]; simp [skey, ints_all])
      rw [← this, Bool.not_not]
    unfold minK PySem.W.minD
    rw [List.map_cons, List.foldl_cons, lt]
    cases hl : lexLe m.1 x.1 with
    | true =>
      obtain ⟨i1, i2⟩ := minK_min m l fun p hp => h p (by
        rcases List.mem_cons.mp hp with rfl | hp
        · exact List.mem_cons_self ..
        · exact List.mem_cons_of_mem _ (List.mem_cons_of_mem _ hp))
      refine ⟨i1, ?_⟩
      rw [if_pos rfl]
      rcases List.mem_cons.mp i2 with e | e
      · rw [e]; exact List.mem_cons_self ..
      · exact List.mem_cons_of_mem _ (List.mem_cons_of_mem _ e)
    | false =>
      obtain ⟨i1, i2⟩ := minK_min x l fun p hp => h p (List.mem_cons_of_mem _ hp)
      refine ⟨i1, ?_⟩
      rw [if_neg Bool.false_ne_true]
      exact List.mem_cons_of_mem _ i2
theorem toP_rows {a b : List Int} (h : toP (.tup (a.map D.int)) = toP (.tup (b.map D.int))) : a = b := by
  simp only [toP, toPs_ints] at h
  injection h with h
  induction a generalizing b with
  | nil => cases b <;> simp at h; rfl
  | cons x a ih =>
    cases b with
    | nil => simp at h
    | cons y b =>
      simp only [List.map_cons, List.cons.injEq, PyData.int.injEq] at h
      rw [h.1, ih h.2]
theorem plL_rows {n : Nat} : ∀ ks : List (List Int), plL (n + 1) (ks.map fun k => D.tup (k.map D.int)) = true
  | [] => rfl
  | k :: ks => by simp only [List.map_cons, plL, plD, plL_ints, Bool.true_and, plL_rows ks]
theorem alike_rows (ks : List (List Int)) : PySem.W.AlikeAll (toPs (ks.map fun k => D.tup (k.map D.int))) := by
  have e : toPs (ks.map fun k => D.tup (k.map D.int)) = ks.map fun k => PyData.tuple (k.map .int) := by
    rw [toPs_map, List.map_map]
    apply List.map_congr_left
    intro k _
    simp [toP, toPs_ints]
  rw [e]
  refine ⟨fun x hx y hy => ?_, fun x hx => ?_⟩
  · obtain ⟨a, _, rfl⟩ := List.mem_map.mp hx
    obtain ⟨b, _, rfl⟩ := List.mem_map.mp hy
    simp only [PySem.W.alike, PySem.W.alike_ints]
  · obtain ⟨a, _, rfl⟩ := List.mem_map.mp hx
    simp
theorem f_minT (hu : X.A.units + 100 < cLine) (hc : X.calm = true) : CallR X (.builtin "min") (RF X.K (biD .minT)) := by
  intro pins s σ H vs us Q I r ⟨p, ds, d, kn, t, e, q⟩
  have hq : ∃ xs, ds = [.lst xs] ∧ Z.minT xs = .ok d := by
    rcases ds with _ | ⟨x, _ | ⟨y, r⟩⟩ <;> simp only [biD] at e <;> first | (cases e; done) | skip
    cases x <;> simp only [biD] at e <;> first | (cases e; done) | exact ⟨_, rfl, e⟩
  clear e
  obtain ⟨xs, rfl, e⟩ := hq
  obtain ⟨v, u, rfl, rfl, t1, r1⟩ := arg1 t r rfl
  unfold minT at e
  split at e <;> first | (cases e; done) | skip
  rename_i ks hk
  split at e <;> first | (cases e; done) | skip
  rename_i p0 rr hz
  cases e
  have hrows := allOf_skey1 hk
  obtain ⟨l, ws, rfl, g, dl⟩ := t1
  cases r1
  cases ks with
  | nil => simp at hz
  | cons k0 ks =>
    rw [hrows] at hz
    have hz2 : ∀ ks : List (List Int), ks.zip (ks.map fun k => D.tup (k.map D.int)) = ks.map fun k => (k, D.tup (k.map D.int)) := fun ks => by
      induction ks with
      | nil => rfl
      | cons a b ih => simp only [List.map_cons, List.zip_cons_cons, ih]
    rw [hz2] at hz
    rw [List.map_cons] at hz
    injection hz with e1 e2
    subst e1 e2
    have hp : plL 19 xs = true := by rw [hrows]; exact plL_rows _
    obtain ⟨bs, r2⟩ := Den.reads (K := X.K) 20 (d := .lst xs) (u := .ref l) I (by simp only [plD]; exact hp) (Top.den sub_le (d := .lst xs) ⟨l, ws, rfl, g, dl⟩) rfl
    simp only [toP] at r2
    obtain ⟨its, cs, hl, rs⟩ := reads_list r2
    have h2 := plL_plain 2 xs (by rw [hrows]; exact plL_rows _)
    have al := alike_rows (k0 :: ks)
    rw [← hrows] at al
    obtain ⟨its2, rv2, pl2, _⟩ := I.list (.inl (.inl g))
    have eits : its2 = its.toList := by
      obtain ⟨o, ho, _, m, hd⟩ := hl
      obtain ⟨o2, ho2, _, m2, hd2⟩ := pl2.isList
      rw [ho] at ho2; cases ho2
      rw [hd] at hd2
      cases hd2
      rfl
    have ex : toPs xs = toP (.tup (k0.map D.int)) :: toPs (ks.map fun k => D.tup (k.map D.int)) := by rw [hrows]; rfl
    rw [ex] at rs al
    refine PySem.W.min_list_data (I.ok.hd hc) hl rs al (by rw [← ex]; have := h2.2; omega) fun i v h' tk bs hv hrd hk' => ?_
    obtain ⟨m1, m2⟩ := minK_min (k0, .tup (k0.map D.int)) (ks.map fun k => (k, .tup (k.map D.int))) (fun p hp => by
      rcases List.mem_cons.mp hp with rfl | hp
      · rfl
      · obtain ⟨k, _, rfl⟩ := List.mem_map.mp hp; rfl)
    have I1 : Inv X pins σ H { s with heap := h', toks := tk } := I.kept hk'
    -- the item at i
    have hi : i < xs.length := by
      have := (Array.getElem?_eq_some_iff.mp hv).1
      have l1 := dl.length
      have l2 := rv2.length
      rw [eits] at l2
      have l3 : its.toList.length = its.size := Array.length_toList
      omega
    obtain ⟨w, hw, dw⟩ := dl.get (List.getElem?_eq_getElem hi)
    obtain ⟨u', hu', ru⟩ := rv2.get hw
    rw [eits, Array.getElem?_toList, hv] at hu'
    cases hu'
    obtain ⟨ki, eki⟩ : ∃ ki : List Int, xs[i] = .tup (ki.map D.int) := by
      have this : xs[i] ∈ xs := List.getElem_mem hi
      have key : ∀ d ∈ xs, ∃ ki : List Int, d = .tup (ki.map D.int) := fun d hd => by
        rw [hrows] at hd
        obtain ⟨k, _, e⟩ := List.mem_map.mp hd
        exact ⟨k, e.symm⟩
      exact key _ this
    obtain ⟨as', rd'⟩ := Den.reads (K := X.K) 20 (d := xs[i]) I1 (by rw [eki]; simp [plD, plL_ints]) (Den.mono sub_le _ _ dw) ru
    have hcl : ((toP xs[i]).canLay0 = true) := by
      rw [eki]
      simp only [toP, toPs_ints]
      have : ∀ l : List Int, PyData.canLayAll0 (l.map PyData.int) = true := fun l => by
        induction l with
        | nil => simp [PyData.canLayAll0]
        | cons a b ih => simp [PyData.canLayAll0, PyData.canLay0] at ih ⊢; exact ih
      simpa [PyData.canLay0] using this ki
    have same := SeqAt.Reads.unique _ _ _ _ _ hcl rd' hrd
    have em : minK (k0, .tup (k0.map D.int)) (ks.map fun k => (k, .tup (k.map D.int))) ∈ _ := m2
    obtain ⟨km, ekm⟩ : ∃ km : List Int, (minK (k0, D.tup (k0.map D.int)) (ks.map fun k => (k, D.tup (k.map D.int)))).2 = .tup (km.map D.int) := by
      rcases List.mem_cons.mp em with e | e
      · rw [e]; exact ⟨k0, rfl⟩
      · obtain ⟨k, _, e⟩ := List.mem_map.mp e
        rw [← e]; exact ⟨k, rfl⟩
    have e3 : ks.map (toP ∘ fun k => D.tup (k.map D.int)) = toPs (ks.map fun k => D.tup (k.map D.int)) := by rw [toPs_map, List.map_map]
    have ed : xs[i] = (minK (k0, D.tup (k0.map D.int)) (ks.map fun k => (k, D.tup (k.map D.int)))).2 := by
      rw [eki, ekm]
      congr 2
      apply toP_rows
      rw [← ekm, m1, ← eki, same, List.map_map]
      congr 1
      exact e3.symm
    rw [← ed] at q
    refine ⟨w, H, I1, ru, q _ H (Le.refl H) ⟨dw, fun _ z => by rw [eki] at z; cases z⟩⟩
/-! ### max(xs, default=0) -/
theorem maxL_fold : ∀ (n : Int) (r : List Int), r.foldl max n = maxL n r
  | n, [] => rfl
  | n, x :: r => by
    rw [List.foldl_cons, maxL_fold]
    show maxL (max n x) r = maxL (if x > n then x else n) r
    have e : max n x = if x > n then x else n := by rw [Int.max_def]; split <;> split <;> omega
    rw [e]
theorem alike_ints' (ns : List Int) : PySem.W.AlikeAll (ns.map PyData.int) := by
  refine ⟨fun x hx y hy => ?_, fun x hx => ?_⟩
  · obtain ⟨a, _, rfl⟩ := List.mem_map.mp hx
    obtain ⟨b, _, rfl⟩ := List.mem_map.mp hy
    simp [PySem.W.alike]
  · obtain ⟨a, _, rfl⟩ := List.mem_map.mp hx
    simp
def rMaxD (K : Frg) : List V → List V → Hp → VK → Prop := fun vs zs H Q => ∃ (p : Addr → Prop) (a d : D) (x : V), vs = [x] ∧ zs = [.int 0] ∧ Kn H p ∧ Top K H (sub H p) a x ∧ biD .maxd0 [a] = .ok d ∧ ∀ v, Den K (sub H p) d v → isC d = false → Q v H
theorem cr_maxD (hu : X.A.units + 100 < cLine) (hc : X.calm = true) : CallRK X (.builtin "max") [Str.ofString "default"] (rMaxD X.K) := by
  intro pins s σ H vs zs us ws Q I r rz h
  obtain ⟨p, a, d, x, rfl, rfl, kn, t1, e, q⟩ := h
  obtain ⟨u, rfl, r1⟩ := vals1 r
  obtain ⟨z, rfl, rz1⟩ := vals1 rz
  obtain ⟨tk0, rfl⟩ := rz1
  cases a <;> simp only [biD] at e <;> first | (cases e; done) | skip
  rename_i xs
  obtain ⟨l, wl, rfl, g, dl⟩ := t1
  cases r1
  obtain ⟨ns, hn, hd⟩ : ∃ ns, allOf intOf xs = some ns ∧ d = .int (match ns with | [] => 0 | n :: r => maxL n r) := by
    cases xs with
    | nil => cases e; exact ⟨[], rfl, rfl⟩
    | cons y r =>
      obtain ⟨n, r', h1, h2⟩ := maxD_ok e
      exact ⟨n :: r', h1, h2⟩
  have exs := ints_map hn
  have hp : plL 19 xs = true := by rw [exs]; exact plL_ints _
  obtain ⟨bs, r2⟩ := Den.reads (K := X.K) 20 (d := .lst xs) (u := .ref l) I (by simp only [plD]; exact hp) (Top.den sub_le (d := .lst xs) ⟨l, wl, rfl, g, dl⟩) rfl
  simp only [toP] at r2
  obtain ⟨its, cs, hl, rs⟩ := reads_list r2
  have h2 := plL_plain 0 xs (by rw [exs]; exact plL_ints _)
  have ep : toPs xs = ns.map PyData.int := by rw [exs, toPs_ints]
  rw [ep] at rs h2
  have fin : ∀ {h' : Heap} {tk : Nat} (m : Int) (t : Tok), d = .int m → (∀ b o, s.heap.get? b = some o → h'.get? b = some o) → EP X pins σ Q (.int m t) { s with heap := h', toks := tk } := fun {h' tk} m t ed hk => by
    subst ed
    exact ⟨.int m, H, I.kept hk, ⟨t, rfl⟩, q _ (by simp [Den]) rfl⟩
  refine PySem.W.max_list_default (I.ok.hd hc) hl rs (alike_ints' ns) (by have := h2.2; omega) (fun hz h' tk hk => ?_) fun y ys i v h' tk bs' hyy hv hrd hk => ?_
  · cases ns with
    | nil => exact fin 0 tk0 hd hk
    | cons n r => simp at hz
  · cases ns with
    | nil => simp at hyy
    | cons n r =>
      rw [List.map_cons] at hyy
      injection hyy with e1 e2
      subst e1 e2
      rw [PySem.W.maxD_ints, maxL_fold] at hrd
      cases hrd
      exact fin _ _ hd hk
/-! ### max(d.values()), sum(d.values()) -/
variable {o : Expr} {p pos apos mpos : Pos} {td : TE}
/-- what is asked: the values are ints -/
def tMaxVals (td : TE) : TE := fun σ H Q => td σ H fun x H1 => ∃ (a : Addr) (kvs : List (Key × V)) (n : Int) (r : List Int), x = V.ref a ∧ Rd H1 a (.dK kvs) ∧ kvs.map (·.2) = (n :: r).map V.int ∧ Q (.int (maxL n r)) H1
def tSumVals (td : TE) : TE := fun σ H Q => td σ H fun x H1 => ∃ (a : Addr) (kvs : List (Key × V)) (is : List Int), x = V.ref a ∧ Rd H1 a (.dK kvs) ∧ kvs.map (·.2) = is.map V.int ∧ Q (.int is.sum) H1
theorem vals_at {kvs : List (Key × V)} {vs : List (Key × Value)} {is : List Int} (rel : KV kvs vs) (hv : kvs.map (·.2) = is.map V.int) : vs.length = is.length ∧ ∀ (i : Nat) (v : Value), (∃ k, vs[i]? = some (k, v)) → ∃ t, v = Value.int (is.getD i 0) t := by
  refine ⟨?_, fun i v ⟨k, hk⟩ => ?_⟩
  · have e1 := congrArg List.length hv
    rw [List.length_map, List.length_map] at e1
    rw [← e1]
    exact (KV.length rel).symm
  · obtain ⟨x, h1, h2⟩ := KV.at' rel hk
    have e1 : (kvs.map (·.2))[i]? = some x := by rw [List.getElem?_map, h1] <;> rfl
    rw [hv, List.getElem?_map] at e1
    obtain ⟨j, hj, e2⟩ := Option.map_eq_some_iff.mp e1
    subst e2
    obtain ⟨t, e3⟩ := h2
    refine ⟨t, ?_⟩
    rw [e3, List.getD_eq_getElem?_getD, hj] <;> rfl
theorem pe_maxVals (hc : X.calm = true) (hg : Gl X "max") (hm : X.mg "max" = none) (hd : PE X o td) (hbase : attributeBase o "values" X.env (eval o X.env) = eval o X.env) (hline : (apos.endLine == mpos.line) = true)
    (hse : starEach [Expr.Call (.Attribute o "values" apos) [] [] mpos] X.env = [(false, eval (Expr.Call (.Attribute o "values" apos) [] [] mpos) X.env)] := by rfl) :
    PE X (.Call (.Name "max" p) [.Call (.Attribute o "values" apos) [] [] mpos] [] pos) (tMaxVals td) := by
  refine ⟨fun pins s σ H Q I h => ?_⟩
  refine wpAny_Call_Name_kw (ld_blt I hg hm (u := .builtin "max") (by first | rfl | decide +kernel) ?_ (by first | decide +kernel | decide) (by first | decide +kernel | decide))
  rw [hse]
  refine PySem.callWith_builtin1 (wpAny_Call_method0_late hbase hline (thn (hd.run pins s σ H _ I h) fun v s1 ⟨x, H1, I1, r1, a, kvs, n0, r0, ex, ha, hv, q⟩ => ?_))
  subst ex
  obtain rfl : v = Value.ref a := r1
  obtain ⟨_, hsys, vs, rel, dof⟩ := dk_rd I1.hok ha
  obtain ⟨ep, dat⟩ := dof.dictAt
  have dat' := dat
  obtain ⟨ob, es, ho, ex, hdat, hko, hpr, hnd⟩ := dat'
  refine ⟨"dict", "dict.values", F.plainAttrs_dict, F.slot_dict_values, F.type_dict_values, ⟨ob, ho, ex.1⟩, fun b e => ?_, Calls.callWith_builtin rfl (PySem.evalArgs_none ?_)⟩
  · cases e
    exact ⟨ob, ho, ex.2.1⟩
  refine call_meetsIn F.slot_dict_values ⟨ob, ho, ex.1⟩ F.entry_dict_values (F.args_dict_values_1 _) (meets_dict_values (mixKind X.prog X.w) a hsys) ⟨⟨vs, dof⟩, ?_⟩
  have k1 : ∀ b u, s1.heap.get? b = some u → (s1.heap.push { cls := .type "dict_values", data := .fields #[.ref a] }).get? b = some u := fun b u e => Heap.get?_push_of_some _ e
  have dat1 : (s1.heap.push { cls := .type "dict_values", data := .fields #[.ref a] }).DictAt (mixKind X.prog X.w) a vs ep := dat.keep k1
  obtain ⟨hlv, hval⟩ := vals_at rel hv
  have hlen : 0 < vs.length := by rw [hlv]; simp
  refine call_max_walk (wpAny_pyIter_values (v := s1.heap.objs.size) (d := a) ⟨_, Heap.get?_push_size _ rfl, rfl, rfl⟩ dat1 ?_)
  have hlt : a < s1.heap.objs.size := Heap.lt_size ho
  have hsz : (s1.heap.push { cls := .type "dict_values", data := .fields #[.ref a] }).objs.size = s1.heap.objs.size + 1 := Heap.size_push _ _
  refine ⟨_, _, _, _, _, _, _, rfl, Walks.dictValues (knd := mixKind X.prog X.w) (A := X.A.in1) (I.ok.hd hc) (s1.heap.push { cls := .type "dict_values", data := .fields #[.ref a] }).objs.size a (by rw [hsz]; exact Nat.ne_of_lt (Nat.lt_succ_of_lt hlt)) vs ep,
    ⟨⟨_, Heap.get?_push_size _ rfl, rfl, rfl⟩, dat1.keep fun b u e => Heap.get?_push_of_some _ e⟩, fun b hb => ?_, hlen, CmpOf.ints_gt (fun i => (n0 :: r0).getD i 0) hval, fun v h' tk hP hk => ?_⟩
  · show b < ((s1.heap.push _).push _).objs.size
    rw [Heap.size_push, Heap.size_push]
    rw [hsz] at hb
    rcases List.mem_cons.mp hb with e | hb
    · rw [e]
      exact Nat.lt_succ_self _
    · have e : b = a := List.mem_singleton.mp hb
      rw [e]
      exact Nat.lt_succ_of_lt (Nat.lt_succ_of_lt hlt)
  · obtain ⟨t, rfl⟩ := hval _ v hP
    obtain ⟨b1, b2⟩ := argBest_gt (fun i => (n0 :: r0).getD i 0) (vs.length - 1)
    have em : (n0 :: r0).getD (argBest (fun i j => decide ((n0 :: r0).getD i 0 > (n0 :: r0).getD j 0)) (vs.length - 1)) 0 = maxL n0 r0 := by
      refine max_is ?_ fun y hy => ?_
      · exact PySem.getD_mem (by omega)
      · obtain ⟨j, hj, rfl⟩ := mem_getD hy
        exact b2 j (by omega)
    refine ⟨.int _, H1, I1.kept (t' := tk) fun b u e => hk b u (fun hmem => ?_) (Heap.get?_push_of_some _ (k1 b u e)), ⟨t, rfl⟩, ?_⟩
    · have e1 : b = (s1.heap.push { cls := .type "dict_values", data := .fields #[.ref a] }).objs.size := List.mem_singleton.mp hmem
      have e2 := Heap.lt_size e
      rw [hsz] at e1
      rw [e1] at e2
      exact absurd e2 (Nat.not_lt.mpr (Nat.le_succ _))
    · rw [em]; exact q
theorem pe_sumVals (hc : X.calm = true) (hg : Gl X "sum") (hm : X.mg "sum" = none) (hd : PE X o td) (hbase : attributeBase o "values" X.env (eval o X.env) = eval o X.env) (hline : (apos.endLine == mpos.line) = true)
    (hse : starEach [Expr.Call (.Attribute o "values" apos) [] [] mpos] X.env = [(false, eval (Expr.Call (.Attribute o "values" apos) [] [] mpos) X.env)] := by rfl) :
    PE X (.Call (.Name "sum" p) [.Call (.Attribute o "values" apos) [] [] mpos] [] pos) (tSumVals td) := by
  refine ⟨fun pins s σ H Q I h => ?_⟩
  refine wpAny_Call_Name_kw (ld_blt I hg hm (u := .builtin "sum") (by first | rfl | decide +kernel) ?_ (by first | decide +kernel | decide) (by first | decide +kernel | decide))
  rw [hse]
  refine PySem.callWith_builtin1 (wpAny_Call_method0_late hbase hline (thn (hd.run pins s σ H _ I h) fun v s1 ⟨x, H1, I1, r1, a, kvs, is, ex, ha, hv, q⟩ => ?_))
  subst ex
  obtain rfl : v = Value.ref a := r1
  obtain ⟨_, hsys, vs, rel, dof⟩ := dk_rd I1.hok ha
  obtain ⟨ep, dat⟩ := dof.dictAt
  have dat' := dat
  obtain ⟨ob, es, ho, ex, hdat, hko, hpr, hnd⟩ := dat'
  refine ⟨"dict", "dict.values", F.plainAttrs_dict, F.slot_dict_values, F.type_dict_values, ⟨ob, ho, ex.1⟩, fun b e => ?_, Calls.callWith_builtin rfl (PySem.evalArgs_none ?_)⟩
  · cases e
    exact ⟨ob, ho, ex.2.1⟩
  refine call_meetsIn F.slot_dict_values ⟨ob, ho, ex.1⟩ F.entry_dict_values (F.args_dict_values_1 _) (meets_dict_values (mixKind X.prog X.w) a hsys) ⟨⟨vs, dof⟩, ?_⟩
  have k1 : ∀ b u, s1.heap.get? b = some u → (s1.heap.push { cls := .type "dict_values", data := .fields #[.ref a] }).get? b = some u := fun b u e => Heap.get?_push_of_some _ e
  have dat1 : (s1.heap.push { cls := .type "dict_values", data := .fields #[.ref a] }).DictAt (mixKind X.prog X.w) a vs ep := dat.keep k1
  obtain ⟨hlv, hval⟩ := vals_at rel hv
  refine call_sum_walkG (wpAny_pyIter_values (v := s1.heap.objs.size) (d := a) ⟨_, Heap.get?_push_size _ rfl, rfl, rfl⟩ dat1 ?_)
  have hlt : a < s1.heap.objs.size := Heap.lt_size ho
  have hsz : (s1.heap.push { cls := .type "dict_values", data := .fields #[.ref a] }).objs.size = s1.heap.objs.size + 1 := Heap.size_push _ _
  refine ⟨_, _, _, _, _, _, fun i => is.getD i 0, rfl, Walks.dictValues (knd := mixKind X.prog X.w) (A := X.A.in1) (I.ok.hd hc) (s1.heap.push { cls := .type "dict_values", data := .fields #[.ref a] }).objs.size a (by rw [hsz]; exact Nat.ne_of_lt (Nat.lt_succ_of_lt hlt)) vs ep,
    ⟨⟨_, Heap.get?_push_size _ rfl, rfl, rfl⟩, dat1.keep fun b u e => Heap.get?_push_of_some _ e⟩, fun b hb => ?_, fun i v h => hval i v h, fun h' tk t' hk => ?_⟩
  · show b < ((s1.heap.push _).push _).objs.size
    rw [Heap.size_push, Heap.size_push]
    rw [hsz] at hb
    rcases List.mem_cons.mp hb with e | hb
    · rw [e]
      exact Nat.lt_succ_self _
    · have e : b = a := List.mem_singleton.mp hb
      rw [e]
      exact Nat.lt_succ_of_lt (Nat.lt_succ_of_lt hlt)
  · refine ⟨.int is.sum, H1, I1.kept (t' := tk) fun b u e => hk b u (fun hmem => ?_) (Heap.get?_push_of_some _ (k1 b u e)), ⟨t', ?_⟩, q⟩
    · have e1 : b = (s1.heap.push { cls := .type "dict_values", data := .fields #[.ref a] }).objs.size := List.mem_singleton.mp hmem
      have e2 := Heap.lt_size e
      rw [hsz] at e1
      rw [e1] at e2
      exact absurd e2 (Nat.not_lt.mpr (Nat.le_succ _))
    · rw [preSum_get, hlv, List.take_length]
end
end Z
end

section
set_option maxHeartbeats 4000000
set_option maxRecDepth 100000
/-! Z, hot 1: a def that is called within an except suite and handed the exception. -/
namespace Z
open PySem PySem.Spec PyProof.Rows L2 L2H
/-- as FnH, but the promise knows the handled exception's object; its context is not asked -/
structure FnG (P : Program) (w : World) (K : PySem.W.Frag) (mg : Str → Option Value) (base : Heap) (CX : CXT) (k : Nat) (f : Addr) (fd : FuncData) (ps : List Str) (sp : Addr × Obj → Sp) : Prop where
  len : ∀ p vs H Q E, sp p vs H Q E → vs.length = ps.length
  run : ∀ (A : Around) (outer : List Env) (s : Shared) (H : Hp) (args : Args) (us : List Value) (vs : List V) (Q : VK) (E : XK) (p : Addr × Obj), RoomH k A → PinOk outer H s p → Env0 P w K mg base A outer s H → BindsTo s fd args (ps.zip us) → Vals vs us → sp p vs H Q E →
    codeAny (model P w) A (.call (.ref f) args) (CR CX outer P w H s Q E) s
theorem fn_ofG {CX : CXT} {P : Program} {w : World} {K : PySem.W.Frag} {mg : Str → Option Value} {base : Heap} {k : Nat} {f : Addr} {name qual : Str} {params : Arguments} {body : List Stmt} {scope : Scope} {dV kV doc pm cdv ct oc : Value} {an od : Option Addr}
    {osl : Array (Option Value)} {N ps : List Str} {sp : Addr × Obj → Sp} (lk : K.lookup f = some ⟨oc, od, .func (PySem.W.fnOf name qual params body scope dV kV doc pm an cdv ct), osl⟩) (hcd : PySem.W.codeIn K cdv qual = true) (S : FnScope N ps scope)
    (len : ∀ p vs H Q E, sp p vs H Q E → vs.length = ps.length)
    (hbody : ∀ (A : Around) (outer : List Env) (s : Shared) (H : Hp) (vs : List V) (Q : VK) (E : XK) (p : Addr × Obj), RoomH k (A.deeper (envOfC qual scope s.heap.objs.size f cdv)) → sp p vs H Q E →
      ∃ t, PSs (cxH CX P w K mg base N qual scope f cdv A outer s H E p) body t ∧ t { nx := fun _ H' => Q .non H', rt := Q } (L2.start N vs) H) :
    FnG P w K mg base CX (k + 1) f (PySem.W.fnOf name qual params body scope dV kV doc pm an cdv ct) ps sp := by
  refine ⟨len, fun A outer s H args us vs Q E p hr hpin e0 hb r hsp => ?_⟩
  have hl := len _ _ _ _ _ hsp
  have KX : K.In s.heap := e0.mod.kin.keeps fun b o e => (e0.bs b o e).1
  have lim : s.heap.NoLimit := e0.mod.nolimit.keeps fun b o e => (e0.bs b o e).1
  have hkind : ∀ y ∈ ps.zip us, scope.names.lookup y.1 = some .local ∨ (scope.names.lookup y.1 = some .cell ∧ ((cellsFrom (s.heap.objs.size + 1) scope.names []).lookup y.1).isSome = true) := fun ⟨n, v⟩ hy => by
    rcases S.par n (List.of_mem_zip hy).1 with q | q
    · exact .inl q
    · exact .inr ⟨q, PySem.W.cellsFrom_some _ _ _ (.inl q)⟩
  refine codeAny_call_function hr.depth (KX _ _ lk) rfl S.co S.gen rfl (PySem.W.codeRec_of KX hcd) (hb _ _ _ _ ?_)
  refine wpAny_newFunctionEnv_cells S.kind hkind fun env he s1 x => ?_
  subst he
  refine ⟨lim.keeps x.toInCall.keep, codeAny_func ?_⟩
  obtain ⟨t, ht, hq⟩ := hbody A outer s H vs Q E p (hr.deeper _) hsp
  have I : Inv (cxH CX P w K mg base N qual scope f cdv A outer s H E p) [] (L2.start N vs) H s1 := inv_startH S hpin e0 hl r x
  refine wpAny_mono (ht.run [] s1 (L2.start N vs) H _ I hq) (fun fl s' hs => ?_) fun e s' hs => hs
  have fin : ∀ {σ' : St} {H' : Hp} {v : V} {u : Value}, Inv (cxH CX P w K mg base N qual scope f cdv A outer s H E p) [] σ' H' s' → RelV v u → Q v H' → CE outer P w H s Q u s' :=
    fun {σ' H' v u} J rv q => ⟨v, H', J.os, J.bare, J.base, J.hok, rv, q⟩
  cases fl with
  | ret u =>
    obtain ⟨v, σ', H', J, rv, q⟩ := hs
    exact fin J rv q
  | next =>
    obtain ⟨σ', H', J, q⟩ := hs
    exact fin (v := V.non) (u := Value.none) J rfl q
  | brk =>
    obtain ⟨_, _, _, q⟩ := hs
    exact False.elim q
  | cont =>
    obtain ⟨_, _, _, q⟩ := hs
    exact False.elim q
section
variable {X : Cx} {CX : CXT} {k : Nat} {f C : Addr} {fd : FuncData} {ps : List Str} {sp : Addr × Obj → Sp} {x : Str} {q pos : Pos} {e : Expr} {es : List Expr} {t : TA} {p : Addr × Obj}
theorem run_fnG {pins : List (Addr × Obj)} {σ : St} {H : Hp} {s : Shared} {Q : VK} {us : List Value} {vs : List V} (F : FnG X.prog X.w X.K X.mg X.base (L2.CX X.prog X.w) k f fd ps sp) (hr : RoomH k X.A) (hp : p ∈ X.pn) (hb : Binds X.K fd ps [])
    (I : Inv X pins σ H s) (r : Vals vs us) (h : sp p vs H Q (fun _ _ _ => False)) : wpAny (model X.prog X.w) X.A (call (.ref f) us) (EP X pins σ Q) X.xe s := by
  have hl : us.length = ps.length := by rw [← r.length]; exact F.len _ _ _ _ _ h
  have b := hb s us I.kIn (by rw [List.append_nil]; exact hl)
  rw [List.append_nil] at b
  have P1 := I.pin p (List.mem_append_left _ hp)
  have hpin : PinOk X.stack H s p := ⟨P1.1, P1.2.1, fun hm => (List.mem_cons.mp (I.stkSub p.1 hm)).elim P1.2.2.1 P1.2.2.2.1, P1.2.2.2.2⟩
  refine wpAny_call (codeAny_mono (F.run X.A X.stack s H ⟨us, []⟩ us vs Q (fun _ _ _ => False) p hr hpin I.env0 b r h) fun r s' hq => ?_)
  cases r with
  | error e =>
    obtain ⟨_, _, _, _, _, _, _, _, _, _, _, _, z⟩ := hq
    exact z.elim
  | ok fl =>
    cases fl with
    | ret u => exact I.after hq
    | next => exact False.elim hq
    | brk => exact False.elim hq
    | cont => exact False.elim hq
def tCallG (sp : Addr × Obj → Sp) (p : Addr × Obj) (t : TA) : TE := fun σ H Q => t σ H fun vs H1 => sp p vs H1 Q (fun _ _ _ => False)
theorem pe_callG (F : FnG X.prog X.w X.K X.mg X.base (L2.CX X.prog X.w) k f fd ps sp) (hr : RoomH k X.A) (hp : p ∈ X.pn) (hg : Gl X x) (hm : X.mg x = some (.ref f)) (hk : PySem.W.keepIn X.K (.ref f) = true) (hb : Binds X.K fd ps [])
    (ha : PA X (e :: es) t) (hdb : (x == ("__debug__" : Str)) = false := by decide) (he : starEach (e :: es) X.env = (false, eval e X.env) :: starEach es X.env := by rfl) (hpl : (backTo pos (starEach es X.env)).any (·.1) = false := by rfl) :
    PE X (.Call (.Name x q) (e :: es) [] pos) (tCallG sp p t) := by
  refine ⟨fun pins s σ H Q I h => ?_⟩
  refine wpAny_Call_Name_kw (ld_glob I hg hm ?_ hdb)
  refine PySem.W.callWith_K (h₀ := X.base) I.ok.mod.kin hk (thn (ha.run pos pins s σ H _ I h) fun us s1 ⟨vs, H1, I1, r, q⟩ => ⟨I1.kIn, ?_⟩) he hpl
  exact run_fnG F hr hp hb I1 r q
end
/-! ### isinstance of that exception -/
/-- what an exception class of the program says -/
structure ExcT (K : PySem.W.Frag) (S : Addr) (c : String) (C : Addr) : Prop where
  cl : ∃ cd, PySem.W.clsIn K C = some cd ∧ cd.name = Str.ofString c ∧ cd.mro = [.ref C, .ref S, .type "ValueError", .type "Exception", .type "BaseException", .type "object"]
  ty : PySem.W.typeIn K (.ref C) = some (.type "type")
  ga : PySem.W.findIn K (.ref C) "__getattribute__" = some (some (.builtin "BaseException.__getattribute__"))
  gg : PySem.W.findIn K (.ref C) "__getattr__" = some none
  ca : PySem.W.findIn K (.ref C) "__class__" = some (some (.builtin "object.__class__"))
  hd : PySem.W.hasDictIn K C = true
  kp : PySem.W.keepIn K (.ref C) = true
section
variable {K : PySem.W.Frag} {S C C' : Addr} {c c' : String}
theorem ExcT.sub (T : ExcT K S c C) (v : Value) : PySem.W.subIn K (.ref C) v = some ([Value.ref C, .ref S, .type "ValueError", .type "Exception", .type "BaseException", .type "object"].contains v) := by
  obtain ⟨cd, h1, _, h2⟩ := T.cl
  show PySem.W.mroIn K C v = _
  unfold PySem.W.mroIn
  rw [h1, Option.bind_some, h2]
  rfl
theorem ExcT.base (T : ExcT K S c C) : PySem.W.subIn K (.ref C) (.type "BaseException") = some true := by
  rw [T.sub]
  congr 1
theorem ExcT.kit (T : ExcT K S c C) (T' : ExcT K S c' C') (hS : C' ≠ S) : PySem.W.kitOne K (.ref C) (.ref C') = some (decide (C = C')) := by
  unfold PySem.W.kitOne
  by_cases h : C = C'
  · subst h
    rw [if_pos (by simp)]
    simp
  · have e : (Value.ref C == Value.ref C') = false := by simpa using h
    rw [e, if_neg (by decide)]
    obtain ⟨cd, h1, _, _⟩ := T'.cl
    have e2 : ((PySem.W.clsIn K C').isSome && PySem.W.typeIn K (.ref C') == some (.type "type")) = true := by rw [h1, T'.ty]; rfl
    show (if ((PySem.W.clsIn K C').isSome && PySem.W.typeIn K (.ref C') == some (.type "type")) = true then PySem.W.subIn K (.ref C) (.ref C') else none) = _
    rw [if_pos e2, T.sub]
    congr 1
    have e3 : ¬ C' = C := fun z => h z.symm
    simp [h, e3, hS]
theorem ExcT.kitV (T : ExcT K S c C) : PySem.W.kitOne K (.ref C) (.type "ValueError") = some true := by
  unfold PySem.W.kitOne
  have e : (Value.ref C == Value.type "ValueError") = false := by simp
  rw [e, if_neg (by decide)]
  show (if PySem.W.kitMeta "ValueError" = true then PySem.W.subIn K (.ref C) (.type "ValueError") else none) = _
  rw [if_pos (by decide +kernel), T.sub]
  congr 1
end
/-- isinstance(e, c), e the exception that X holds -/
def rIsG (K : PySem.W.Frag) (D a : Addr) (d : Option Addr) : List V → Hp → VK → Prop := fun xs H Q => ∃ (c : V) (cv : Value) (b : Bool), xs = [.ref a, c] ∧ (∀ u, RelV c u → u = cv) ∧ PySem.W.kitOne K (.ref D) cv = some b ∧ (∀ dd, d = some dd → H dd ≠ none) ∧ Q (.bl b) H
theorem call_isG {X : Cx} {a S D : Addr} {c : String} {d : Option Addr} {oe : Obj} (T : ExcT X.K S c D) (hn : PySem.W.specialIn X.K (.builtin "object.__class__") "__get__" = some (some (.builtin "getset_descriptor.__get__"))) (ht : PySem.W.takesIn X.K (.builtin "object.__class__") = some true)
    (hp : (a, oe) ∈ X.pn) (hz : Zc (.ref D) d oe) (hf : ∃ vs, oe.data = .fields vs) : CallR X (.builtin "isinstance") (rIsG X.K D a d) := by
  intro pins s σ H xs us Q I r h
  obtain ⟨c, cv, b, rfl, hcv, e, hd, q⟩ := h
  cases r with
  | cons rx rr =>
    cases rr with
    | cons rt rr =>
      cases rr
      cases rx
      have ec := hcv _ rt
      subst ec
      obtain ⟨hget, _⟩ := I.pin (a, oe) (List.mem_append.mpr (.inl hp))
      obtain ⟨vs, hv⟩ := hf
      have hod : ∃ od, PySem.W.InstAt s.heap a oe D od := by
        obtain ⟨oc, od, oda, osl⟩ := oe
        obtain ⟨h1, h2⟩ := hz
        dsimp only at h1 h2 hv
        subst h1 h2 hv
        cases od with
        | none => exact ⟨none, hget, rfl, rfl, trivial⟩
        | some dd =>
          have hh := hd dd rfl
          cases eo : H dd with
          | none => exact (hh eo).elim
          | some o =>
            obtain ⟨u, hu⟩ := objOk_get (I.hok dd o eo)
            exact ⟨some u, hget, rfl, rfl, hu⟩
      obtain ⟨od, J⟩ := hod
      have hob : PySem.W.findObj X.K D od "__class__" = some (.bind (.builtin "getset_descriptor.__get__") (.builtin "object.__class__")) := PySem.W.findObj_dataE (by obtain ⟨cd, h1, _⟩ := T.cl; rw [h1]; rfl) T.ca hn ht
      exact PySem.W.kia_one (PySem.W.kitx_exc (by obtain ⟨cd, h1, _⟩ := T.cl; rw [h1]; rfl) T.ga T.gg T.base T.ca hn ht (by have := T.sub (.type "object"); exact this.trans (by congr 1))) I.kIn J e (fun z => nomatch z) fun tk => ⟨.bl b, H, I.kept (t' := tk) fun _ _ z => z, rfl, q⟩
/-! ### what is known of the classes and of the def that tells kinds -/
def nE : Str := Str.ofString "e"
/-- the facts of the classes named -/
structure Kcls (K : PySem.W.Frag) (mg : Str → Option Value) (S : Addr) (cs : List String) : Prop where
  ex : ∀ c ∈ cs, ∃ C, mg (Str.ofString c) = some (.ref C) ∧ ExcT K S c C ∧ C ≠ S
  inj : ∀ c ∈ cs, ∀ c' ∈ cs, Str.ofString c = Str.ofString c' → c = c'
  hn : PySem.W.specialIn K (.builtin "object.__class__") "__get__" = some (some (.builtin "getset_descriptor.__get__"))
  ht : PySem.W.takesIn K (.builtin "object.__class__") = some true
  b1 : mg "isinstance" = none
  b2 : mg "ValueError" = none
/-- what it promises -/
def spK (K : Frg) (mg : Str → Option Value) (S : Addr) (ls : List (List String)) : Addr × Obj → Sp := fun p vs H Q _ => ∃ (c : String) (C : Addr) (d : Option Addr) (r : Int), vs = [.ref p.1] ∧ c ∈ ls.flatten ∧ mg (Str.ofString c) = some (.ref C) ∧ ExcT K S c C ∧ Zc (.ref C) d p.2 ∧ (∃ vs, p.2.data = .fields vs) ∧
  (∀ dd, d = some dd → H dd ≠ none) ∧ kindAt (ls.flatten.map fun c' => decide (c' = c)) = some r ∧ ∀ H', Le H H' → Q (.int r) H'
/-- .. as a body's context has it -/
structure KndAt (prog : Program) (w : World) (K : Frg) (mg : Str → Option Value) (base : Heap) (k : Knd) : Prop where
  ex : ∃ (S f : Addr) (fdt : FuncData), mg "StoneError" = some (.ref S) ∧ (PySem.W.subIn K (.ref S) (.type "BaseException") = some true ∧ PySem.W.hasDictIn K S = true ∧ PySem.W.typeIn K (.ref S) = some (.type "type")) ∧ Kcls K mg S k.ls.flatten ∧
    (∀ c ∈ k.ls.flatten, ∀ C, mg (Str.ofString c) = some (.ref C) → ∀ f ∈ fldsOf c, PySem.W.findIn K (.ref C) (Str.ofString f) = some none) ∧
    mg (Str.ofString k.nm) = some (.ref f) ∧ PySem.W.keepIn K (.ref f) = true ∧ Binds K fdt [nE] [] ∧ FnG prog w K mg base (L2.CX prog w) 1 f fdt [nE] (spK K mg S k.ls)
def nSelf : Str := Str.ofString "self"
/-- what an exception's __init__ promises -/
def spI (K : Frg) (c : String) (C : Addr) : Sp := fun vs H Q _ => ∃ (a : Addr) (ws : List V), vs = .ref a :: ws ∧ ws.length = (fldsOf c).length ∧ H a = some (exo a C none) ∧
  ∀ d H', H d = none → d ≠ a → H' a = some (exo a C (some d)) → H' d = some (exd d (((fldsOf c).map Str.ofString).zip ws).reverse) → (∀ b, b ≠ a → b ≠ d → H' b = H b) → Q .non H'
/-- a class whose exceptions are raised -/
structure ExcAt (prog : Program) (w : World) (K : Frg) (mg : Str → Option Value) (base : Heap) (c : String) : Prop where
  ex : ∃ C : Addr, mg (Str.ofString c) = some (.ref C) ∧ PySem.W.subIn K (.ref C) (.type "BaseException") = some true ∧ PySem.W.typeIn K (.ref C) = some (.type "type") ∧ PySem.W.keepIn K (.ref C) = true ∧
    ((fldsOf c = [] ∧ PySem.W.excIn K C He.veBase "ValueError.__new__" = true) ∨
      (fldsOf c ≠ [] ∧ OexC K C ∧ ∃ (fI : Addr) (fdt : FuncData), PySem.W.findIn K (.ref C) "__init__" = some (some (.ref fI)) ∧ PySem.W.typeIn K (.ref fI) = some (.type "function") ∧ Binds K fdt (nSelf :: (fldsOf c).map Str.ofString) [] ∧
        FnOk prog w K mg base (L2.CX prog w) 1 fI fdt (nSelf :: (fldsOf c).map Str.ofString) (spI K c C)))
end Z
end

set_option maxRecDepth 100000
/-! Z, part 7: the check of an expression against the language, and that it is sound. -/
namespace Z
open PySem L2 PyProof.Rows
open Classical

/-! ### the check -/
def nmOk (x : Str) : Bool := !(x == ("__debug__" : Str)) && !(x == ("__classdict__" : Str)) && !(x == ("__name__" : Str))
def visC (sc : Scope) (x : Str) : Bool := match sc.names.lookup x with
  | some .local => true
  | some .cell => true
  | some .free => true
  | _ => false
def locC (sc : Scope) (x : Str) : Bool := match sc.names.lookup x with
  | some .local => true
  | some .cell => true
  | _ => false
def glC (sc : Scope) (x : Str) : Bool := match sc.names.lookup x with
  | some .globalImplicit => true
  | _ => false
def bltNames : List String := ["len", "list", "tuple", "abs", "int", "max", "min", "isinstance", "reversed", "range", "enumerate", "zip", "bool", "str", "sum", "sorted", "all", "dict"]
def tyNm : Ty → String
  | .int => "int" | .bool => "bool" | .str => "str" | .tup => "tuple" | .lst => "list"
/-- an operand of a test -/
def tstOk : E → Bool
  | .var _ => true
  | .bl _ => true
  | .cmp _ _ _ => true
  | .chain _ _ _ _ _ => true
  | .and _ => true
  | .or _ => true
  | .not _ => true
  | .call _ _ _ => true
  | .isi _ _ => true
  | .idx _ _ => true
  | .bi _ _ => true
  | _ => false
/-- f(..), f a name of the module or a built-in -/
def callOf (sc : Scope) (nm : String) : Expr → Option (List Expr)
  | .Call (.Name x _) args [] _ => if x == Str.ofString nm && glC sc x && nmOk x then some args else none
  | _ => none
def biNm : Bi → Option String
  | .len => some "len" | .list => some "list" | .tuple => some "tuple" | .abs => some "abs" | .int => some "int" | .max2 => some "max" | .min2 => some "min"
  | .minT => some "min" | .sum => some "sum" | .max => some "max" | .min => some "min" | .all => some "all" | .sorted => some "sorted"
  | _ => none
def biN : Bi → Nat
  | .max2 => 2 | .min2 => 2
  | _ => 1
/-- an object of a plain form (name or subscript) -/
def plainO : Expr → Bool
  | .Name _ _ => true
  | .Subscript _ _ _ => true
  | .List _ _ => true
  | .Call _ (_ :: _) _ _ => true
  | _ => false
theorem plainO_base {o : Expr} (h : plainO o = true) (nm : Str) (env : Env) (w : Sem Value) : attributeBase o nm env w = w := by
  cases o <;> first | rfl | exact absurd h Bool.false_ne_true | skip
  rename_i f es kw pos
  cases es with
  | nil => exact absurd h Bool.false_ne_true
  | cons e es => cases f <;> rfl
/-- o.m(..), o no call -/
def mthOf (m : String) : Expr → Option (Expr × List Expr)
  | .Call (.Attribute o nm ap) es [] cp => if nm == Str.ofString m && (ap.endLine == cp.line) && plainO o then some (o, es) else none
  | _ => none
theorem mthOf_some {m : String} {e o : Expr} {es : List Expr} (h : mthOf m e = some (o, es)) : ∃ ap cp, e = .Call (.Attribute o (Str.ofString m) ap) es [] cp ∧ (ap.endLine == cp.line) = true ∧ ∀ (nm : Str) (env : Env) (w : Sem Value), attributeBase o nm env w = w := by
  unfold mthOf at h
  split at h
  · rename_i o' nm ap es' cp
    by_cases q : (nm == Str.ofString m && (ap.endLine == cp.line) && plainO o') = true
    · rw [if_pos q] at h
      have q' := q
      rw [Bool.and_eq_true, Bool.and_eq_true] at q'
      obtain ⟨⟨q1, q2⟩, q3⟩ := q'
      cases h
      have q1' := eq_of_beq q1
      subst q1'
      exact ⟨ap, cp, rfl, q2, plainO_base q3⟩
    · rw [if_neg q] at h
      cases h
  · cases h
def plainX : Expr → Bool
  | .Starred _ _ => false
  | .Set _ _ _ => false
  | .Slice _ _ _ _ => false
  | .SetComp _ _ _ _ => false
  | .DictComp _ _ _ _ _ => false
  | .NamedExpr _ _ _ => false
  | _ => true
def nmsC (N : List Str) (lc : Str → Bool) : List Nat → List Expr → Bool
  | [], es => es.isEmpty
  | i :: is, es => match es with
    | .Name x _ :: es => decide (N[i]? = some x) && lc x && nmsC N lc is es
    | _ => false
def chkPat (N : List Str) (lc : Str → Bool) : Pat → Expr → Bool
  | .one i, e => match e with
    | .Name x _ => decide (N[i]? = some x) && lc x
    | _ => false
  | .tup is, e => match e with
    | .Tuple es _ _ => nmsC N lc is es
    | _ => false
def srcN : Src → Nat
  | .rng2 => 2 | .rng3 => 3 | .zip => 2
  | _ => 1
def isTup : Expr → Bool
  | .Tuple _ _ _ => true
  | _ => false
def srcCall (sc : Scope) (s : Src) (tg iter : Expr) : Option (List Expr) := match s with
  | .seq => some [iter]
  | .sgn => some [iter]
  | .rng1 => callOf sc "range" iter
  | .rng2 => callOf sc "range" iter
  | .rng3 => callOf sc "range" iter
  | .enum k => if k = 0 ∧ isTup tg = true then callOf sc "enumerate" iter else none
  | .zip => if isTup tg = true then callOf sc "zip" iter else none
  | .keys => some [iter]
  | .items => if isTup tg = true then (match mthOf "items" iter with
    | some (o, []) => some [o]
    | _ => none) else none
def ownN (N : List Str) (p : Pat) : List (Str × Nat) := (patL p).map fun i => ((N[i]?).getD Str.empty, i)
/-- f(o.values()) -/
def valsCall (sc : Scope) (nm : String) : Expr → Option (List Expr)
  | .Call (.Name x _) [.Call (.Attribute o m ap) [] [] cp] [] _ => if x == Str.ofString nm && glC sc x && nmOk x && (m == Str.ofString "values") && (ap.endLine == cp.line) && plainO o then some [o] else none
  | _ => none
/-- max(x, default=0) -/
def dfltCall (sc : Scope) : Expr → Option (List Expr)
  | .Call (.Name x _) [o] [⟨some k, .Constant (.int 0) _ _, _⟩] _ => if x == Str.ofString "max" && glC sc x && nmOk x && (k == Str.ofString "default") && plainX o then some [o] else none
  | _ => none
/-- list(range(x)) -/
def rngCall (sc : Scope) : Expr → Option (List Expr)
  | .Call (.Name x _) [.Call (.Name y _) [o] [] _] [] _ => if x == Str.ofString "list" && glC sc x && nmOk x && (y == Str.ofString "range") && glC sc y && nmOk y && plainX o then some [o] else none
  | _ => none
def biCall (sc : Scope) (b : Bi) (e : Expr) : Option (List Expr) := match biNm b with
  | some nm => callOf sc nm e
  | none => match b with
    | .maxvals => valsCall sc "max" e
    | .sumvals => valsCall sc "sum" e
    | .maxd0 => dfltCall sc e
    | .listrng => rngCall sc e
    | _ => none
/-- a dict that is walked stands in a name, or is new -/
def dsOk : Src → List E → Bool
  | .keys, [.var _] => true
  | .keys, [.call _ fr _] => fr
  | .items, [.var _] => true
  | .items, [.call _ fr _] => fr
  | .keys, _ => false
  | .items, _ => false
  | _, _ => true
mutual
def chkE (P : Prg) (N : List Str) (sc : Scope) : E → Expr → Bool
  | .var i, e => match e with
    | .Name x _ => decide (N[i]? = some x) && visC sc x && nmOk x
    | _ => false
  | .non, e => match e with
    | .Constant .none _ _ => true
    | _ => false
  | .bl b, e => match e with
    | .Constant (.bool c) _ _ => b == c
    | _ => false
  | .int i, e => match e with
    | .Constant (.int c) _ _ => i == c
    | _ => false
  | .str x, e => match e with
    | .Constant (.str c) _ _ => Str.ofString x == c
    | _ => false
  | .glb x i, e => match e with
    | .Name y _ => (y == Str.ofString x) && glC sc y && nmOk y && decide ((x, i) ∈ P.consts)
    | _ => false
  | .tup es, e => match e with
    | .Tuple xs _ _ => decide (es.length ≤ 1000) && chkL P N sc es xs
    | _ => false
  | .lst es, e => match e with
    | .List xs _ => decide (es.length ≤ 1000) && chkL P N sc es xs
    | _ => false
  | .dct0 _, e => match e with
    | .Dict [] [] _ => true
    | _ => false
  | .dsp t k v, e => match e with
    | .Dict [some x] [y] _ => chkE P N sc k x && chkE P N sc v y
    | _ => false
  | .bin o a b, e => match e with
    | .BinOp x p y _ => decide (p = bop o) && chkE P N sc a x && chkE P N sc b y
    | _ => false
  | .neg a, e => match e with
    | .UnaryOp .USub x _ => chkE P N sc a x
    | _ => false
  | .cmp o a b, e => match e with
    | .Compare x [p] [y] _ => decide (p = cop o) && chkE P N sc a x && chkE P N sc b y
    | _ => false
  | .chain o q a b c, e => match e with
    | .Compare x [p1, p2] [y, z] _ => decide (p1 = cop o) && decide (p2 = cop q) && chkE P N sc a x && chkE P N sc b y && chkE P N sc c z
    | _ => false
  | .and es, e => match e with
    | .BoolOp .And xs _ => es.all tstOk && chkL P N sc es xs
    | _ => false
  | .or es, e => match e with
    | .BoolOp .Or xs _ => es.all tstOk && chkL P N sc es xs
    | _ => false
  | .not a, e => match e with
    | .UnaryOp .Not x _ => tstOk a && chkE P N sc a x
    | _ => false
  | .ife c a b, e => match e with
    | .IfExp x y z _ => tstOk c && chkE P N sc c x && chkE P N sc a y && chkE P N sc b z
    | _ => false
  | .idx a i, e => match e with
    | .Subscript x y _ => chkE P N sc a x && chkE P N sc i y
    | _ => false
  | .slc a lo hi, e => match e with
    | .Subscript x (.Slice l h none _) _ => chkE P N sc a x && chkO P N sc lo l && chkO P N sc hi h
    | _ => false
  | .rev a, e => match e with
    | .Subscript x (.Slice none none (some (.UnaryOp .USub (.Constant (.int 1) _ _) _)) _) _ => chkE P N sc a x
    | _ => false
  | .call k fr es, e => match P.fn k with
    | none => false
    | some fd => match callOf sc fd.nm e with
      | some (x :: xs) => (fr == fd.fr) && chkL P N sc es (x :: xs)
      | _ => false
  | .bi b es, e => match biCall sc b e with
    | some xs => decide (es.length = biN b) && chkL P N sc es xs
    | none => false
  | .isi a t, e => match callOf sc "isinstance" e with
    | some [x, .Name y _] => chkE P N sc a x && (y == Str.ofString (tyNm t)) && glC sc y && nmOk y
    | _ => false
  | .get1 d k, e => match mthOf "get" e with
    | some (o, [x]) => chkE P N sc d o && chkE P N sc k x
    | _ => false
  | .get2 d k z, e => match mthOf "get" e with
    | some (o, [x, y]) => chkE P N sc d o && chkE P N sc k x && chkE P N sc z y
    | _ => false
  | .count d k, e => match mthOf "count" e with
    | some (o, [x]) => chkE P N sc d o && chkE P N sc k x
    | _ => false
  | .index d k, e => match mthOf "index" e with
    | some (o, [x]) => chkE P N sc d o && chkE P N sc k x
    | _ => false
  | .comp elt p s es c, e => match e with
    | .ListComp elt' [⟨tg, iter, ifs, 0⟩] scope _ => match srcCall sc s tg iter with
      | some xs => plainX iter && chkPat N (locC scope) p tg && chkL P N sc es xs && decide (es.length = srcN s) && dsOk s es && blkC N sc scope (ownN N p) && chkE P N (relS scope sc) elt elt' && chkC P N (relS scope sc) c ifs
      | none => false
    | _ => false
def chkC (P : Prg) (N : List Str) (sc : Scope) : Option E → List Expr → Bool
  | none, x => x.isEmpty
  | some e, x => match x with
    | [x] => tstOk e && chkE P N sc e x
    | _ => false
def chkL (P : Prg) (N : List Str) (sc : Scope) : List E → List Expr → Bool
  | [], xs => xs.isEmpty
  | e :: es, xs => match xs with
    | x :: xs => chkE P N sc e x && chkL P N sc es xs
    | [] => false
def chkO (P : Prg) (N : List Str) (sc : Scope) : Option E → Option Expr → Bool
  | none, x => x.isNone
  | some e, x => match x with
    | some x => chkE P N sc e x
    | none => false
end

/-! ### what a checked expression is not -/
theorem biCall_some {sc : Scope} {b : Bi} {e : Expr} {xs : List Expr} (h : biCall sc b e = some xs) : ∃ f ys kw pos, e = .Call f ys kw pos := by
  unfold biCall at h
  split at h
  · unfold callOf at h
    split at h
    · exact ⟨_, _, _, _, rfl⟩
    · cases h
  · split at h
    · unfold valsCall at h
      split at h
      · exact ⟨_, _, _, _, rfl⟩
      · cases h
    · unfold valsCall at h
      split at h
      · exact ⟨_, _, _, _, rfl⟩
      · cases h
    · unfold dfltCall at h
      split at h
      · exact ⟨_, _, _, _, rfl⟩
      · cases h
    · unfold rngCall at h
      split at h
      · exact ⟨_, _, _, _, rfl⟩
      · cases h
    · cases h
theorem callOf_is {sc : Scope} {nm : String} {e : Expr} {xs : List Expr} (h : callOf sc nm e = some xs) : ∃ f ys kw pos, e = .Call f ys kw pos := by
  unfold callOf at h
  split at h
  · exact ⟨_, _, _, _, rfl⟩
  · cases h
theorem chk_plain {P : Prg} {N : List Str} {sc : Scope} : ∀ {ie : E} {e : Expr}, chkE P N sc ie e = true → plainX e = true := by
  intro ie e h
  cases e <;> first | rfl | skip
  all_goals
    cases ie <;> simp only [chkE] at h <;> first | (cases h; done) | skip
  all_goals
    split at h <;> first | (cases h; done) | skip
  all_goals
    first
    | (rename_i hc; obtain ⟨_, _, _, _, z⟩ := biCall_some hc; cases z; done)
    | (rename_i hc; obtain ⟨_, _, _, _, z⟩ := callOf_is hc; cases z; done)
    | (rename_i hc; obtain ⟨_, _, z, _⟩ := mthOf_some hc; cases z; done)
    | (split at h <;> first | (cases h; done) | (rename_i hc; obtain ⟨_, _, _, _, z⟩ := callOf_is hc; cases z; done))
end Z

set_option maxRecDepth 100000
/-! Z, part 8: a checked expression does what the language says. -/
namespace Z
open PySem L2 PyProof.Rows
open Classical

/-- how an own exception lies: its class, its own dict -/
def ExcD (mg : Str → Option Value) (H : Hp) (c : String) (fs : List D) (cls : Value) (dd : Option Addr) : Prop := ∃ (C : Addr) (ns : List Int), mg (Str.ofString c) = some (.ref C) ∧ cls = .ref C ∧ fs = ns.map D.int ∧ ns.length = (fldsOf c).length ∧
  ((fldsOf c = [] ∧ dd = none) ∨ ∃ a : Addr, dd = some a ∧ H a = some (.xd (((fldsOf c).map Str.ofString).zip (ns.map V.int)).reverse))
/-- what a def promises: it hands back what run says -/
def PostF (fr : Bool) (K : Frg) (mg : Str → Option Value) (F : Addr → Prop) (H : Hp) (Q : VK) (E : XK) : R D → Prop
  | .ok d => ∀ v H', Le H H' → ResD fr K H H' (sub H' F) d v → Q v H'
  | .exc c fs => ∀ cls dd H', Le H H' → ExcD mg H' c fs cls dd → E cls dd H'
  | .bad => False
def Spc (P : Prg) (n k : Nat) (K : Frg) (mg : Str → Option Value) : Sp := fun vs H Q E => ∃ (F : Addr → Prop) (ds : List D) (fd : FD), P.fn k = some fd ∧ Kn H F ∧ DenL K (sub H F) ds vs ∧ PostF fd.fr K mg F H Q E (run P n k ds)
structure FnAt (P : Prg) (n : Nat) (prog : Program) (w : World) (K : Frg) (mg : Str → Option Value) (base : Heap) (k : Nat) (fd : FD) : Prop where
  ex : ∃ (fa : Addr) (fdt : FuncData), mg (Str.ofString fd.nm) = some (.ref fa) ∧ PySem.W.keepIn K (.ref fa) = true ∧ Binds K fdt (fd.prm.map Str.ofString) [] ∧ FnOk prog w K mg base (L2.CX prog w) (n + 2) fa fdt (fd.prm.map Str.ofString) (Spc P n k K mg)
/-- a body's context -/
structure Cok (P : Prg) (n : Nat) (X : Cx) (sc : Scope) (N : List Str) (W : WX) : Prop where
  sc : X.env.scope = sc
  N : X.N = N
  nd : X.N.Nodup
  calm : X.calm = true
  room : Room (n + 2) X.A
  fns : ∀ k fd, P.fn k = some fd → FnAt P n X.prog X.w X.K X.mg X.base k fd
  blt : ∀ x ∈ bltNames, X.mg (Str.ofString x) = none
  cst : ∀ x i, (x, i) ∈ P.consts → ∃ t, X.mg (Str.ofString x) = some (.int i t)
  tk : Takes X W
  exc : ∀ c ∈ P.excs, ExcAt X.prog X.w X.K X.mg X.base c
  knd : ∀ k ∈ P.kinds, KndAt X.prog X.w X.K X.mg X.base k
theorem Cok.hu {P : Prg} {n : Nat} {X : Cx} {sc : Scope} {N : List Str} {W : WX} (C : Cok P n X sc N W) : X.A.units + 100 < cLine := by
  have := C.room.un
  omega
theorem nmOk_ne {x : Str} (h : nmOk x = true) : (x == ("__debug__" : Str)) = false ∧ (x == ("__classdict__" : Str)) = false ∧ x ≠ "__name__" := by
  unfold nmOk at h
  simp only [Bool.and_eq_true, Bool.not_eq_true'] at h
  exact ⟨h.1.1, h.1.2, fun e => by have := h.2; rw [e] at this; simp at this⟩
theorem visC_vis {sc : Scope} {x : Str} (h : visC sc x = true) : Vis sc x := by
  unfold visC at h
  unfold Vis
  split at h
  · exact .inl (by assumption)
  · exact .inr (.inl (by assumption))
  · exact .inr (.inr (by assumption))
  · cases h
theorem locC_loc {sc : Scope} {x : Str} (h : locC sc x = true) : L2.Loc sc x := by
  unfold locC at h
  unfold L2.Loc
  split at h
  · exact .inl (by assumption)
  · exact .inr (by assumption)
  · cases h
theorem glC_gl {X : Cx} {sc : Scope} {x : Str} (e : X.env.scope = sc) (h : glC sc x = true) : Gl X x := by
  unfold glC at h
  unfold Gl Env.kindOf
  rw [e]
  split at h
  · assumption
  · cases h
theorem plain_star {e : Expr} {es : List Expr} {env : Env} (h : plainX e = true) : starEach (e :: es) env = (false, eval e env) :: starEach es env := by
  cases e <;> first | rfl | simp [plainX] at h
theorem stars_any {P : Prg} {N : List Str} {sc : Scope} : ∀ {is : List E} {es : List Expr} {env : Env} {pos : Pos}, chkL P N sc is es = true → (backTo pos (starEach es env)).any (·.1) = false
  | [], es, env, pos, h => by
    simp [chkL] at h
    subst h
    rfl
  | i :: is, [], env, pos, h => by simp [chkL] at h
  | i :: is, e :: es, env, pos, h => by
    simp only [chkL, Bool.and_eq_true] at h
    rw [plain_star (chk_plain h.1)]
    have ih := stars_any (env := env) (pos := pos) h.2
    have : backTo pos ((false, eval e env) :: starEach es env) = (false, eval e env) :: backTo pos (starEach es env) := rfl
    first
      | (rw [this, List.any_cons, ih]; rfl)
      | (cases hq : starEach es env with
         | nil => rfl
         | cons a b =>
           rw [hq] at ih
           simp [backTo] at ih ⊢
           first | exact ih | simp_all)
/-! ### readings -/
def ResE (b fr : Bool) (K : Frg) (H H' G' : Hp) (d : D) (v : V) : Prop := if b = true then Top K H' G' d v else ResD fr K H H' G' d v
theorem ResE.top {b fr : Bool} {K : Frg} {H H' G' : Hp} {d : D} {v : V} (l : Le G' H') (h : ResE b fr K H H' G' d v) : Top K H' G' d v := by
  unfold ResE at h
  split at h
  · exact h
  · exact Top.of l h.1
theorem ResE.of {b fr : Bool} {K : Frg} {H H' G' : Hp} {d : D} {v : V} (l : Le G' H') (h : ResD fr K H H' G' d v) : ResE b fr K H H' G' d v := by
  unfold ResE
  split
  · exact Top.of l h.1
  · exact h
theorem ResE.early {b fr : Bool} {K : Frg} {H0 H H' G' : Hp} {d : D} {v : V} (l : Le H0 H) (h : ResE b fr K H H' G' d v) : ResE b fr K H0 H' G' d v := by
  unfold ResE at h ⊢
  split
  · rename_i q; rw [if_pos q] at h; exact h
  · rename_i q; rw [if_neg q] at h; exact h.early l
def PostE (b fr : Bool) (X : Cx) (F : Addr → Prop) (ρ : Rho) (σ : St) (W : WX) (H : Hp) (Q : VK) : R D → Prop
  | .ok d => ∀ v H', Le H H' → ResE b fr X.K H H' (Gz F ρ σ H') d v → Q v H'
  | .exc c fs => ∀ cls dd H', Le H H' → ExcD X.mg H' c fs cls dd → W cls dd σ H'
  | .bad => False
def tZ (b fr : Bool) (X : Cx) (W : WX) (r : Rho → R D) : TE := fun σ H Q => ∃ F H₀ ρ, SR X.K F H₀ H ρ σ ∧ PostE b fr X F ρ σ W H Q (r ρ)
def PostL (b : Bool) (X : Cx) (F : Addr → Prop) (ρ : Rho) (σ : St) (W : WX) (H : Hp) (Q : List V → Hp → Prop) : R (List D) → Prop
  | .ok ds => ∀ vs H', Le H H' → (if b = true then TopL X.K H' (Gz F ρ σ H') ds vs else DenL X.K (Gz F ρ σ H') ds vs) → Q vs H'
  | .exc c fs => ∀ cls dd H', Le H H' → ExcD X.mg H' c fs cls dd → W cls dd σ H'
  | .bad => False
def tZL (b : Bool) (X : Cx) (W : WX) (r : Rho → R (List D)) : TA := fun σ H Q => ∃ F H₀ ρ, SR X.K F H₀ H ρ σ ∧ PostL b X F ρ σ W H Q (r ρ)
def PostT (X : Cx) (σ : St) (W : WX) (H : Hp) (Q : Bool → Hp → Prop) : R D → Prop
  | .ok (.bl k) => ∀ H', Le H H' → Q k H'
  | .ok _ => False
  | .exc c fs => ∀ cls dd H', Le H H' → ExcD X.mg H' c fs cls dd → W cls dd σ H'
  | .bad => False
def tZT (X : Cx) (W : WX) (r : Rho → R D) : TT := fun σ H Q => ∃ F H₀ ρ, SR X.K F H₀ H ρ σ ∧ PostT X σ W H Q (r ρ)
def PostO (X : Cx) (σ : St) (W : WX) (H : Hp) (Q : Option Int → Hp → Prop) : R (Option Int) → Prop
  | .ok o => ∀ H', Le H H' → Q o H'
  | .exc c fs => ∀ cls dd H', Le H H' → ExcD X.mg H' c fs cls dd → W cls dd σ H'
  | .bad => False
def tZO (X : Cx) (W : WX) (r : Rho → R (Option Int)) : TO := fun σ H Q => ∃ F H₀ ρ, SR X.K F H₀ H ρ σ ∧ PostO X σ W H Q (r ρ)
section
variable {X : Cx} {W : WX} {F : Addr → Prop} {H₀ H H1 : Hp} {ρ : Rho} {σ : St} {b fr : Bool} {Q : VK}
theorem PostE.grow {r : R D} (l : Le H H1) (h : PostE b fr X F ρ σ W H Q r) : PostE b fr X F ρ σ W H1 Q r := by
  cases r with
  | ok d => exact fun v H' l' t => h v H' (l.trans l') (t.early l)
  | exc c fs => exact fun cls dd H' l' e => h cls dd H' (l.trans l') e
  | bad => exact h
theorem PostT.grow {r : R D} {Q : Bool → Hp → Prop} (l : Le H H1) (h : PostT X σ W H Q r) : PostT X σ W H1 Q r := by
  cases r with
  | ok d => cases d <;> first | exact h | exact fun H' l' => h H' (l.trans l')
  | exc c fs => exact fun cls dd H' l' e => h cls dd H' (l.trans l') e
  | bad => exact h
theorem PostL.grow {r : R (List D)} {Q : List V → Hp → Prop} (l : Le H H1) (h : PostL b X F ρ σ W H Q r) : PostL b X F ρ σ W H1 Q r := by
  cases r with
  | ok d => exact fun v H' l' t => h v H' (l.trans l') t
  | exc c fs => exact fun cls dd H' l' e => h cls dd H' (l.trans l') e
  | bad => exact h
theorem PostO.grow {r : R (Option Int)} {Q : Option Int → Hp → Prop} (l : Le H H1) (h : PostO X σ W H Q r) : PostO X σ W H1 Q r := by
  cases r with
  | ok d => exact fun H' l' => h H' (l.trans l')
  | exc c fs => exact fun cls dd H' l' e => h cls dd H' (l.trans l') e
  | bad => exact h
/-- one part is reckoned, then the rest -/
theorem stepE {b' fr' : Bool} {r : R D} {f : D → R D} {K : VK} (h : PostE b fr X F ρ σ W H Q (r >>= f)) (k : ∀ d v H1, Le H H1 → ResE b' fr' X.K H H1 (Gz F ρ σ H1) d v → PostE b fr X F ρ σ W H1 Q (f d) → K v H1) : PostE b' fr' X F ρ σ W H K r := by
  cases r with
  | ok d => exact fun v H1 l t => k d v H1 l t (PostE.grow l h)
  | exc c fs => exact h
  | bad => exact h
theorem stepET {b' fr' : Bool} {r : R D} {f : D → R D} {K : VK} {Q : Bool → Hp → Prop} (h : PostT X σ W H Q (r >>= f)) (k : ∀ d v H1, Le H H1 → ResE b' fr' X.K H H1 (Gz F ρ σ H1) d v → PostT X σ W H1 Q (f d) → K v H1) : PostE b' fr' X F ρ σ W H K r := by
  cases r with
  | ok d => exact fun v H1 l t => k d v H1 l t (PostT.grow l h)
  | exc c fs => exact h
  | bad => exact h
theorem stepLE {b' : Bool} {r : R (List D)} {f : List D → R D} {K : List V → Hp → Prop} (h : PostE b fr X F ρ σ W H Q (r >>= f)) (k : ∀ ds vs H1, Le H H1 → (if b' = true then TopL X.K H1 (Gz F ρ σ H1) ds vs else DenL X.K (Gz F ρ σ H1) ds vs) → PostE b fr X F ρ σ W H1 Q (f ds) → K vs H1) : PostL b' X F ρ σ W H K r := by
  cases r with
  | ok d => exact fun v H1 l t => k d v H1 l t (PostE.grow l h)
  | exc c fs => exact h
  | bad => exact h
theorem stepOE {r : R (Option Int)} {f : Option Int → R D} {K : Option Int → Hp → Prop} (h : PostE b fr X F ρ σ W H Q (r >>= f)) (k : ∀ o H1, Le H H1 → PostE b fr X F ρ σ W H1 Q (f o) → K o H1) : PostO X σ W H K r := by
  cases r with
  | ok d => exact fun H1 l => k d H1 l (PostE.grow l h)
  | exc c fs => exact h
  | bad => exact h
theorem prE {r : R D} (h : PostE b fr X F ρ σ W H Q (pr r)) : ∃ d, r = .ok d ∧ PostE b fr X F ρ σ W H Q (.ok d) := by
  cases r with
  | ok d => exact ⟨d, rfl, h⟩
  | exc c fs => exact h.elim
  | bad => exact h.elim
theorem prB {α : Type} {r : R α} {f : α → R D} (h : PostE b fr X F ρ σ W H Q (pr r >>= f)) : ∃ a, r = .ok a ∧ PostE b fr X F ρ σ W H Q (f a) := by
  cases r with
  | ok d => exact ⟨d, rfl, h⟩
  | exc c fs => exact h.elim
  | bad => exact h.elim
theorem prBT {α : Type} {r : R α} {f : α → R D} {Q : Bool → Hp → Prop} (h : PostT X σ W H Q (pr r >>= f)) : ∃ a, r = .ok a ∧ PostT X σ W H Q (f a) := by
  cases r with
  | ok d => exact ⟨d, rfl, h⟩
  | exc c fs => exact h.elim
  | bad => exact h.elim
theorem gdE {c : Prop} [Decidable c] {r : R D} (h : PostE b fr X F ρ σ W H Q (gd c r)) : c ∧ PostE b fr X F ρ σ W H Q r := by
  unfold gd at h
  split at h
  · rename_i q; exact ⟨q, h⟩
  · exact h.elim
theorem SR.kn (S : SR X.K F H₀ H ρ σ) : Kn H fun a => F a ∨ Own ρ σ a := fun a z => z.elim (S.fF a) fun z => S.own_some z
theorem DenL.of_if {K : Frg} {G : Hp} {p : Prop} {ds : List D} {vs : List V} (h : if false = true then p else DenL K G ds vs) : DenL K G ds vs := by simpa using h
/-- a scalar is handed on -/
theorem PostE.now {d : D} {v : V} (c : isC d = false) (h : PostE b fr X F ρ σ W H Q (.ok d)) (x : Den X.K (Gz F ρ σ H) d v) : Q v H :=
  h v H (Le.refl H) (ResE.of Gz_le ⟨x, fun _ z => by rw [c] at z; cases z⟩)
theorem PostE.new {d : D} {v : V} {H' : Hp} (h : PostE b fr X F ρ σ W H Q (.ok d)) (l : Le H H') (x : ResD true X.K H H' (Gz F ρ σ H') d v) : Q v H' :=
  h v H' l (ResE.of Gz_le x.weak)
end
end Z

set_option maxRecDepth 100000
/-! Z, part 9: what a loop walks. -/
namespace Z
open PySem L2 PyProof.Rows
open Classical
/-- an iterator that hands out xs -/
def Srv (K : Frg) (J : It) (B : Hp) (xs : List D) : Prop := ∀ (i : Nat) (H : Hp) (q : Addr → Prop), Kn H q → Le B (sub H q) →
  (∀ d, xs[i]? = some d → J.go i H ∧ ∀ v H', J.yld i H v H' → Le H H' ∧ Den K (sub H' q) d v) ∧ (xs.length ≤ i → J.stop i H)
def PostI (X : Cx) (F : Addr → Prop) (ρ : Rho) (σ : St) (W : WX) (H : Hp) (Q : It → Hp → Prop) : R (List D) → Prop
  | .ok xs => ∀ J H', Le H H' → Srv X.K J (Gz F ρ σ H') xs → Q J H'
  | .exc c fs => ∀ cls dd H', Le H H' → ExcD X.mg H' c fs cls dd → W cls dd σ H'
  | .bad => False
def tZI (X : Cx) (W : WX) (r : Rho → R (List D)) : TI := fun σ H Q => ∃ F H₀ ρ, SR X.K F H₀ H ρ σ ∧ PostI X F ρ σ W H Q (r ρ)
theorem PostI.grow {X : Cx} {F : Addr → Prop} {ρ : Rho} {σ : St} {W : WX} {H H1 : Hp} {Q : It → Hp → Prop} {r : R (List D)} (l : Le H H1) (h : PostI X F ρ σ W H Q r) : PostI X F ρ σ W H1 Q r := by
  cases r with
  | ok d => exact fun v H' l' t => h v H' (l.trans l') t
  | exc c fs => exact fun cls dd H' l' e => h cls dd H' (l.trans l') e
  | bad => exact h
theorem srv_list {K : Frg} {B : Hp} {a : Addr} {ds : List D} {vs : List V} (h : SqL K B a vs) (l : DenL K B ds vs) : Srv K (Itl K a) B ds := fun i H q kn lb => by
  have hs : SqL K H a vs := (lb.trans sub_le).sqL h
  refine ⟨fun d hd => ?_, fun hl => ⟨vs, hs, by rw [l.length]; exact hl⟩⟩
  obtain ⟨v, h1, h2⟩ := l.get hd
  refine ⟨⟨vs, v, hs, h1⟩, fun w H' y => ?_⟩
  obtain ⟨rfl, y⟩ := y
  have e := y vs hs
  rw [h1] at e; cases e
  exact ⟨Le.refl _, Den.mono lb _ _ h2⟩
theorem srv_tup {K : Frg} {B : Hp} {a : Addr} {ds : List D} {vs : List V} (h : SqT K B a vs) (l : DenL K B ds vs) : Srv K (Itt K a) B ds := fun i H q kn lb => by
  have hs : SqT K H a vs := by
    rcases h with h | h
    · exact .inl ((lb.trans sub_le).rd h)
    · exact .inr h
  refine ⟨fun d hd => ?_, fun hl => ⟨vs, hs, by rw [l.length]; exact hl⟩⟩
  obtain ⟨v, h1, h2⟩ := l.get hd
  refine ⟨⟨vs, v, hs, h1⟩, fun w H' y => ?_⟩
  obtain ⟨rfl, y⟩ := y
  have e := y vs hs
  rw [h1] at e; cases e
  exact ⟨Le.refl _, Den.mono lb _ _ h2⟩
theorem rngL_get {lo c : Int} {n i : Nat} {d : D} (h : (rngL lo n c)[i]? = some d) : i < n ∧ d = .int (lo + (i : Int) * c) := by
  unfold rngL at h
  rw [List.getElem?_map] at h
  cases hi : (List.range n)[i]? with
  | none => rw [hi] at h; cases h
  | some k =>
    rw [hi] at h
    obtain ⟨h1, h2⟩ := List.getElem?_eq_some_iff.mp hi
    simp at h1 h2
    simp at h
    subst h2
    exact ⟨h1, h.symm⟩
theorem rngL_len {lo c : Int} {n : Nat} : (rngL lo n c).length = n := by simp [rngL]
theorem srv_rng {K : Frg} {B : Hp} {lo : Int} {n : Nat} : Srv K (Itr lo n) B (rngL lo n 1) := fun i H q kn lb => by
  refine ⟨fun d hd => ?_, fun hl => by rw [rngL_len] at hl; exact hl⟩
  obtain ⟨h1, rfl⟩ := rngL_get hd
  refine ⟨h1, fun w H' y => ?_⟩
  obtain ⟨rfl, rfl⟩ := y
  exact ⟨Le.refl _, by simp [Den]⟩
theorem srv_rngC {K : Frg} {B : Hp} {lo c : Int} {n : Nat} : Srv K (Itc lo c n) B (rngL lo n c) := fun i H q kn lb => by
  refine ⟨fun d hd => ?_, fun hl => by rw [rngL_len] at hl; exact hl⟩
  obtain ⟨h1, rfl⟩ := rngL_get hd
  refine ⟨h1, fun w H' y => ?_⟩
  obtain ⟨rfl, rfl⟩ := y
  exact ⟨Le.refl _, by simp [Den]⟩
theorem srv_enum {K : Frg} {B : Hp} {a : Addr} {ds : List D} {vs : List V} (h : SqL K B a vs) (l : DenL K B ds vs) : Srv K (Ite K a) B (ds.zipIdx.map fun p => .tup [.int (0 + p.2), p.1]) := fun i H q kn lb => by
  have hs : SqL K H a vs := (lb.trans sub_le).sqL h
  refine ⟨fun d hd => ?_, fun hl => ⟨vs, hs, by rw [l.length]; simpa using hl⟩⟩
  rw [List.getElem?_map] at hd
  cases hi : ds.zipIdx[i]? with
  | none => rw [hi] at hd; cases hd
  | some p =>
    rw [hi] at hd
    simp only [Option.map_some, Option.some.injEq] at hd
    rw [List.getElem?_zipIdx] at hi
    cases hx : ds[i]? with
    | none => rw [hx] at hi; cases hi
    | some x =>
      rw [hx] at hi
      simp only [Option.map_some, Option.some.injEq] at hi
      subst hi
      obtain ⟨v, h1, h2⟩ := l.get hx
      refine ⟨⟨vs, v, hs, h1⟩, fun w H' y => ?_⟩
      obtain ⟨T, u, rfl, hT, rfl, y⟩ := y
      have e := y vs hs
      rw [h1] at e; cases e
      refine ⟨Le.upd hT, ?_⟩
      subst hd
      simp only [Den, DenL]
      refine ⟨T, _, rfl, by rw [sub_at (kn.no hT)]; exact upd_same, _, _, rfl, ?_, _, _, rfl, Den.mono (lb.trans (sub_grow (Le.upd hT))) _ _ h2, rfl⟩
      simp
theorem srv_str {K : Frg} {B : Hp} {x : Str} : Srv K (Its x) B (x.cps.toList.map fun c => .str ⟨#[c]⟩) := fun i H q kn lb => by
  refine ⟨fun d hd => ?_, fun hl => (show x.cps.size ≤ i by simpa using hl)⟩
  rw [List.getElem?_map] at hd
  cases hi : x.cps.toList[i]? with
  | none => rw [hi] at hd; cases hd
  | some c =>
    rw [hi] at hd
    simp only [Option.map_some, Option.some.injEq] at hd
    subst hd
    have hc : x.cps[i]? = some c := by rw [← Array.getElem?_toList]; exact hi
    refine ⟨by
      have := (Array.getElem?_eq_some_iff.mp hc).1
      exact this, fun w H' y => ?_⟩
    obtain ⟨rfl, c', hc', rfl⟩ := y
    rw [hc] at hc'
    cases hc'
    exact ⟨Le.refl _, by simp [Den]⟩
theorem srv_zipM {K : Frg} {B : Hp} {a b : Addr} {ds es : List D} {vs us : List V} (t1 t2 : Bool) (h : SqK t1 K B a vs) (l : DenL K B ds vs) (h' : SqK t2 K B b us) (l' : DenL K B es us) : Srv K (ItzM t1 t2 K a b) B ((ds.zip es).map fun p => .tup [p.1, p.2]) := fun i H q kn lb => by
  have up : ∀ {t : Bool} {a : Addr} {vs : List V}, SqK t K B a vs → SqK t K H a vs := fun {t a vs} h => by
    cases t with
    | false => exact (lb.trans sub_le).sqL h
    | true =>
      rcases h with h | h
      · exact .inl ((lb.trans sub_le).rd h)
      · exact .inr h
  have hs : SqK t1 K H a vs := up h
  have hs' : SqK t2 K H b us := up h'
  refine ⟨fun d hd => ?_, fun hl => ⟨vs, us, hs, hs', by
    rw [l.length, l'.length]
    simp at hl
    omega⟩⟩
  rw [List.getElem?_map] at hd
  cases hi : (ds.zip es)[i]? with
  | none => rw [hi] at hd; cases hd
  | some p =>
    rw [hi] at hd
    simp only [Option.map_some, Option.some.injEq] at hd
    rw [List.getElem?_zip_eq_some] at hi
    obtain ⟨v, h1, h2⟩ := l.get hi.1
    obtain ⟨u, h3, h4⟩ := l'.get hi.2
    refine ⟨⟨vs, us, v, u, hs, hs', h1, h3⟩, fun w H' y => ?_⟩
    obtain ⟨T, v', u', rfl, hT, rfl, y, y'⟩ := y
    have e := y vs hs
    rw [h1] at e; cases e
    have e := y' us hs'
    rw [h3] at e; cases e
    refine ⟨Le.upd hT, ?_⟩
    subst hd
    simp only [Den, DenL]
    exact ⟨T, _, rfl, by rw [sub_at (kn.no hT)]; exact upd_same, _, _, rfl, Den.mono (lb.trans (sub_grow (Le.upd hT))) _ _ h2, _, _, rfl, Den.mono (lb.trans (sub_grow (Le.upd hT))) _ _ h4, rfl⟩
section
variable {X : Cx} {tg : Expr}
def iSeqA (K : Frg) (tl : TE) : TI := fun σ H R => tl σ H fun x H1 => (∃ a, x = .ref a ∧ (((∃ xs, SqL K H1 a xs) ∧ R (Itl K a) H1) ∨ ((∃ xs, SqT K H1 a xs) ∧ R (Itt K a) H1)))
theorem pi_seqA {l : Expr} {tl : TE} (hl : PE X l tl) : PI X tg l (iSeqA X.K tl) := by
  refine ⟨fun pins s σ H R I h => ?_⟩
  refine thn (hl.run pins s σ H _ I h) fun v s1 ⟨x, H1, I1, r1, q1⟩ => ?_
  obtain ⟨a, e, q1⟩ := q1
  subst e
  cases r1
  rcases q1 with ⟨⟨xs, hq⟩, q⟩ | ⟨⟨xs, hq⟩, q⟩
  · obtain ⟨its, rv, p, hz⟩ := I1.list hq
    exact wpAny_pyIter_list p.isList (pi_one (tk := s1.toks) I1 _ (turn_list a _) ⟨_, Heap.get?_push_size _ rfl, rfl, rfl⟩ q)
  · obtain ⟨its, rv, p, hz⟩ := I1.tuple hq
    exact wpAny_pyIter_tuple (show s1.heap.IsTuple a its.toArray from p) (pi_one (tk := s1.toks) I1 _ (turn_tuple a _) ⟨_, Heap.get?_push_size _ rfl, rfl, rfl⟩ q)

variable {P : Prg} {n : Nat} {N : List Str} {sc : Scope} {W : WX}
theorem den_seq {G : Hp} {d : D} {v : V} {xs : List D} (h : srcD .seq [d] = .ok xs) (x : Den X.K G d v) : ∃ a vs, v = .ref a ∧ DenL X.K G xs vs ∧ (SqL X.K G a vs ∨ SqT X.K G a vs) := by
  cases d <;> simp only [srcD] at h <;> first | (cases h; done) | skip
  all_goals
    simp only [Den] at x
    obtain ⟨a, vs, rfl, g, l⟩ := x
    cases h
  · exact ⟨a, vs, rfl, l, .inr (.inl (.inl g))⟩
  · exact ⟨a, vs, rfl, l, .inl (.inl (.inl g))⟩
  · exact ⟨a, vs, rfl, l, .inl g⟩
theorem sqL_le {K : Frg} {G H : Hp} (l : Le G H) {a : Addr} {vs : List V} (h : SqL K G a vs) : SqL K H a vs := l.sqL h
theorem sqT_le {K : Frg} {G H : Hp} (l : Le G H) {a : Addr} {vs : List V} (h : SqT K G a vs) : SqT K H a vs := by
  rcases h with h | h
  · exact .inl (l.rd h)
  · exact .inr h
theorem stepEI {b' fr' : Bool} {F : Addr → Prop} {ρ : Rho} {σ : St} {H : Hp} {Q : It → Hp → Prop} {r : R D} {f : D → R (List D)} {K : VK} (h : PostI X F ρ σ W H Q (r >>= f)) (k : ∀ d v H1, Le H H1 → ResE b' fr' X.K H H1 (Gz F ρ σ H1) d v → PostI X F ρ σ W H1 Q (f d) → K v H1) : PostE b' fr' X F ρ σ W H K r := by
  cases r with
  | ok d => exact fun v H1 l t => k d v H1 l t (PostI.grow l h)
  | exc c fs => exact h
  | bad => exact h
theorem stepLI {b : Bool} {F : Addr → Prop} {ρ : Rho} {σ : St} {H : Hp} {Q : It → Hp → Prop} {r : R (List D)} {f : List D → R (List D)} {K : List V → Hp → Prop} (h : PostI X F ρ σ W H Q (r >>= f)) (k : ∀ ds vs H1, Le H H1 → (if b = true then TopL X.K H1 (Gz F ρ σ H1) ds vs else DenL X.K (Gz F ρ σ H1) ds vs) → PostI X F ρ σ W H1 Q (f ds) → K vs H1) : PostL b X F ρ σ W H K r := by
  cases r with
  | ok d => exact fun v H1 l t => k d v H1 l t (PostI.grow l h)
  | exc c fs => exact h
  | bad => exact h
theorem prI {F : Addr → Prop} {ρ : Rho} {σ : St} {H : Hp} {Q : It → Hp → Prop} {r : R (List D)} (h : PostI X F ρ σ W H Q (pr r)) : ∃ d, r = .ok d ∧ PostI X F ρ σ W H Q (.ok d) := by
  cases r with
  | ok d => exact ⟨d, rfl, h⟩
  | exc c fs => exact h.elim
  | bad => exact h.elim
def srcR (C : Calls) (s : Src) (es : List E) (ρ : Rho) : R (List D) := do
  let ds ← evL C false es ρ
  pr (srcD s ds)
theorem i_seq {e : Expr} {ie : E} (he : PE X e (tZ false (frE ie) X W (evE (run P n) false ie))) : PI X tg e (tZI X W (srcR (run P n) .seq [ie])) := by
  have q := pi_seqA (tg := tg) he
  refine ⟨fun pins s σ H Q I ⟨F, H₀, ρ, S, h⟩ => q.run pins s σ H Q I ?_⟩
  simp only [srcR, evL] at h
  cases hr : evE (run P n) false ie ρ with
  | exc c fs => rw [hr] at h; exact ⟨F, H₀, ρ, S, by rw [hr]; exact h⟩
  | bad => rw [hr] at h; exact h.elim
  | ok d =>
    rw [hr] at h
    obtain ⟨xs, hx, h⟩ := prI h
    refine ⟨F, H₀, ρ, S, by
      rw [hr]
      refine fun v H1 l t => ?_
      have t : Den X.K (Gz F ρ σ H1) d v := t.1
      obtain ⟨a, vs, rfl, hl, hs⟩ := den_seq hx t
      refine ⟨a, rfl, ?_⟩
      rcases hs with hs | hs
      · exact .inl ⟨⟨vs, sqL_le Gz_le hs⟩, h _ _ l (srv_list hs hl)⟩
      · exact .inr ⟨⟨vs, sqT_le Gz_le hs⟩, h _ _ l (srv_tup hs hl)⟩⟩
theorem i_str {e : Expr} {ie : E} (he : PE X e (tZ false (frE ie) X W (evE (run P n) false ie))) : PI X tg e (tZI X W (srcR (run P n) .sgn [ie])) := by
  have q := pi_str (tg := tg) he
  refine ⟨fun pins s σ H Q I ⟨F, H₀, ρ, S, h⟩ => q.run pins s σ H Q I ?_⟩
  simp only [srcR, evL] at h
  cases hr : evE (run P n) false ie ρ with
  | exc c fs => rw [hr] at h; exact ⟨F, H₀, ρ, S, by rw [hr]; exact h⟩
  | bad => rw [hr] at h; exact h.elim
  | ok d =>
    rw [hr] at h
    obtain ⟨xs, hx, h⟩ := prI h
    refine ⟨F, H₀, ρ, S, by
      rw [hr]
      refine fun v H1 l t => ?_
      have t : Den X.K (Gz F ρ σ H1) d v := t.1
      cases d <;> simp only [srcD] at hx <;> first | (cases hx; done) | skip
      cases hx
      simp only [Den] at t
      exact ⟨_, t, h _ _ l srv_str⟩⟩
theorem i_rng1 {e : Expr} {es : List E} {p pos : Pos} (C : Cok P n X sc N W) (hg : glC sc "range" = true) (hp : plainX e = true) (ha : PA X [e] (tZL false X W (evL (run P n) false es))) : PI X tg (.Call (.Name "range" p) [e] [] pos) (tZI X W (srcR (run P n) .rng1 es)) := by
  have q := pi_range1 (tg := tg) (p := p) (pos := pos) (glC_gl C.sc hg) (C.blt "range" (by decide)) ha (plain_star hp)
  refine ⟨fun pins s σ H Q I ⟨F, H₀, ρ, S, h⟩ => q.run pins s σ H Q I ?_⟩
  refine ⟨F, H₀, ρ, S, stepLI (b := false) h fun ds vs H1 l t h1 => ?_⟩
  have t := DenL.of_if t
  obtain ⟨xs, hx, h2⟩ := prI h1
  unfold srcD at hx
  split at hx <;> first | (cases hx; done) | skip
  all_goals first | (rename_i z _; cases z; done) | skip
  simp only [DenL, Den] at t
  obtain ⟨v, r, rfl, rfl, rfl⟩ := t
  obtain ⟨⟨hb, _⟩, e⟩ := gd_ok hx
  cases e
  unfold big62 at hb
  simp only [Bool.and_eq_true, decide_eq_true_eq] at hb
  exact ⟨_, rfl, hb.1, hb.2, h2 _ _ (Le.refl _) srv_rng⟩
theorem i_rng2 {e e2 : Expr} {es : List E} {p pos : Pos} (C : Cok P n X sc N W) (hg : glC sc "range" = true) (hp : plainX e = true) (hp2 : plainX e2 = true) (ha : PA X [e, e2] (tZL false X W (evL (run P n) false es))) : PI X tg (.Call (.Name "range" p) [e, e2] [] pos) (tZI X W (srcR (run P n) .rng2 es)) := by
  have q := pi_range2 (tg := tg) (p := p) (pos := pos) (glC_gl C.sc hg) (C.blt "range" (by decide)) ha (by rw [plain_star hp, plain_star hp2]; rfl) (by rw [plain_star hp2]; rfl)
  refine ⟨fun pins s σ H Q I ⟨F, H₀, ρ, S, h⟩ => q.run pins s σ H Q I ?_⟩
  refine ⟨F, H₀, ρ, S, stepLI (b := false) h fun ds vs H1 l t h1 => ?_⟩
  have t := DenL.of_if t
  obtain ⟨xs, hx, h2⟩ := prI h1
  unfold srcD at hx
  split at hx <;> first | (cases hx; done) | skip
  all_goals first | (rename_i z _; cases z; done) | skip
  simp only [DenL, Den] at t
  obtain ⟨v, r, rfl, rfl, v', r', rfl, rfl, rfl⟩ := t
  obtain ⟨⟨hb, hb2, _⟩, e⟩ := gd_ok hx
  cases e
  unfold big62 at hb hb2
  simp only [Bool.and_eq_true, decide_eq_true_eq] at hb hb2
  exact ⟨_, _, rfl, ⟨hb.1, hb.2, hb2.1, hb2.2⟩, h2 _ _ (Le.refl _) srv_rng⟩
theorem i_rng3 {e e2 e3 : Expr} {es : List E} {p pos : Pos} (C : Cok P n X sc N W) (hg : glC sc "range" = true) (hp : plainX e = true) (hp2 : plainX e2 = true) (hp3 : plainX e3 = true) (ha : PA X [e, e2, e3] (tZL false X W (evL (run P n) false es))) : PI X tg (.Call (.Name "range" p) [e, e2, e3] [] pos) (tZI X W (srcR (run P n) .rng3 es)) := by
  have q := pi_range3 (tg := tg) (p := p) (pos := pos) (glC_gl C.sc hg) (C.blt "range" (by decide)) ha (plain_star hp) (by rw [plain_star hp2, plain_star hp3]; rfl)
  refine ⟨fun pins s σ H Q I ⟨F, H₀, ρ, S, h⟩ => q.run pins s σ H Q I ?_⟩
  refine ⟨F, H₀, ρ, S, stepLI (b := false) h fun ds vs H1 l t h1 => ?_⟩
  have t := DenL.of_if t
  obtain ⟨xs, hx, h2⟩ := prI h1
  unfold srcD at hx
  split at hx <;> first | (cases hx; done) | skip
  all_goals first | (rename_i z _; cases z; done) | skip
  simp only [DenL, Den] at t
  obtain ⟨v, r, rfl, rfl, v', r', rfl, rfl, v'', r'', rfl, rfl, rfl⟩ := t
  obtain ⟨⟨hb, hb2, rfl, _⟩, e⟩ := gd_ok hx
  cases e
  unfold big62 at hb hb2
  simp only [Bool.and_eq_true, decide_eq_true_eq] at hb hb2
  exact ⟨_, _, _, _, rfl, RgC.neg hb.1 hb.2 hb2.1 hb2.2, h2 _ _ (Le.refl _) srv_rngC⟩
theorem src_enum {ds xs : List D} (h : srcD (.enum 0) ds = .ok xs) : ∃ ys, ds = [.lst ys] ∧ xs = ys.zipIdx.map fun p => .tup [.int (0 + p.2), p.1] := by
  rcases ds with _ | ⟨d, _ | ⟨d2, r⟩⟩ <;> simp only [srcD] at h <;> first | (cases h; done) | skip
  cases d <;> simp only [srcD] at h <;> first | (cases h; done) | skip
  cases h
  exact ⟨_, rfl, rfl⟩
theorem i_enum {e : Expr} {es : List E} {p pos tpos : Pos} {elts : List Expr} {kk : Nat} (C : Cok P n X sc N W) (hg : glC sc "enumerate" = true) (hp : plainX e = true) (ha : PA X [e] (tZL false X W (evL (run P n) false es))) : PI X (.Tuple elts kk tpos) (.Call (.Name "enumerate" p) [e] [] pos) (tZI X W (srcR (run P n) (.enum 0) es)) := by
  have q := pi_enum (p := p) (pos := pos) (tpos := tpos) (elts := elts) (kk := kk) (glC_gl C.sc hg) (C.blt "enumerate" (by decide)) ha (plain_star hp)
  refine ⟨fun pins s σ H Q I ⟨F, H₀, ρ, S, h⟩ => q.run pins s σ H Q I ?_⟩
  refine ⟨F, H₀, ρ, S, stepLI (b := false) h fun ds vs H1 l t h1 => ?_⟩
  have t := DenL.of_if t
  obtain ⟨xs, hx, h2⟩ := prI h1
  obtain ⟨ys, rfl, rfl⟩ := src_enum hx
  simp only [DenL, Den] at t
  obtain ⟨v, r, rfl, ⟨a, us, rfl, g, l'⟩, rfl⟩ := t
  exact ⟨a, us, rfl, .inl (.inl (Gz_le _ _ g)), h2 _ _ (Le.refl _) (srv_enum (.inl (.inl g)) l')⟩
theorem i_zip {e e2 : Expr} {es : List E} {p pos tpos : Pos} {elts : List Expr} {kk : Nat} (C : Cok P n X sc N W) (hg : glC sc "zip" = true) (hp : plainX e = true) (hp2 : plainX e2 = true) (ha : PA X [e, e2] (tZL false X W (evL (run P n) false es))) : PI X (.Tuple elts kk tpos) (.Call (.Name "zip" p) [e, e2] [] pos) (tZI X W (srcR (run P n) .zip es)) := by
  have q := pi_zipM (p := p) (pos := pos) (tpos := tpos) (elts := elts) (kk := kk) (glC_gl C.sc hg) (C.blt "zip" (by decide)) ha (plain_star hp) (by rw [plain_star hp2]; rfl)
  refine ⟨fun pins s σ H Q I ⟨F, H₀, ρ, S, h⟩ => q.run pins s σ H Q I ?_⟩
  refine ⟨F, H₀, ρ, S, stepLI (b := false) h fun ds vs H1 l t h1 => ?_⟩
  have t := DenL.of_if t
  obtain ⟨xs, hx, h2⟩ := prI h1
  unfold srcD at hx
  split at hx <;> first | (cases hx; done) | skip
  all_goals first | (rename_i z _; cases z; done) | skip
  all_goals
    simp only [DenL, Den] at t
    obtain ⟨v, r, rfl, ⟨a, us, rfl, g, l'⟩, v', r', rfl, ⟨a', us', rfl, g', l''⟩, rfl⟩ := t
    cases hx
  · exact ⟨false, false, a, a', us, us', rfl, .inl (.inl (Gz_le _ _ g)), .inl (.inl (Gz_le _ _ g')), h2 _ _ (Le.refl _) (srv_zipM false false (.inl (.inl g)) l' (.inl (.inl g')) l'')⟩
  · exact ⟨true, true, a, a', us, us', rfl, .inl (.inl (Gz_le _ _ g)), .inl (.inl (Gz_le _ _ g')), h2 _ _ (Le.refl _) (srv_zipM true true (.inl (.inl g)) l' (.inl (.inl g')) l'')⟩
  · exact ⟨false, true, a, a', us, us', rfl, .inl (.inl (Gz_le _ _ g)), .inl (.inl (Gz_le _ _ g')), h2 _ _ (Le.refl _) (srv_zipM false true (.inl (.inl g)) l' (.inl (.inl g')) l'')⟩
  · exact ⟨true, false, a, a', us, us', rfl, .inl (.inl (Gz_le _ _ g)), .inl (.inl (Gz_le _ _ g')), h2 _ _ (Le.refl _) (srv_zipM true false (.inl (.inl g)) l' (.inl (.inl g')) l'')⟩
end
end Z

set_option maxRecDepth 100000
/-! Z, part 10: targets; the block of a comprehension. -/
namespace Z
open PySem L2 PyProof.Rows
open Classical
theorem wipe_get {σ : St} {j : Nat} : ∀ {L : List Nat}, (L2.wipe σ L)[j]? = if j ∈ L then (σ[j]?).map (fun _ => none) else σ[j]?
  | [] => by simp [L2.wipe]
  | v :: vs => by
    rw [L2.wipe]
    by_cases h : v = j
    · subst h
      by_cases hl : v < (L2.wipe σ vs).length
      · rw [List.getElem?_set_self hl, if_pos (List.mem_cons_self ..)]
        rw [wipe_length] at hl
        rw [List.getElem?_eq_getElem hl]
        rfl
      · rw [List.getElem?_eq_none (by simpa using hl), if_pos (List.mem_cons_self ..)]
        rw [wipe_length] at hl
        rw [List.getElem?_eq_none (by simpa using hl)]
        rfl
    · rw [List.getElem?_set_ne h, wipe_get (L := vs)]
      have : j ∈ v :: vs ↔ j ∈ vs := by simp [Ne.symm h]
      simp only [this]
theorem wipe_set {σ : St} {i : Nat} {x : Option V} {L : List Nat} (h : i ∈ L) : L2.wipe (σ.set i x) L = L2.wipe σ L := by
  apply List.ext_getElem?
  intro j
  rw [wipe_get, wipe_get]
  by_cases hj : j ∈ L
  · rw [if_pos hj, if_pos hj]
    by_cases e : i = j
    · subst e
      by_cases hl : i < σ.length
      · rw [List.getElem?_set_self hl, List.getElem?_eq_getElem hl]; rfl
      · rw [List.getElem?_eq_none (by simpa using hl), List.getElem?_eq_none (by simpa using hl)]
    · rw [List.getElem?_set_ne e]
  · rw [if_neg hj, if_neg hj, List.getElem?_set_ne (fun e => hj (by rw [← e]; exact h))]
theorem wipe_wipe {σ : St} {L : List Nat} : L2.wipe (L2.wipe σ L) L = L2.wipe σ L := by
  apply List.ext_getElem?
  intro j
  rw [wipe_get, wipe_get]
  by_cases hj : j ∈ L
  · simp [if_pos hj, Option.map_map]; cases σ[j]? <;> rfl
  · simp [if_neg hj]
theorem wipeR_get {ρ : Rho} {j : Nat} : ∀ {L : List Nat}, (wipeR ρ L)[j]? = if j ∈ L then (ρ[j]?).map (fun _ => none) else ρ[j]?
  | [] => by simp [wipeR]
  | v :: vs => by
    have hlen : ∀ L : List Nat, (wipeR ρ L).length = ρ.length := fun L => by
      induction L with
      | nil => rfl
      | cons a b ih => rw [wipeR, List.length_set, ih]
    rw [wipeR]
    by_cases h : v = j
    · subst h
      by_cases hl : v < (wipeR ρ vs).length
      · rw [List.getElem?_set_self hl, if_pos (List.mem_cons_self ..)]
        rw [hlen] at hl
        rw [List.getElem?_eq_getElem hl]
        rfl
      · rw [List.getElem?_eq_none (by simpa using hl), if_pos (List.mem_cons_self ..)]
        rw [hlen] at hl
        rw [List.getElem?_eq_none (by simpa using hl)]
        rfl
    · rw [List.getElem?_set_ne h, wipeR_get (L := vs)]
      have : j ∈ v :: vs ↔ j ∈ vs := by simp [Ne.symm h]
      simp only [this]
theorem wipeR_len {ρ : Rho} : ∀ L : List Nat, (wipeR ρ L).length = ρ.length := fun L => by
  induction L with
  | nil => rfl
  | cons a b ih => rw [wipeR, List.length_set, ih]
theorem noOwn_at {ρ : Rho} {is : List Nat} (h : noOwn ρ is = true) {i : Nat} (hi : i ∈ is) : ∀ d, ρ[i]? ≠ some (some (true, d)) := fun d e => by
  unfold noOwn at h
  rw [List.all_eq_true] at h
  have := h i hi
  unfold owned at this
  rw [e] at this
  simp at this
section
variable {K : Frg} {F : Addr → Prop} {H₀ H : Hp} {ρ : Rho} {σ : St}
theorem SR.wipe (S : SR K F H₀ H ρ σ) (L : List Nat) (ho : noOwn ρ L = true) : SR K F H₀ H (wipeR ρ L) (L2.wipe σ L) ∧ ∀ a, Own (wipeR ρ L) (L2.wipe σ L) a ↔ Own ρ σ a := by
  have get : ∀ {i : Nat} {p : Bool × D}, (wipeR ρ L)[i]? = some (some p) → i ∉ L ∧ ρ[i]? = some (some p) := fun {i p} h => by
    rw [wipeR_get] at h
    by_cases hi : i ∈ L
    · rw [if_pos hi] at h
      cases q : ρ[i]? with
      | none => rw [q] at h; cases h
      | some o => rw [q] at h; cases h
    · rw [if_neg hi] at h; exact ⟨hi, h⟩
  have own : ∀ a, Own (wipeR ρ L) (L2.wipe σ L) a ↔ Own ρ σ a := fun a => by
    constructor
    · rintro ⟨i, d, h1, h2⟩
      obtain ⟨hi, h1⟩ := get h1
      rw [wipe_get, if_neg hi] at h2
      exact ⟨i, d, h1, h2⟩
    · rintro ⟨i, d, h1, h2⟩
      have hi : i ∉ L := fun z => noOwn_at ho z d h1
      exact ⟨i, d, by rw [wipeR_get, if_neg hi]; exact h1, by rw [wipe_get, if_neg hi]; exact h2⟩
  have hG : Gz F (wipeR ρ L) (L2.wipe σ L) H = Gz F ρ σ H := by
    unfold Gz
    congr 1
    funext a
    rw [propext (own a)]
  refine ⟨⟨by rw [wipeR_len, wipe_length]; exact S.len, S.ext, S.fF, fun i d h => ?_, fun i d h => ?_, fun i j d e a h1 h2 h3 h4 => ?_⟩, own⟩
  · obtain ⟨hi, h⟩ := get h
    rw [hG]
    obtain ⟨v, h1, h2⟩ := S.sl i d h
    exact ⟨v, by rw [wipe_get, if_neg hi]; exact h1, h2⟩
  · obtain ⟨hi, h⟩ := get h
    rw [hG]
    obtain ⟨a, h1, h2⟩ := S.ow i d h
    exact ⟨a, by rw [wipe_get, if_neg hi]; exact h1, h2⟩
  · obtain ⟨hi, h1⟩ := get h1
    obtain ⟨hj, h2⟩ := get h2
    rw [wipe_get, if_neg hi] at h3
    rw [wipe_get, if_neg hj] at h4
    exact S.inj i j d e a h1 h2 h3 h4
theorem own_set {i : Nat} {d : D} {v : V} (hi : ∀ d, ρ[i]? ≠ some (some (true, d))) {a : Addr} (h : Own ρ σ a) : Own (setR ρ i false d) (σ.set i (some v)) a := by
  obtain ⟨j, e, h1, h2⟩ := h
  have hj : i ≠ j := fun z => hi e (z ▸ h1)
  exact ⟨j, e, by unfold setR; rw [List.getElem?_set_ne hj]; exact h1, by rw [List.getElem?_set_ne hj]; exact h2⟩
end
/-! ### targets -/
def tZG (X : Cx) (p : Pat) : TG := fun v σ H Q => ∃ F H₀ ρ d ρ', SR X.K F H₀ H ρ σ ∧ Den X.K (Gz F ρ σ H) d v ∧ asgP p d ρ = .ok ρ' ∧
  ∀ σ', SR X.K F H₀ H ρ' σ' → L2.wipe σ' (patL p) = L2.wipe σ (patL p) → (noOwn ρ (patL p) = true → ∀ a, Own ρ σ a → Own ρ' σ' a) → Q σ' H
/-- a name that may be stored -/
def StN (X : Cx) (x : Str) : Prop := L2.Loc X.env.scope x ∧ (X.fn x = true ∨ X.env.scope.names.lookup x = some .local)
def gNames : List Nat → TGs
  | [] => gNil
  | i :: is => gCons (gName i) (gNames is)
section
variable {X : Cx} {N : List Str} {lc : Str → Bool}
theorem nms_pgs (hN : X.N = N) (nd : X.N.Nodup) (hl : ∀ x, lc x = true → StN X x) : ∀ {is : List Nat} {es : List Expr}, nmsC N lc is es = true → PGs X es (gNames is) ∧ (assignEach es X.env).length = is.length ∧ (assignEach es X.env).findIdx? (·.1) = none
  | [], es, h => by
    simp [nmsC] at h
    subst h
    exact ⟨pgs_nil, rfl, rfl⟩
  | i :: is, es, h => by
    unfold nmsC at h
    split at h
    · rename_i x pos es
      simp only [Bool.and_eq_true, decide_eq_true_eq] at h
      obtain ⟨⟨h1, h2⟩, h3⟩ := h
      obtain ⟨p, l, f⟩ := nms_pgs hN nd hl h3
      obtain ⟨s1, s2⟩ := hl x h2
      refine ⟨pgs_cons (pg_name nd (by rw [hN]; exact h1) s1 s2) p rfl, ?_, ?_⟩
      · show (_ :: assignEach es X.env).length = _
        rw [List.length_cons, List.length_cons, l]
      · show List.findIdx? (·.1) ((false, _) :: assignEach es X.env) = none
        rw [List.findIdx?_cons, f]
        rfl
    · cases h
theorem gNames_run {K : Frg} {F : Addr → Prop} {H₀ H : Hp} {Q : St → Hp → Prop} (L : List Nat) : ∀ {is : List Nat} {ds : List D} {vs : List V} {ρ ρ' : Rho} {σ : St}, (∀ i ∈ is, i ∈ L) → SR K F H₀ H ρ σ → DenL K (Gz F ρ σ H) ds vs → setAll is ds ρ = .ok ρ' →
    (∀ σ', SR K F H₀ H ρ' σ' → L2.wipe σ' L = L2.wipe σ L → (noOwn ρ is = true → ∀ a, Own ρ σ a → Own ρ' σ' a) → Q σ' H) → gNames is vs σ H Q
  | [], [], vs, ρ, ρ', σ, hL, S, x, h, k => by
    simp only [setAll] at h
    cases h
    simp only [DenL] at x
    subst x
    exact ⟨rfl, k σ S rfl fun _ a z => z⟩
  | [], d :: ds, vs, ρ, ρ', σ, hL, S, x, h, k => by simp [setAll] at h
  | i :: is, [], vs, ρ, ρ', σ, hL, S, x, h, k => by simp [setAll] at h
  | i :: is, d :: ds, vs, ρ, ρ', σ, hL, S, x, h, k => by
    simp only [setAll] at h
    simp only [DenL] at x
    obtain ⟨v, r, rfl, g, x⟩ := x
    have S1 := S.set (i := i) g
    have gm : Le (Gz F ρ σ H) (Gz F (setR ρ i false d) (σ.set i (some v)) H) := sub_mono fun a o e n => ⟨e, fun z => n (z.elim .inl fun z => .inr (own_set_false S.len a z))⟩
    refine ⟨v, r, rfl, gNames_run L (fun j hj => hL j (List.mem_cons_of_mem _ hj)) S1 (DenL.mono gm _ _ x) h fun σ' S' hw ho => k σ' S' (hw.trans (wipe_set (hL i (List.mem_cons_self ..)))) fun no a z => ?_⟩
    refine ho ?_ a (own_set (fun e => noOwn_at no (List.mem_cons_self ..) e) z)
    unfold noOwn at no ⊢
    rw [List.all_eq_true] at no ⊢
    intro j hj
    have := no j (List.mem_cons_of_mem _ hj)
    simp only [Bool.not_eq_true'] at this ⊢
    unfold owned setR at *
    by_cases e : i = j
    · subst e
      by_cases hl : i < ρ.length
      · rw [List.getElem?_set_self hl]
      · rw [List.getElem?_eq_none (by simpa using hl)]
    · rw [List.getElem?_set_ne e]; exact this
theorem s_pat {p : Pat} {tg : Expr} (hN : X.N = N) (nd : X.N.Nodup) (hc : X.calm = true) (hl : ∀ x, lc x = true → StN X x) (h : chkPat N lc p tg = true) : PG X tg (tZG X p) := by
  cases p with
  | one i =>
    simp only [chkPat] at h
    split at h <;> first | (cases h; done) | skip
    rename_i x pos
    simp only [Bool.and_eq_true, decide_eq_true_eq] at h
    obtain ⟨s1, s2⟩ := hl x h.2
    have q := pg_name (pos := pos) nd (by rw [hN]; exact h.1) s1 s2
    refine ⟨fun pins s σ H v u Q I r ⟨F, H₀, ρ, d, ρ', S, x, e, k⟩ => q.run pins s σ H v u Q I r ?_⟩
    simp only [asgP] at e
    cases e
    exact k _ (S.set x) (wipe_set (by simp [patL])) fun no a z => own_set (fun e => noOwn_at no (by simp [patL]) e) z
  | tup is =>
    simp only [chkPat] at h
    split at h <;> first | (cases h; done) | skip
    rename_i es kk pos
    obtain ⟨p, l, f⟩ := nms_pgs hN nd hl h
    have q := pg_tup (pos := pos) (k := kk) hc p l f
    refine ⟨fun pins s σ H v u Q I r ⟨F, H₀, ρ, d, ρ', S, x, e, k⟩ => q.run pins s σ H v u Q I r ?_⟩
    cases d <;> simp only [asgP] at e <;> first | (cases e; done) | skip
    rename_i ds
    simp only [Den] at x
    obtain ⟨a, vs, rfl, g, x⟩ := x
    have hlen : ∀ {is : List Nat} {ds : List D} {ρ ρ' : Rho}, setAll is ds ρ = .ok ρ' → ds.length = is.length := by
      intro is
      induction is with
      | nil => intro ds ρ ρ' h; cases ds <;> simp [setAll] at h; rfl
      | cons i is ih => intro ds ρ ρ' h; cases ds <;> simp [setAll] at h; rw [List.length_cons, List.length_cons, ih h]
    exact ⟨a, vs, rfl, .inl (.inl (Gz_le _ _ g)), x.length.trans (hlen e), gNames_run is (fun _ h => h) S x e k⟩
end
end Z

set_option maxRecDepth 100000
/-! Z, part 11: a comprehension. -/
namespace Z
open PySem L2 PyProof.Rows
open Classical
section
variable {K : Frg} {F : Addr → Prop} {H₀ H : Hp} {ρ : Rho} {σ : St}
theorem SR.newF (S : SR K F H₀ H ρ σ) {a : Addr} (h : H a = none) (o : HO) (hnt : nT o := by intro _ z; cases z) : SR K (fun b => F b ∨ b = a) H₀ (upd H a o) ρ σ := by
  have hg : Le (Gz F ρ σ H) (Gz (fun b => F b ∨ b = a) ρ σ (upd H a o)) := sub_mono fun b x e n => by
    have hb : b ≠ a := ne_of_none e h
    refine ⟨by rw [upd_ne hb]; exact e, fun z => ?_⟩
    rcases z with (z | z) | z
    · exact n (.inl z)
    · exact hb z
    · exact n (.inr z)
  refine ⟨S.len, S.ext.trans (Le.upd h), fun b z => ?_, fun i d e => ?_, fun i d e => ?_, S.inj⟩
  · rcases z with z | rfl
    · obtain ⟨x, e, nx⟩ := S.fF b z
      exact ⟨x, Le.upd h _ _ e, nx⟩
    · exact ⟨o, upd_same, hnt⟩
  · obtain ⟨v, h1, h2⟩ := S.sl i d e
    exact ⟨v, h1, Den.mono hg _ _ h2⟩
  · obtain ⟨b, h1, h2, h3, h4⟩ := S.ow i d e
    obtain ⟨x, hx, _⟩ := h4.some
    have hb : b ≠ a := ne_of_none hx h
    exact ⟨b, h1, h2, fun z => z.elim h3 hb, h4.mono hg fun x e => Le.upd h _ _ e⟩
theorem SR.touch (S : SR K F H₀ H ρ σ) {a : Addr} (hF : F a) (h0 : H₀ a = none) (o : HO) (hnt : nT o := by intro _ z; cases z) : SR K F H₀ (upd H a o) ρ σ := by
  have hg : Le (Gz F ρ σ H) (Gz F ρ σ (upd H a o)) := sub_mono fun b x e n => by
    have hb : b ≠ a := fun z => n (.inl (z ▸ hF))
    exact ⟨by rw [upd_ne hb]; exact e, n⟩
  refine ⟨S.len, fun b x e => ?_, fun b z => ?_, fun i d e => ?_, fun i d e => ?_, S.inj⟩
  · have hb : b ≠ a := ne_of_none e h0
    rw [upd_ne hb]
    exact S.ext _ _ e
  · by_cases hb : b = a
    · subst hb; exact ⟨o, upd_same, hnt⟩
    · obtain ⟨x, e, nx⟩ := S.fF b z
      exact ⟨x, by rw [upd_ne hb]; exact e, nx⟩
  · obtain ⟨v, h1, h2⟩ := S.sl i d e
    exact ⟨v, h1, Den.mono hg _ _ h2⟩
  · obtain ⟨b, h1, h2, h3, h4⟩ := S.ow i d e
    have hb : b ≠ a := fun z => h3 (z ▸ hF)
    exact ⟨b, h1, h2, h3, h4.mono hg fun x e => by rw [upd_ne hb]; exact e⟩
end
/-- a test that may be lacking -/
def PostB (X : Cx) (σ : St) (W : WX) (H : Hp) (Q : Bool → Hp → Prop) : R Bool → Prop
  | .ok k => ∀ H', Le H H' → Q k H'
  | .exc c fs => ∀ cls dd H', Le H H' → ExcD X.mg H' c fs cls dd → W cls dd σ H'
  | .bad => False
def tZB (X : Cx) (W : WX) (r : Rho → R Bool) : TT := fun σ H Q => ∃ F H₀ ρ, SR X.K F H₀ H ρ σ ∧ PostB X σ W H Q (r ρ)
abbrev W0 : WX := fun _ _ _ _ => False
def compF (C : Calls) (elt : E) (p : Pat) (c : Option E) (ρ : Rho) (d : D) : R (Option D) := do
  let ρ' ← asgP p d (wipeR ρ (patL p))
  let k ← evC C c ρ'
  match k with
  | true => do
    let y ← evE C false elt ρ'
    return some y
  | false => return none
section
variable {P : Prg} {n : Nat} {N : List Str} {X : Cx} {sc : Scope} {W : WX} {b : Bool}
theorem stepIE {fr : Bool} {F : Addr → Prop} {ρ : Rho} {σ : St} {H : Hp} {Q : VK} {r : R (List D)} {f : List D → R D} {K : It → Hp → Prop} (h : PostE b fr X F ρ σ W H Q (r >>= f)) (k : ∀ xs J H1, Le H H1 → Srv X.K J (Gz F ρ σ H1) xs → PostE b fr X F ρ σ W H1 Q (f xs) → K J H1) : PostI X F ρ σ W H K r := by
  cases r with
  | ok d => exact fun v H1 l t => k d v H1 l t (PostE.grow l h)
  | exc c fs => exact h
  | bad => exact h
theorem bind_assocR {α β γ : Type} (r : R α) (f : α → R β) (g : β → R γ) : ((r >>= f) >>= g) = (r >>= fun a => f a >>= g) := by
  cases r <;> rfl
theorem noOwn_wipe {ρ : Rho} {L : List Nat} : noOwn (wipeR ρ L) L = true := by
  unfold noOwn
  rw [List.all_eq_true]
  intro i hi
  unfold owned
  rw [wipeR_get, if_pos hi]
  cases ρ[i]? <;> rfl
theorem compL_cons {f : D → R (Option D)} {d : D} {ds rs : List D} (h : compL f (d :: ds) = .ok rs) : ∃ o r, f d = .ok o ∧ compL f ds = .ok r ∧ rs = o.toList ++ r := by
  simp only [compL] at h
  obtain ⟨o, h1, h⟩ := bind_some h
  obtain ⟨r, h2, h⟩ := bind_some h
  cases o with
  | none => cases h; exact ⟨none, _, h1, h2, rfl⟩
  | some x => cases h; exact ⟨some x, _, h1, h2, rfl⟩
theorem comp_tlc {elt : E} {p : Pat} {s : Src} {es : List E} {c : Option E} {σ : St} {H : Hp} {Q : VK}
    (h : tZ b true X W (evE (run P n) b (.comp elt p s es c)) σ H Q) : tLc (tZI X W (srcR (run P n) s es)) (tZG X p) (tZB X W0 (evC (run P n) c)) (tZ false (frE elt) X W0 (evE (run P n) false elt)) (patL p) σ H Q := by
  obtain ⟨F, H₀, ρ, S, h⟩ := h
  have h : PostE b true X F ρ σ W H Q (srcR (run P n) s es ρ >>= fun xs => do
      let ys ← pr (compL (compF (run P n) elt p c ρ) xs)
      gd (noOwn ρ (patL p) = true ∧ xs.length < szL) (.ok (.lst ys))) := by
    simp only [evE] at h
    unfold srcR
    rw [bind_assocR]
    exact h
  refine ⟨F, H₀, ρ, S, stepIE h fun xs J H1 l1 srv h1 => ?_⟩
  obtain ⟨ys, hy, h2⟩ := prB h1
  obtain ⟨⟨hno, hlen⟩, h3⟩ := gdE h2
  have S1 := S.grow l1
  intro Da hD
  have hDF : ¬ F Da := fun z => by obtain ⟨o, e, _⟩ := S1.fF Da z; rw [hD] at e; cases e
  have hDO : ¬ Own ρ σ Da := fun z => by obtain ⟨o, e, _⟩ := S1.own_some z; rw [hD] at e; cases e
  have h0D : H₀ Da = none := S1.ext.none hD
  let F' : Addr → Prop := fun a => F a ∨ a = Da
  let Wv : Nat → Nat → Hp → Prop := fun i m H => m = xs.length - i ∧ i ≤ xs.length ∧ ∃ acc ds rs, H Da = some (.lst acc) ∧ Le H1 H ∧ SR X.K F' H₀ H ρ σ ∧ DenL X.K (Gz F' ρ σ H) ds acc ∧
    compL (compF (run P n) elt p c ρ) (xs.drop i) = .ok rs ∧ ys = ds ++ rs ∧ acc.length ≤ i
  refine ⟨Wv, ⟨xs.length, rfl, Nat.zero_le _, [], [], ys, upd_same, Le.upd hD, S1.newF hD _, by simp [DenL], hy, rfl, Nat.le_refl _⟩, ?_⟩
  rintro i m H2 ⟨rfl, hi, acc, ds, rs, hacc, l2, S2, den, hrs, hys, hal⟩
  have kn : Kn H2 (fun a => F' a ∨ Own ρ σ a) := S2.kn
  have lb : Le (Gz F ρ σ H1) (sub H2 fun a => F' a ∨ Own ρ σ a) := fun a o e => by
    obtain ⟨e1, e2⟩ := sub_some e
    rw [sub_at]
    · exact l2 _ _ e1
    · rintro ((z | z) | z)
      · exact e2 (.inl z)
      · rw [z, hD] at e1; cases e1
      · exact e2 (.inr z)
  obtain ⟨sv1, sv2⟩ := srv i H2 _ kn lb
  by_cases hlt : i < xs.length
  · obtain ⟨go, yl⟩ := sv1 _ (List.getElem?_eq_getElem hlt)
    refine .inr ⟨go, Wv (i + 1) (xs.length - (i + 1)), fun H' w => ⟨_, by omega, w⟩, fun v H3 y => ?_⟩
    obtain ⟨l3, dv⟩ := yl v H3 y
    rw [List.drop_eq_getElem_cons hlt] at hrs
    obtain ⟨o, r, hf, hr, e⟩ := compL_cons hrs
    unfold compF at hf
    obtain ⟨ρ', ha, hf⟩ := bind_some hf
    obtain ⟨k, hk, hf⟩ := bind_some hf
    have S3 := S2.grow l3
    obtain ⟨S3w, iffw⟩ := S3.wipe (patL p) hno
    have hG : Gz F' (wipeR ρ (patL p)) (L2.wipe σ (patL p)) H3 = Gz F' ρ σ H3 := by
      unfold Gz
      congr 1
      funext a
      rw [propext (iffw a)]
    refine ⟨F', H₀, wipeR ρ (patL p), _, ρ', S3w, by rw [hG]; exact dv, ha, fun σ2 S4 hw ho => ⟨hw.trans wipe_wipe, ?_⟩⟩
    have hown2 : ∀ a, Own ρ σ a → Own ρ' σ2 a := fun a z => ho noOwn_wipe a ((iffw a).mpr z)
    refine ⟨F', H₀, ρ', S4, ?_⟩
    rw [hk]
    intro H4 l4
    have S5 := S4.grow l4
    have keep : H4 Da = some (.lst acc) := l4 _ _ (l3 _ _ hacc)
    cases k with
    | false =>
      rw [if_neg Bool.false_ne_true]
      cases hf
      refine ⟨rfl, hlt, acc, ds, r, keep, (l2.trans l3).trans l4, S3.grow l4, DenL.mono ((Gz_mono l3).trans (Gz_mono l4)) _ _ den, hr, by rw [hys, e]; rfl, by omega⟩
    | true =>
      rw [if_pos rfl]
      obtain ⟨y, hy', hf⟩ := bind_some hf
      cases hf
      refine ⟨F', H₀, ρ', S5, ?_⟩
      rw [hy']
      intro u H5 l5 res
      have res : Den X.K (Gz F' ρ' σ2 H5) y u := res.1
      have keep5 := l5 _ _ keep
      have lG : Le (Gz F' ρ' σ2 H5) (Gz F' ρ σ H5) := sub_mono fun a o e n => ⟨e, fun z => n (z.elim .inl fun z => .inr (hown2 a z))⟩
      have S6 : SR X.K F' H₀ H5 ρ σ := (S3.grow l4).grow l5
      have lT : Le (Gz F' ρ σ H5) (Gz F' ρ σ (upd H5 Da (.lst (acc ++ [u])))) := sub_mono fun a o e n => ⟨by rw [upd_ne (fun z => n (.inl (.inr z)))]; exact e, n⟩
      refine ⟨acc, keep5, ?_, rfl, hlt, acc ++ [u], ds ++ [y], r, upd_same, fun a o e => ?_, S6.touch (.inr rfl) h0D _, ?_, hr, by rw [hys, e]; simp, by simp; omega⟩
      · rw [sizeLine_eq]
        unfold szL at hlen
        omega
      · rw [upd_ne (ne_of_none e hD)]
        exact l5 _ _ (l4 _ _ (l3 _ _ (l2 _ _ e)))
      · exact DenL.mono lT _ _ ((DenL.mono (((Gz_mono l3).trans (Gz_mono l4)).trans (Gz_mono l5)) _ _ den).append (DenL.one (Den.mono lG _ _ res)))
  · have e : i = xs.length := by omega
    subst e
    refine .inl ⟨sv2 (Nat.le_refl _), ?_⟩
    rw [List.drop_length] at hrs
    simp only [compL] at hrs
    cases hrs
    rw [List.append_nil] at hys
    subst hys
    have lF : Le (Gz F' ρ σ H2) (sub (Gz F ρ σ H2) (· = Da)) := fun a o e => by
      obtain ⟨e1, e2⟩ := sub_some e
      rw [sub_at (p := (· = Da)) (fun z => e2 (.inl (.inr z)))]
      unfold Gz
      rw [sub_at]
      · exact e1
      · rintro (z | z)
        · exact e2 (.inl (.inl z))
        · exact e2 (.inr z)
    refine h3.new l2 ⟨?_, fun _ _ => ⟨Da, rfl, hD, acc, hacc, DenL.mono lF _ _ den⟩⟩
    simp only [Den]
    refine ⟨Da, acc, rfl, ?_, DenL.mono (lF.trans sub_le) _ _ den⟩
    unfold Gz
    rw [sub_at]
    · exact hacc
    · rintro (z | z)
      · exact hDF z
      · exact hDO z
theorem s_comp {elt : E} {p : Pat} {s : Src} {es : List E} {c : Option E} {e' tg iter : Expr} {ifs : List Expr} {scope : Scope} {pos : Pos} {own : List (Str × Nat)} (C : Cok P n X sc N W)
    (hi : PI X tg iter (tZI X W (srcR (run P n) s es))) (ok : BlkOk X.N X.env.scope scope own) (hown : own.map (·.2) = patL p)
    (hg : ∀ (s : Shared) (H : Hp) (C : Addr) (cl : List (Str × Addr)) (fp : List Addr), PG (X.blk s H scope (compEnvC scope cl C X.env) fp) tg (tZG X p))
    (ht : ∀ (s : Shared) (H : Hp) (C : Addr) (cl : List (Str × Addr)) (fp : List Addr), PTs (X.blk s H scope (compEnvC scope cl C X.env) fp) ifs (tZB X W0 (evC (run P n) c)))
    (he : ∀ (s : Shared) (H : Hp) (C : Addr) (cl : List (Str × Addr)) (fp : List Addr), PE (X.blk s H scope (compEnvC scope cl C X.env) fp) e' (tZ false (frE elt) X W0 (evE (run P n) false elt)))
    (hs : ∀ x, foldedSetIterable iter X.env x = pure x) :
    PE X (.ListComp e' [⟨tg, iter, ifs, 0⟩] scope pos) (tZ b true X W (evE (run P n) b (.comp elt p s es c))) := by
  have q := pe_lc (pos := pos) C.calm C.nd hi ok hg ht he hs
  exact ⟨fun pins s' σ H Q I h => q.run pins s' σ H Q I (by rw [hown]; exact comp_tlc h)⟩
theorem ps_comp {elt : E} {p : Pat} {s : Src} {es : List E} {c : Option E} {e' tg iter : Expr} {ifs : List Expr} {scope : Scope} {pos spos py : Pos} {own : List (Str × Nat)} {i : Nat} {y : Str} (C : Cok P n X sc N W)
    (hy : X.N[i]? = some y) (hyl : X.env.scope.names.lookup y = some .local) (hsw : swapsWith (.ListComp e' [⟨tg, iter, ifs, 0⟩] scope pos) (some (.Name y py)) spos.line X.env = pure true)
    (hi : PI X tg iter (tZI X W (srcR (run P n) s es))) (ok : BlkOk X.N X.env.scope scope own) (hown : own.map (·.2) = patL p)
    (hg : ∀ (s : Shared) (H : Hp) (C : Addr) (cl : List (Str × Addr)) (fp : List Addr), PG (X.blk s H scope (compEnvC scope cl C X.env) fp) tg (tZG X p))
    (ht : ∀ (s : Shared) (H : Hp) (C : Addr) (cl : List (Str × Addr)) (fp : List Addr), PTs (X.blk s H scope (compEnvC scope cl C X.env) fp) ifs (tZB X W0 (evC (run P n) c)))
    (he : ∀ (s : Shared) (H : Hp) (C : Addr) (cl : List (Str × Addr)) (fp : List Addr), PE (X.blk s H scope (compEnvC scope cl C X.env) fp) e' (tZ false (frE elt) X W0 (evE (run P n) false elt)))
    (hs : ∀ x, foldedSetIterable iter X.env x = pure x) :
    PS X (.Assign [.Name y py] (.ListComp e' [⟨tg, iter, ifs, 0⟩] scope pos) spos) (tAsg (tZ false true X W (evE (run P n) false (.comp elt p s es c))) (gName i)) := by
  have q := ps_setLc (pos := pos) (spos := spos) (py := py) C.calm C.nd hy hyl hsw hi ok hg ht he hs
  exact ⟨fun pins s' σ H Q I h => q.run pins s' σ H Q I (by rw [hown]; exact comp_tlc h)⟩
end
end Z

set_option maxRecDepth 100000
/-! Z, part 11b: dicts that are walked: locked the while. -/
namespace Z
open PySem L2 PyProof.Rows
open Classical
def isDO : HO → Bool
  | .dK _ => true
  | .dT _ => true
  | _ => false
theorem isDO_nT {u : HO} (h : isDO u = true) : nT u := fun xs e => by subst e; cases h
theorem isDO_mut {u : HO} (h : isDO u = true) : Mut (some u) := by
  cases u <;> first | (cases h; done) | trivial
/-- dicts may be locked or unlocked on the way -/
def LeR (G H : Hp) : Prop := ∀ a o, G a = some o → H a = some o ∨ ∃ od u, isDO u = true ∧ ((o = u ∧ H a = some (.frz od u)) ∨ (o = .frz od u ∧ H a = some u))
theorem LeR.of {G H : Hp} (h : Le G H) : LeR G H := fun a o e => .inl (h a o e)
theorem LeR.sub {G H : Hp} {p p' : Addr → Prop} (h : LeR G H) (hp : ∀ a, p' a → p a) : LeR (sub G p) (sub H p') := fun a o e => by
  obtain ⟨e1, e2⟩ := sub_some e
  rw [sub_at (fun z => e2 (hp a z))]
  exact h a o e1
theorem LeR.tup {G H : Hp} (h : LeR G H) {a : Addr} {xs : List V} (e : G a = some (.tup xs)) : H a = some (.tup xs) := by
  rcases h a _ e with q | ⟨od, u, q1, ⟨rfl, _⟩ | ⟨q2, _⟩⟩
  · exact q
  · cases q1
  · cases q2
theorem LeR.lst {G H : Hp} (h : LeR G H) {a : Addr} {xs : List V} (e : G a = some (.lst xs)) : H a = some (.lst xs) := by
  rcases h a _ e with q | ⟨od, u, q1, ⟨rfl, _⟩ | ⟨q2, _⟩⟩
  · exact q
  · cases q1
  · cases q2
theorem LeR.rdL {G H : Hp} (h : LeR G H) {a : Addr} {xs : List V} (r : Rd G a (.lst xs)) : Rd H a (.lst xs) := by
  rcases r with r | ⟨o, r⟩
  · exact .inl (h.lst r)
  · rcases h a _ r with q | ⟨od, u, q1, ⟨q2, _⟩ | ⟨q2, _⟩⟩
    · exact .inr ⟨o, q⟩
    · rw [← q2] at q1; cases q1
    · cases q2; cases q1
theorem LeR.rdD {G H : Hp} (h : LeR G H) {a : Addr} {u : HO} (hu : isDO u = true) (r : Rd G a u) : Rd H a u := by
  rcases r with r | ⟨o, r⟩
  · rcases h a _ r with q | ⟨od, v, q1, ⟨rfl, q⟩ | ⟨q2, q⟩⟩
    · exact .inl q
    · exact .inr ⟨_, q⟩
    · rw [q2] at hu; cases hu
  · rcases h a _ r with q | ⟨od, v, q1, ⟨q2, _⟩ | ⟨q2, q⟩⟩
    · exact .inr ⟨o, q⟩
    · rw [← q2] at q1; cases q1
    · cases q2; exact .inl q
theorem LeR.sqL {G H : Hp} {K : Frg} (h : LeR G H) {a : Addr} {xs : List V} (r : SqL K G a xs) : SqL K H a xs := by
  rcases r with r | r
  · exact .inl (h.rdL r)
  · exact .inr r
mutual
theorem Den.monoR {K : Frg} {G H : Hp} (h : LeR G H) : ∀ (d : D) (v : V), Den K G d v → Den K H d v
  | .non, _, x => x
  | .bl _, _, x => x
  | .int _, _, x => x
  | .str _, _, x => x
  | .tup ds, v, x => by
    simp only [Den] at x ⊢
    obtain ⟨a, vs, e, g, l⟩ := x
    exact ⟨a, vs, e, h.tup g, DenL.monoR h ds vs l⟩
  | .lst ds, v, x => by
    simp only [Den] at x ⊢
    obtain ⟨a, vs, e, g, l⟩ := x
    exact ⟨a, vs, e, h.lst g, DenL.monoR h ds vs l⟩
  | .fls ds, v, x => by
    simp only [Den] at x ⊢
    obtain ⟨a, vs, e, g, l⟩ := x
    exact ⟨a, vs, e, h.sqL g, DenL.monoR h ds vs l⟩
  | .dic false kvs, v, x => by
    simp only [Den] at x ⊢
    obtain ⟨a, ks, e, g, l⟩ := x
    exact ⟨a, ks, e, h.rdD rfl g, DenK.monoR h kvs ks l⟩
  | .dic true kvs, v, x => by
    simp only [Den] at x ⊢
    obtain ⟨a, ks, e, g, l⟩ := x
    exact ⟨a, ks, e, h.rdD rfl g, DenT.monoR h kvs ks l⟩
theorem DenL.monoR {K : Frg} {G H : Hp} (h : LeR G H) : ∀ (ds : List D) (vs : List V), DenL K G ds vs → DenL K H ds vs
  | [], _, x => x
  | d :: ds, vs, x => by
    simp only [DenL] at x ⊢
    obtain ⟨v, r, e, g, l⟩ := x
    exact ⟨v, r, e, Den.monoR h d v g, DenL.monoR h ds r l⟩
theorem DenK.monoR {K : Frg} {G H : Hp} (h : LeR G H) : ∀ (ds : List (D × D)) (vs : List (Key × V)), DenK K G ds vs → DenK K H ds vs
  | [], _, x => x
  | (k, d) :: ds, vs, x => by
    simp only [DenK] at x ⊢
    obtain ⟨q, v, r, e, g, g2, l⟩ := x
    exact ⟨q, v, r, e, g, Den.monoR h d v g2, DenK.monoR h ds r l⟩
theorem DenT.monoR {K : Frg} {G H : Hp} (h : LeR G H) : ∀ (ds : List (D × D)) (vs : List (List Key × V)), DenT K G ds vs → DenT K H ds vs
  | [], _, x => x
  | (k, d) :: ds, vs, x => by
    simp only [DenT] at x ⊢
    obtain ⟨q, v, r, e, g, g2, l⟩ := x
    exact ⟨q, v, r, e, g, Den.monoR h d v g2, DenT.monoR h ds r l⟩
end
theorem Cont.monoR {K : Frg} {H H' G G' : Hp} {a : Addr} (h : LeR G G') (e : ∀ o, H a = Option.some o → H' a = Option.some o) : ∀ {d : D}, Cont K H G d a → Cont K H' G' d a
  | .lst ds, ⟨vs, x, y⟩ => ⟨vs, e _ x, DenL.monoR h _ _ y⟩
  | .dic false kvs, ⟨ks, x, y⟩ => ⟨ks, e _ x, DenK.monoR h _ _ y⟩
  | .dic true kvs, ⟨ks, x, y⟩ => ⟨ks, e _ x, DenT.monoR h _ _ y⟩
/-- the dict at a is locked -/
theorem leR_lock {H : Hp} {a : Addr} {od : Obj} {u : HO} (hu : isDO u = true) (h : H a = some u) : LeR H (upd H a (.frz od u)) := fun b o e => by
  by_cases hb : b = a
  · subst hb
    rw [h] at e; cases e
    exact .inr ⟨od, u, hu, .inl ⟨rfl, upd_same⟩⟩
  · exact .inl (by rw [upd_ne hb]; exact e)
theorem leR_free {H : Hp} {a : Addr} {od : Obj} {u : HO} (hu : isDO u = true) (h : H a = some (.frz od u)) : LeR H (upd H a u) := fun b o e => by
  by_cases hb : b = a
  · subst hb
    rw [h] at e; cases e
    exact .inr ⟨od, u, hu, .inr ⟨rfl, upd_same⟩⟩
  · exact .inl (by rw [upd_ne hb]; exact e)
section
variable {K : Frg} {F : Addr → Prop} {H₀ H : Hp} {ρ : Rho} {σ : St}
theorem SR.re (S : SR K F H₀ H ρ σ) {H₀' H' : Hp} (hl : LeR H H') (ho : ∀ a o, Own ρ σ a → H a = some o → H' a = some o) (hf : ∀ a, F a → ∃ o, H' a = some o ∧ nT o) (he : Le H₀' H') (hn : ∀ a, Own ρ σ a → H₀' a = none) : SR K F H₀' H' ρ σ where
  len := S.len
  ext := he
  fF := hf
  sl := fun i d e => let ⟨v, h1, h2⟩ := S.sl i d e; ⟨v, h1, Den.monoR (hl.sub fun _ z => z) _ _ h2⟩
  ow := fun i d e => let ⟨a, h1, h2, h3, h4⟩ := S.ow i d e; ⟨a, h1, hn a ⟨i, d, e, h1⟩, h3, h4.monoR (hl.sub fun _ z => z) fun o q => ho a o ⟨i, d, e, h1⟩ q⟩
  inj := S.inj
/-- .. is locked: nobody owns it -/
theorem SR.lock (S : SR K F H₀ H ρ σ) {a : Addr} {od : Obj} {u : HO} (hu : isDO u = true) (h : Gz F ρ σ H a = some u) : SR K F (sub (upd H a (.frz od u)) (Own ρ σ)) (upd H a (.frz od u)) ρ σ := by
  obtain ⟨h1, h2⟩ := sub_some h
  refine S.re (leR_lock hu h1) (fun b o z e => ?_) (fun b z => ?_) sub_le fun b z => if_pos z
  · rw [upd_ne (fun q => h2 (.inr (by rw [← q]; exact z)))]; exact e
  · obtain ⟨o, e, n⟩ := S.fF b z
    exact ⟨o, by rw [upd_ne (fun q => h2 (.inl (by rw [← q]; exact z)))]; exact e, n⟩
theorem gz_none {a : Addr} {u : HO} (h : Gz F ρ σ H a = some u) : ¬ F a ∧ ¬ Own ρ σ a ∧ H a = some u := by
  obtain ⟨h1, h2⟩ := sub_some h
  exact ⟨fun z => h2 (.inl z), fun z => h2 (.inr z), h1⟩
end
/-! ### what a locked dict hands out -/
theorem kD_den {K : Frg} {G : Hp} {k : D} {q : Key} (h : kD k = some q) : Den K G k (kV q) := by
  cases k <;> simp only [kD] at h <;> first | (cases h; done) | skip
  all_goals
    cases h
    simp [Den, kV]
theorem DenK.at {K : Frg} {G : Hp} : ∀ {kvs : List (D × D)} {ks : List (Key × V)} {i : Nat} {k d : D}, DenK K G kvs ks → kvs[i]? = some (k, d) → ∃ q v, ks[i]? = some (q, v) ∧ kD k = some q ∧ Den K G d v
  | [], _, _, _, _, _, h => by simp at h
  | (k, d) :: kvs, ks, 0, k', d', x, h => by
    simp only [DenK] at x
    obtain ⟨q, v, r, e, g, g2, l⟩ := x
    simp at h
    obtain ⟨rfl, rfl⟩ := h
    subst e
    exact ⟨q, v, rfl, g, g2⟩
  | (k, d) :: kvs, ks, i + 1, k', d', x, h => by
    simp only [DenK] at x
    obtain ⟨q, v, r, e, g, g2, l⟩ := x
    subst e
    obtain ⟨q, v, h1, h2, h3⟩ := DenK.at (i := i) l (by simpa using h)
    exact ⟨q, v, by simpa using h1, h2, h3⟩
theorem DenT.at {K : Frg} {G : Hp} : ∀ {kvs : List (D × D)} {ks : List (List Key × V)} {i : Nat} {k d : D}, DenT K G kvs ks → kvs[i]? = some (k, d) → ∃ q v, ks[i]? = some (q, v) ∧ tkD k = some q ∧ Den K G d v
  | [], _, _, _, _, _, h => by simp at h
  | (k, d) :: kvs, ks, 0, k', d', x, h => by
    simp only [DenT] at x
    obtain ⟨q, v, r, e, g, g2, l⟩ := x
    simp at h
    obtain ⟨rfl, rfl⟩ := h
    subst e
    exact ⟨q, v, rfl, g, g2⟩
  | (k, d) :: kvs, ks, i + 1, k', d', x, h => by
    simp only [DenT] at x
    obtain ⟨q, v, r, e, g, g2, l⟩ := x
    subst e
    obtain ⟨q, v, h1, h2, h3⟩ := DenT.at (i := i) l (by simpa using h)
    exact ⟨q, v, by simpa using h1, h2, h3⟩
theorem map1_get {kvs : List (D × D)} {i : Nat} {d : D} (h : (kvs.map (·.1))[i]? = some d) : ∃ x, kvs[i]? = some (d, x) := by
  rw [List.getElem?_map] at h
  cases e : kvs[i]? with
  | none => rw [e] at h; cases h
  | some p =>
    rw [e] at h
    cases h
    exact ⟨p.2, rfl⟩
theorem srv_keys {K : Frg} {B : Hp} {a : Addr} {o : Obj} {kvs : List (D × D)} {ks : List (Key × V)} (h : B a = some (.frz o (.dK ks))) (l : DenK K B kvs ks) : Srv K (Itk a o ks) B (kvs.map (·.1)) := fun i H q kn lb => by
  have hs : H a = some (.frz o (.dK ks)) := (lb.trans sub_le) _ _ h
  have hlen := l.length
  refine ⟨fun d hd => ?_, fun hl => ⟨hs, by rw [hlen]; simpa using hl⟩⟩
  obtain ⟨x, hx⟩ := map1_get hd
  obtain ⟨k, v, e1, e2, e3⟩ := l.at hx
  refine ⟨⟨hs, (List.getElem?_eq_some_iff.mp e1).1⟩, fun w H' y => ?_⟩
  obtain ⟨rfl, k', v', e, rfl⟩ := y
  rw [e1] at e; cases e
  exact ⟨Le.refl _, kD_den e2⟩
theorem srv_keysT {K : Frg} {B : Hp} {a : Addr} {o : Obj} {kvs : List (D × D)} {ks : List (List Key × V)} (h : B a = some (.frz o (.dT ks))) (l : DenT K B kvs ks) : Srv K (Itkt a o ks) B (kvs.map (·.1)) := fun i H q kn lb => by
  have hs : H a = some (.frz o (.dT ks)) := (lb.trans sub_le) _ _ h
  have hlen := l.length
  refine ⟨fun d hd => ?_, fun hl => ⟨hs, by rw [hlen]; simpa using hl⟩⟩
  obtain ⟨x, hx⟩ := map1_get hd
  obtain ⟨k, v, e1, e2, e3⟩ := l.at hx
  refine ⟨⟨hs, (List.getElem?_eq_some_iff.mp e1).1⟩, fun w H' y => ?_⟩
  obtain ⟨rfl, k', v', q', e, rfl, hq⟩ := y
  rw [e1] at e; cases e
  refine ⟨Le.refl _, ?_⟩
  obtain ⟨ns, rfl, rfl⟩ := tkD_tup e2
  simp only [Den]
  refine ⟨q', ns.map V.int, rfl, ?_, DenL.of_ints ns⟩
  rw [sub_at (fun z => by obtain ⟨o, e, n⟩ := kn q' z; rw [hq] at e; cases e; exact n _ rfl), hq]
  congr 2
  rw [List.map_map]
  rfl
theorem srv_items {K : Frg} {B : Hp} {a : Addr} {o : Obj} {kvs : List (D × D)} {ks : List (Key × V)} (h : B a = some (.frz o (.dK ks))) (l : DenK K B kvs ks) : Srv K (Iti a o ks) B (kvs.map fun p => .tup [p.1, p.2]) := fun i H q kn lb => by
  have hs : H a = some (.frz o (.dK ks)) := (lb.trans sub_le) _ _ h
  have hlen := l.length
  refine ⟨fun d hd => ?_, fun hl => ⟨hs, by rw [hlen]; simpa using hl⟩⟩
  rw [List.getElem?_map] at hd
  cases hx : kvs[i]? with
  | none => rw [hx] at hd; cases hd
  | some p =>
    rw [hx] at hd
    cases hd
    obtain ⟨k, v, e1, e2, e3⟩ := l.at (k := p.1) (d := p.2) hx
    refine ⟨⟨hs, (List.getElem?_eq_some_iff.mp e1).1⟩, fun w H' y => ?_⟩
    obtain ⟨T, k', v', e, rfl, hT, rfl⟩ := y
    rw [e1] at e; cases e
    refine ⟨Le.upd hT, ?_⟩
    simp only [Den, DenL]
    exact ⟨T, _, rfl, by rw [sub_at (kn.no hT)]; exact upd_same, _, _, rfl, kD_den e2, _, _, rfl, Den.mono (lb.trans (sub_grow (Le.upd hT))) _ _ e3, rfl⟩
/-! ### the walk of a new dict: locked for good -/
section
variable {X : Cx} {tg : Expr}
def iKeysL (td : TE) : TI := fun σ H R => td σ H fun x H1 => ∃ d, x = .ref d ∧ ((∃ kvs, H1 d = some (.dK kvs) ∧ ∀ o, R (Itk d o kvs) (upd H1 d (.frz o (.dK kvs)))) ∨ ∃ kvs, H1 d = some (.dT kvs) ∧ ∀ o, R (Itkt d o kvs) (upd H1 d (.frz o (.dT kvs))))
theorem pi_keysL {e : Expr} {td : TE} (he : PE X e td) : PI X tg e (iKeysL td) := by
  refine ⟨fun pins s σ H R I h => ?_⟩
  refine thn (he.run pins s σ H _ I h) fun u s1 ⟨x, H1, I0, rx, d, ex, q⟩ => ?_
  subst ex
  obtain rfl : u = Value.ref d := rx
  rcases q with ⟨kvs, hd, q⟩ | ⟨kvs, hd, q⟩
  · obtain ⟨o, I1⟩ := I0.lock hd trivial
    obtain ⟨hs, hgd, hx, es, ep, vs, hdt, hsz, kv, hm⟩ := I1.frzK upd_same
    refine iter_keys hs hgd hx hdt (pi_one (tk := s1.toks) I1 _ (turn_keys _ hdt) ⟨_, Heap.get?_push_size _ rfl, rfl, ?_⟩ (q o))
    rw [hsz] <;> rfl
  · obtain ⟨o, I1⟩ := I0.lock hd trivial
    obtain ⟨hs, hgd, hx, es, ep, hdt, hsz, ent⟩ := I1.frzT upd_same
    refine iter_keys hs hgd hx hdt (pi_one (tk := s1.toks) I1 _ (turn_keysT _ hdt) ⟨_, Heap.get?_push_size _ rfl, rfl, ?_⟩ (q o))
    rw [hsz] <;> rfl
/-- an expression whose dict is locked as soon as it is there -/
def tLk (td : TE) : TE := fun σ H Q => td σ H fun x H1 => ∃ d kvs, x = .ref d ∧ H1 d = some (.dK kvs) ∧ ∀ o, Q x (upd H1 d (.frz o (.dK kvs)))
theorem pe_lk {e : Expr} {td : TE} (he : PE X e td) : PE X e (tLk td) := by
  refine ⟨fun pins s σ H R I h => ?_⟩
  refine thn (he.run pins s σ H _ I h) fun u s1 ⟨x, H1, I0, rx, d, kvs, ex, hd, q⟩ => ?_
  obtain ⟨o, I1⟩ := I0.lock hd trivial
  exact ⟨x, _, I1, rx, q o⟩
variable {P : Prg} {n : Nat} {N : List Str} {sc : Scope} {W : WX}
theorem lock_new {F : Addr → Prop} {H₀ H H1 : Hp} {ρ : Rho} {σ : St} (S : SR X.K F H₀ H ρ σ) (l : Le H H1) {a : Addr} (ha : H a = none) (o : HO) : Le H (upd H1 a o) ∧ Gz F ρ σ (upd H1 a o) a = some o ∧ Le (Z.sub (Gz F ρ σ H1) (· = a)) (Gz F ρ σ (upd H1 a o)) := by
  refine ⟨fun b x e => ?_, by rw [S.gz_new ha]; exact upd_same, fun b x e => ?_⟩
  · rw [upd_ne (ne_of_none e ha)]; exact l _ _ e
  · obtain ⟨e1, e2⟩ := sub_some e
    obtain ⟨e3, e4⟩ := sub_some e1
    unfold Gz
    rw [sub_at e4, upd_ne e2]
    exact e3
theorem i_keysF {e : Expr} {ie : E} (hf : frE ie = true) (he : PE X e (tZ false (frE ie) X W (evE (run P n) false ie))) : PI X tg e (tZI X W (srcR (run P n) .keys [ie])) := by
  have q := pi_keysL (tg := tg) he
  refine ⟨fun pins s σ H Q I ⟨F, H₀, ρ, S, h⟩ => q.run pins s σ H Q I ?_⟩
  simp only [srcR, evL] at h
  cases hr : evE (run P n) false ie ρ with
  | exc c fs => rw [hr] at h; exact ⟨F, H₀, ρ, S, by rw [hr]; exact h⟩
  | bad => rw [hr] at h; exact h.elim
  | ok d =>
    rw [hr] at h
    obtain ⟨xs, hx, h⟩ := prI h
    refine ⟨F, H₀, ρ, S, by
      rw [hr]
      refine fun v H1 l t0 => ?_
      have t : ResD (frE ie) X.K H H1 (Gz F ρ σ H1) d v := t0
      clear t0
      cases d <;> simp only [srcD] at hx <;> first | (cases hx; done) | skip
      rename_i t' kvs
      cases hx
      obtain ⟨a, rfl, hn, c⟩ := t.2 hf rfl
      refine ⟨a, rfl, ?_⟩
      cases t' with
      | false =>
        obtain ⟨ks, g, dk⟩ := c
        refine .inl ⟨ks, g, fun o => ?_⟩
        obtain ⟨l1, l2, l3⟩ := lock_new (F := F) (H₀ := H₀) (ρ := ρ) (σ := σ) S l hn (.frz o (.dK ks))
        exact h _ _ l1 (srv_keys l2 (DenK.mono l3 _ _ dk))
      | true =>
        obtain ⟨ks, g, dk⟩ := c
        refine .inr ⟨ks, g, fun o => ?_⟩
        obtain ⟨l1, l2, l3⟩ := lock_new (F := F) (H₀ := H₀) (ρ := ρ) (σ := σ) S l hn (.frz o (.dT ks))
        exact h _ _ l1 (srv_keysT l2 (DenT.mono l3 _ _ dk))⟩
theorem i_itemsF {e : Expr} {ie : E} {elts : List Expr} {kk : Nat} {tpos apos cpos : Pos} (hf : frE ie = true) (hbase : attributeBase e "items" X.env (eval e X.env) = eval e X.env) (hline : (apos.endLine == cpos.line) = true) (he : PE X e (tZ false (frE ie) X W (evE (run P n) false ie))) :
    PI X (.Tuple elts kk tpos) (.Call (.Attribute e "items" apos) [] [] cpos) (tZI X W (srcR (run P n) .items [ie])) := by
  have q := pi_items (elts := elts) (kk := kk) (tpos := tpos) (apos := apos) (cpos := cpos) (pe_lk he) hbase hline
  refine ⟨fun pins s σ H Q I ⟨F, H₀, ρ, S, h⟩ => q.run pins s σ H Q I ?_⟩
  simp only [srcR, evL] at h
  cases hr : evE (run P n) false ie ρ with
  | exc c fs => rw [hr] at h; exact ⟨F, H₀, ρ, S, by rw [hr]; exact h⟩
  | bad => rw [hr] at h; exact h.elim
  | ok d =>
    rw [hr] at h
    obtain ⟨xs, hx, h⟩ := prI h
    refine ⟨F, H₀, ρ, S, by
      rw [hr]
      refine fun v H1 l t0 => ?_
      have t : ResD (frE ie) X.K H H1 (Gz F ρ σ H1) d v := t0
      clear t0
      cases d <;> simp only [srcD] at hx <;> first | (cases hx; done) | skip
      rename_i t' kvs
      obtain ⟨a, rfl, hn, c⟩ := t.2 hf rfl
      cases t' with
      | false =>
        cases hx
        obtain ⟨ks, g, dk⟩ := c
        refine ⟨a, ks, rfl, g, fun o => ?_⟩
        obtain ⟨l1, l2, l3⟩ := lock_new (F := F) (H₀ := H₀) (ρ := ρ) (σ := σ) S l hn (.frz o (.dK ks))
        exact ⟨a, o, ks, rfl, upd_same, h _ _ l1 (srv_items l2 (DenK.mono l3 _ _ dk))⟩
      | true => cases hx⟩
/-! ### the walk of a name's dict: locked the while -/
def FZ (i : Nat) : St → Hp → Prop := fun σ H => ∃ a o u, σ[i]? = some (some (V.ref a)) ∧ H a = some (.frz o u) ∧ isDO u = true
def tZIf (i : Nat) (X : Cx) (W : WX) (r : Rho → R (List D)) : TI := fun σ H Q => FZ i σ H ∧ tZI X W r σ H Q
theorem rget_none {C : Calls} {i : Nat} {ρ : Rho} {d : D} (h : evE C false (.var i) ρ = .ok d) : ρ[i]? = some (some (false, d)) := by
  simp only [evE] at h
  obtain ⟨p, h1, h2⟩ := bind_some h
  obtain ⟨h3, h4⟩ := gd_ok h2
  cases h4
  have h3 : p.1 = false := h3.resolve_left (by simp)
  unfold rget at h1
  split at h1
  · rename_i q e
    cases h1
    rw [e, ← h3]
  · cases h1
theorem dic_of {K : Frg} {F : Addr → Prop} {H₀ H : Hp} {ρ : Rho} {σ : St} (S : SR K F H₀ H ρ σ) {i : Nat} {t : Bool} {kvs : List (D × D)} (h : ρ[i]? = some (some (false, .dic t kvs))) : ∃ a u, σ[i]? = some (some (V.ref a)) ∧ isDO u = true ∧ Rd (Gz F ρ σ H) a u ∧
    ((t = false ∧ ∃ ks, u = .dK ks ∧ DenK K (Gz F ρ σ H) kvs ks) ∨ (t = true ∧ ∃ ks, u = .dT ks ∧ DenT K (Gz F ρ σ H) kvs ks)) := by
  obtain ⟨v, h1, h2⟩ := S.sl i _ h
  cases t with
  | false =>
    simp only [Den] at h2
    obtain ⟨a, ks, rfl, g, l⟩ := h2
    exact ⟨a, _, h1, rfl, g, .inl ⟨rfl, ks, rfl, l⟩⟩
  | true =>
    simp only [Den] at h2
    obtain ⟨a, ks, rfl, g, l⟩ := h2
    exact ⟨a, _, h1, rfl, g, .inr ⟨rfl, ks, rfl, l⟩⟩
theorem rd_frz {G H : Hp} (l : Le G H) {a : Addr} {u u' : HO} {o : Obj} (r : Rd G a u) (hu : isDO u = true) (h : H a = some (.frz o u')) : u = u' ∧ G a = some (.frz o u) := by
  rcases r with r | ⟨o', r⟩
  · have := l _ _ r
    rw [h] at this
    cases this
    cases hu
  · have := l _ _ r
    rw [h] at this
    cases this
    exact ⟨rfl, r⟩
theorem i_keysN {i : Nat} {nm : Str} {p : Pos} (C : Cok P n X sc N W) (hN : N[i]? = some nm) (hv : visC sc nm = true) (hn : nmOk nm = true) : PI X tg (.Name nm p) (tZIf i X W (srcR (run P n) .keys [.var i])) := by
  obtain ⟨n1, n2, n3⟩ := nmOk_ne hn
  have q := pi_keys (tg := tg) (pe_var (X := X) (i := i) (pos := p) (by rw [C.N]; exact hN) (by rw [C.sc]; exact visC_vis hv) n1 n2)
  refine ⟨fun pins s σ H Q I ⟨fz, F, H₀, ρ, S, h⟩ => q.run pins s σ H Q I ?_⟩
  simp only [srcR, evL] at h
  obtain ⟨a, o, u, e1, e2, hu⟩ := fz
  refine ⟨.ref a, e1, ?_⟩
  cases hr : evE (run P n) false (.var i) ρ with
  | exc c fs => simp only [evE, rget] at hr; split at hr <;> first | (cases hr; done) | (simp only [bind_ok, gd] at hr; split at hr <;> cases hr)
  | bad => rw [hr] at h; exact h.elim
  | ok d =>
    rw [hr] at h
    obtain ⟨xs, hx, h⟩ := prI h
    cases d <;> simp only [srcD] at hx <;> first | (cases hx; done) | skip
    rename_i t' kvs
    cases hx
    obtain ⟨a', u', f1, f2, f3, f4⟩ := dic_of S (rget_none hr)
    rw [e1] at f1; cases f1
    obtain ⟨rfl, f5⟩ := rd_frz Gz_le f3 f2 e2
    refine ⟨a, o, rfl, ?_⟩
    rcases f4 with ⟨rfl, ks, rfl, dk⟩ | ⟨rfl, ks, rfl, dk⟩
    · exact .inl ⟨ks, e2, h _ _ (Le.refl _) (srv_keys f5 dk)⟩
    · exact .inr ⟨ks, e2, h _ _ (Le.refl _) (srv_keysT f5 dk)⟩
theorem i_itemsN {i : Nat} {nm : Str} {p : Pos} {elts : List Expr} {kk : Nat} {tpos apos cpos : Pos} (C : Cok P n X sc N W) (hN : N[i]? = some nm) (hv : visC sc nm = true) (hn : nmOk nm = true) (hline : (apos.endLine == cpos.line) = true) :
    PI X (.Tuple elts kk tpos) (.Call (.Attribute (.Name nm p) "items" apos) [] [] cpos) (tZIf i X W (srcR (run P n) .items [.var i])) := by
  obtain ⟨n1, n2, n3⟩ := nmOk_ne hn
  have q := pi_items (elts := elts) (kk := kk) (tpos := tpos) (apos := apos) (cpos := cpos) (pe_var (X := X) (i := i) (pos := p) (by rw [C.N]; exact hN) (by rw [C.sc]; exact visC_vis hv) n1 n2) rfl hline
  refine ⟨fun pins s σ H Q I ⟨fz, F, H₀, ρ, S, h⟩ => q.run pins s σ H Q I ?_⟩
  simp only [srcR, evL] at h
  obtain ⟨a, o, u, e1, e2, hu⟩ := fz
  refine ⟨.ref a, e1, ?_⟩
  cases hr : evE (run P n) false (.var i) ρ with
  | exc c fs => simp only [evE, rget] at hr; split at hr <;> first | (cases hr; done) | (simp only [bind_ok, gd] at hr; split at hr <;> cases hr)
  | bad => rw [hr] at h; exact h.elim
  | ok d =>
    rw [hr] at h
    obtain ⟨xs, hx, h⟩ := prI h
    cases d <;> simp only [srcD] at hx <;> first | (cases hx; done) | skip
    rename_i t' kvs
    cases t' <;> simp only at hx <;> first | (cases hx; done) | skip
    all_goals
      cases hx
      obtain ⟨a', u', f1, f2, f3, f4⟩ := dic_of S (rget_none hr)
      rw [e1] at f1; cases f1
      obtain ⟨rfl, f5⟩ := rd_frz Gz_le f3 f2 e2
    rcases f4 with ⟨_, ks, rfl, dk⟩ | ⟨q, _⟩
    · exact ⟨a, o, ks, rfl, e2, h _ _ (Le.refl _) (srv_items f5 dk)⟩
    · cases q
/-! a comprehension over a name's dict -/
theorem thaw_E {r : R D} {F : Addr → Prop} {H₀ H : Hp} {ρ : Rho} {σ : St} {Q : VK} (hr : ∀ c fs, r ≠ .exc c fs) {a : Addr} {u : HO} (hu : isDO u = true) (hg : Gz F ρ σ H a = some u) (h : PostE false true X F ρ σ W H Q r) (od : Obj) :
    PostE false true X F ρ σ W (upd H a (.frz od u)) (fun v H' => H' a = some (.frz od u) ∧ Q v (upd H' a u)) r := by
  have ha := (gz_none hg).2.2
  cases r with
  | bad => exact h.elim
  | exc c fs => exact (hr c fs rfl).elim
  | ok d =>
    intro v H' l t
    have e1 : H' a = some (.frz od u) := l _ _ upd_same
    refine ⟨e1, h v _ (fun b o e => ?_) ?_⟩
    · by_cases hb : b = a
      · subst hb
        rw [ha] at e; cases e
        exact upd_same
      · rw [upd_ne hb]
        exact l _ _ (by rw [upd_ne hb]; exact e)
    · have t : ResD true X.K (upd H a (.frz od u)) H' (Gz F ρ σ H') d v := t
      show ResD true X.K H (upd H' a u) (Gz F ρ σ (upd H' a u)) d v
      have lr : LeR (Gz F ρ σ H') (Gz F ρ σ (upd H' a u)) := (leR_free hu e1).sub fun _ z => z
      refine ⟨Den.monoR lr _ _ t.1, fun z c => ?_⟩
      obtain ⟨b, rfl, h1, h2⟩ := t.2 z c
      have hb : b ≠ a := fun q => by rw [q, upd_same] at h1; cases h1
      rw [upd_ne hb] at h1
      exact ⟨b, rfl, h1, h2.monoR (lr.sub fun _ z => z) fun o e => by rw [upd_ne hb]; exact e⟩
def isKI : Src → Bool
  | .keys => true
  | .items => true
  | _ => false
theorem comp_noexc {C : Calls} {b : Bool} {elt : E} {p : Pat} {s : Src} {i : Nat} {c : Option E} {ρ : Rho} (k : String) (fs : List D) : evE C b (.comp elt p s [.var i] c) ρ ≠ .exc k fs := by
  intro h
  simp only [evE, evL] at h
  cases h1 : rget ρ i with
  | exc c fs => unfold rget at h1; split at h1 <;> cases h1
  | bad => rw [h1] at h; cases h
  | ok p =>
    rw [h1] at h
    simp only [bind_ok] at h
    by_cases hg : (false = true ∨ p.1 = false)
    · rw [gd_pos hg] at h
      simp only [bind_ok, pure_R] at h
      cases h2 : srcD s [p.2] with
      | exc c fs => rw [h2] at h; cases h
      | bad => rw [h2] at h; cases h
      | ok xs =>
        rw [h2] at h
        simp only [pr_ok, bind_ok] at h
        revert h
        generalize compL _ xs = q
        intro h
        cases q with
        | exc c fs => cases h
        | bad => cases h
        | ok ys =>
          simp only [pr_ok, bind_ok] at h
          unfold gd at h
          split at h <;> cases h
    · rw [gd_neg hg] at h; cases h
theorem src_dic {s : Src} {d : D} {xs : List D} (hs : isKI s = true) (h : srcD s [d] = .ok xs) : ∃ t kvs, d = .dic t kvs := by
  cases s <;> simp only [isKI] at hs <;> first | (cases hs; done) | skip
  all_goals
    cases d <;> simp only [srcD] at h <;> first | (cases h; done) | exact ⟨_, _, rfl⟩
theorem comp_dic {C : Calls} {b : Bool} {elt : E} {p : Pat} {s : Src} {i : Nat} {c : Option E} {ρ : Rho} {d : D} (hs : isKI s = true) (h : evE C b (.comp elt p s [.var i] c) ρ = .ok d) : ∃ t kvs, ρ[i]? = some (some (false, .dic t kvs)) := by
  simp only [evE, evL] at h
  obtain ⟨ds, h1, h2⟩ := bind_some h
  obtain ⟨d1, h3, h4⟩ := bind_some h1
  obtain ⟨_, h5, h6⟩ := bind_some h4
  cases h5; cases h6
  obtain ⟨xs, h7, _⟩ := bind_some h2
  have h7 : srcD s [d1] = .ok xs := by
    cases q : srcD s [d1] with
    | ok x => rw [q] at h7; cases h7; rfl
    | exc c fs => rw [q] at h7; cases h7
    | bad => rw [q] at h7; cases h7
  obtain ⟨t, kvs, rfl⟩ := src_dic hs h7
  refine ⟨t, kvs, rget_none (C := C) ?_⟩
  simp only [evE]
  exact h3
/-- the dict stands, locked or not -/
theorem lock_cases {F : Addr → Prop} {H₀ H : Hp} {ρ : Rho} {σ : St} (S : SR X.K F H₀ H ρ σ) {i : Nat} {t : Bool} {kvs : List (D × D)} (h : ρ[i]? = some (some (false, .dic t kvs))) :
    FZ i σ H ∨ ∃ a u, σ[i]? = some (some (V.ref a)) ∧ isDO u = true ∧ Gz F ρ σ H a = some u := by
  obtain ⟨a, u, f1, f2, f3, _⟩ := dic_of S h
  rcases f3 with f3 | ⟨o, f3⟩
  · exact .inr ⟨a, u, f1, f2, f3⟩
  · exact .inl ⟨a, o, u, f1, Gz_le _ _ f3, f2⟩
theorem s_compN {b : Bool} {elt : E} {p : Pat} {s : Src} {i : Nat} {c : Option E} {e' tg iter : Expr} {ifs : List Expr} {scope : Scope} {pos : Pos} {own : List (Str × Nat)} (C : Cok P n X sc N W) (hk : isKI s = true)
    (hi : PI X tg iter (tZIf i X W (srcR (run P n) s [.var i]))) (ok : BlkOk X.N X.env.scope scope own) (hown : own.map (·.2) = patL p)
    (hg : ∀ (s : Shared) (H : Hp) (C : Addr) (cl : List (Str × Addr)) (fp : List Addr), PG (X.blk s H scope (compEnvC scope cl C X.env) fp) tg (tZG X p))
    (ht : ∀ (s : Shared) (H : Hp) (C : Addr) (cl : List (Str × Addr)) (fp : List Addr), PTs (X.blk s H scope (compEnvC scope cl C X.env) fp) ifs (tZB X W0 (evC (run P n) c)))
    (he : ∀ (s : Shared) (H : Hp) (C : Addr) (cl : List (Str × Addr)) (fp : List Addr), PE (X.blk s H scope (compEnvC scope cl C X.env) fp) e' (tZ false (frE elt) X W0 (evE (run P n) false elt)))
    (hs : ∀ x, foldedSetIterable iter X.env x = pure x) :
    PE X (.ListComp e' [⟨tg, iter, ifs, 0⟩] scope pos) (tZ b true X W (evE (run P n) b (.comp elt p s [.var i] c))) := by
  have q := pe_lc (pos := pos) C.calm C.nd hi ok hg ht he hs
  have q0 : PE X (.ListComp e' [⟨tg, iter, ifs, 0⟩] scope pos) (fun σ H Q => FZ i σ H ∧ tZ false true X W (evE (run P n) false (.comp elt p s [.var i] c)) σ H Q) :=
    ⟨fun pins s' σ H Q I ⟨fz, h⟩ => q.run pins s' σ H Q I (by rw [hown]; exact ⟨fz, comp_tlc h⟩)⟩
  have q1 := pe_lock q0
  refine ⟨fun pins s' σ H Q I ⟨F, H₀, ρ, S, h⟩ => ?_⟩
  have h : PostE false true X F ρ σ W H Q (evE (run P n) false (.comp elt p s [.var i] c) ρ) := by
    have e : evE (run P n) false (.comp elt p s [.var i] c) ρ = evE (run P n) b (.comp elt p s [.var i] c) ρ := by simp only [evE]
    rw [e]
    cases hr : evE (run P n) b (.comp elt p s [.var i] c) ρ with
    | ok d => rw [hr] at h; exact fun v H' l t => h v H' l (ResE.of Gz_le t)
    | exc c fs => rw [hr] at h; exact h
    | bad => rw [hr] at h; exact h
  cases hr : evE (run P n) false (.comp elt p s [.var i] c) ρ with
  | bad => rw [hr] at h; exact h.elim
  | exc c fs => exact (comp_noexc _ _ hr).elim
  | ok d =>
    obtain ⟨t, kvs, hd⟩ := comp_dic hk hr
    rcases lock_cases S hd with fz | ⟨a, u, f1, f2, f3⟩
    · exact q0.run pins s' σ H Q I ⟨fz, F, H₀, ρ, S, h⟩
    · exact q1.run pins s' σ H Q I ⟨a, u, (gz_none f3).2.2, isDO_mut f2, fun od => ⟨⟨a, od, u, f1, upd_same, f2⟩, F, _, ρ, S.lock f2 f3, thaw_E (H₀ := H₀) (fun c fs e => comp_noexc _ _ e) f2 f3 h od⟩⟩
theorem ps_compN {elt : E} {p : Pat} {s : Src} {j : Nat} {c : Option E} {e' tg iter : Expr} {ifs : List Expr} {scope : Scope} {pos spos py : Pos} {own : List (Str × Nat)} {i : Nat} {y : Str} (C : Cok P n X sc N W) (hk : isKI s = true)
    (hy : X.N[i]? = some y) (hyl : X.env.scope.names.lookup y = some .local) (hsw : swapsWith (.ListComp e' [⟨tg, iter, ifs, 0⟩] scope pos) (some (.Name y py)) spos.line X.env = pure true)
    (hi : PI X tg iter (tZIf j X W (srcR (run P n) s [.var j]))) (ok : BlkOk X.N X.env.scope scope own) (hown : own.map (·.2) = patL p)
    (hg : ∀ (s : Shared) (H : Hp) (C : Addr) (cl : List (Str × Addr)) (fp : List Addr), PG (X.blk s H scope (compEnvC scope cl C X.env) fp) tg (tZG X p))
    (ht : ∀ (s : Shared) (H : Hp) (C : Addr) (cl : List (Str × Addr)) (fp : List Addr), PTs (X.blk s H scope (compEnvC scope cl C X.env) fp) ifs (tZB X W0 (evC (run P n) c)))
    (he : ∀ (s : Shared) (H : Hp) (C : Addr) (cl : List (Str × Addr)) (fp : List Addr), PE (X.blk s H scope (compEnvC scope cl C X.env) fp) e' (tZ false (frE elt) X W0 (evE (run P n) false elt)))
    (hs : ∀ x, foldedSetIterable iter X.env x = pure x) :
    PS X (.Assign [.Name y py] (.ListComp e' [⟨tg, iter, ifs, 0⟩] scope pos) spos) (tAsg (tZ false true X W (evE (run P n) false (.comp elt p s [.var j] c))) (gName i)) := by
  have q := ps_setLc (pos := pos) (spos := spos) (py := py) C.calm C.nd hy hyl hsw hi ok hg ht he hs
  have q0 : PS X (.Assign [.Name y py] (.ListComp e' [⟨tg, iter, ifs, 0⟩] scope pos) spos) (fun Dn σ H => FZ j σ H ∧ tAsg (tZ false true X W (evE (run P n) false (.comp elt p s [.var j] c))) (gName i) Dn σ H) :=
    ⟨fun pins s' σ H Q I ⟨fz, h⟩ => q.run pins s' σ H Q I (by rw [hown]; exact ⟨fz, comp_tlc h⟩)⟩
  have q1 := ps_lock q0
  refine ⟨fun pins s' σ H Dn I ⟨F, H₀, ρ, S, h⟩ => ?_⟩
  cases hr : evE (run P n) false (.comp elt p s [.var j] c) ρ with
  | bad => rw [hr] at h; exact h.elim
  | exc c fs => exact (comp_noexc _ _ hr).elim
  | ok d =>
    obtain ⟨t, kvs, hd⟩ := comp_dic hk hr
    rcases lock_cases S hd with fz | ⟨a, u, f1, f2, f3⟩
    · exact q0.run pins s' σ H Dn I ⟨fz, F, H₀, ρ, S, h⟩
    · exact q1.run pins s' σ H Dn I ⟨a, u, (gz_none f3).2.2, isDO_mut f2, fun od => ⟨⟨a, od, u, f1, upd_same, f2⟩, F, _, ρ, S.lock f2 f3, thaw_E (H₀ := H₀) (fun c fs e => comp_noexc _ _ e) f2 f3 h od⟩⟩
end
end Z

section
set_option maxHeartbeats 4000000
set_option maxRecDepth 100000
namespace Z
open PySem L2 PyProof.Rows
open Classical
theorem callOf_some {sc : Scope} {nm : String} {e : Expr} {xs : List Expr} (h : callOf sc nm e = some xs) : ∃ p pos, e = .Call (.Name (Str.ofString nm) p) xs [] pos ∧ glC sc (Str.ofString nm) = true ∧ nmOk (Str.ofString nm) = true := by
  unfold callOf at h
  split at h
  · split at h
    · rename_i x p args pos q
      simp only [Bool.and_eq_true, beq_iff_eq] at q
      obtain ⟨⟨rfl, q2⟩, q3⟩ := q
      cases h
      exact ⟨p, pos, rfl, q2, q3⟩
    · cases h
  · cases h
theorem TopL.one {K : Frg} {H G : Hp} {d : D} {v : V} (t : Top K H G d v) : TopL K H G [d] [v] := ⟨v, [], rfl, t, rfl⟩
section
variable {P : Prg} {n : Nat} {N : List Str}
/-- a call of a built-in by its name -/
theorem s_bi {X : Cx} {sc : Scope} {W : WX} {b : Bool} {bb : Bi} {es : List E} {nm : String} {x : Expr} {xs : List Expr} {p pos : Pos} (C : Cok P n X sc N W) (hg : glC sc (Str.ofString nm) = true) (hn : nmOk (Str.ofString nm) = true) (hm : nm ∈ bltNames)
    (hv : (∃ id, bootBuiltins (Str.ofString nm) = some (.builtin id) ∧ CallR X (.builtin id) (RF X.K (biD bb))) ∨ ∃ T, bootBuiltins (Str.ofString nm) = some (.type T) ∧ CallR X (.type T) (RF X.K (biD bb)))
    (hl : chkL P N sc es (x :: xs) = true) (ha : PA X (x :: xs) (tZL true X W (evL (run P n) true es))) :
    PE X (.Call (.Name (Str.ofString nm) p) (x :: xs) [] pos) (tZ b true X W (evE (run P n) b (.bi bb es))) := by
  obtain ⟨n1, n2, n3⟩ := nmOk_ne hn
  have hp : plainX x = true := by
    cases es with
    | nil => simp [chkL] at hl
    | cons i is => simp only [chkL, Bool.and_eq_true] at hl; exact chk_plain hl.1
  have st : (backTo pos (starEach xs X.env)).any (·.1) = false := by
    cases es with
    | nil => simp [chkL] at hl
    | cons i is => simp only [chkL, Bool.and_eq_true] at hl; exact stars_any hl.2
  have hgl := glC_gl C.sc hg
  have go : ∀ σ H Q, tZ b true X W (evE (run P n) b (.bi bb es)) σ H Q → tCB (RF X.K (biD bb)) (tZL true X W (evL (run P n) true es)) σ H Q := fun σ H Q ⟨F, H₀, ρ, S, h⟩ => by
    simp only [evE] at h
    refine ⟨F, H₀, ρ, S, stepLE h fun ds vs H1 l t h1 => ?_⟩
    obtain ⟨d, e, h2⟩ := prE h1
    exact ⟨_, ds, d, (S.grow l).kn, t, e, fun v H' l' r => h2.new l' r⟩
  rcases hv with ⟨id, hv, hc⟩ | ⟨T, hv, hc⟩
  · have q := pe_callB (p := p) (pos := pos) hc hgl (C.blt nm hm) hv ha n3 n1 (plain_star hp) st
    exact ⟨fun pins s σ H Q I h => q.run pins s σ H Q I (go σ H Q h)⟩
  · have q := pe_callTy (p := p) (pos := pos) hc hgl (C.blt nm hm) hv ha n3 n1 (plain_star hp) st
    exact ⟨fun pins s σ H Q I h => q.run pins s σ H Q I (go σ H Q h)⟩
theorem blt_at {X : Cx} {sc : Scope} {W : WX} (C : Cok P n X sc N W) : ∀ {bb : Bi} {nm : String}, biNm bb = some nm →
    (∃ id, bootBuiltins (Str.ofString nm) = some (.builtin id) ∧ CallR X (.builtin id) (RF X.K (biD bb))) ∨ ∃ T, bootBuiltins (Str.ofString nm) = some (.type T) ∧ CallR X (.type T) (RF X.K (biD bb)) := by
  intro bb nm h
  cases bb <;> simp only [biNm, Option.some.injEq, reduceCtorEq] at h <;> subst h
  · exact .inl ⟨"len", PySem.boot_len, f_len⟩
  · exact .inl ⟨"sum", by decide +kernel, f_sum C.calm⟩
  · exact .inl ⟨"max", PyProof.Rows.boot_max, f_max C.calm⟩
  · exact .inl ⟨"min", PyProof.Rows.boot_min, f_min C.calm⟩
  · exact .inl ⟨"min", PyProof.Rows.boot_min, f_minT C.hu C.calm⟩
  · exact .inl ⟨"max", PyProof.Rows.boot_max, f_max2 C.calm⟩
  · exact .inl ⟨"min", PyProof.Rows.boot_min, f_min2 C.calm⟩
  · exact .inl ⟨"sorted", by decide +kernel, f_sorted C.hu C.calm⟩
  · exact .inr ⟨"list", PyProof.Rows.boot_list, f_list⟩
  · exact .inr ⟨"tuple", PyProof.Rows.boot_tuple, f_tuple⟩
  · exact .inl ⟨"abs", by decide +kernel, f_abs⟩
  · exact .inr ⟨"int", PyProof.Rows.boot_int, f_int⟩
  · exact .inl ⟨"all", by decide +kernel, f_all C.calm⟩
theorem isi_ty {K : Frg} {G : Hp} {H : Hp} (l : Le G H) (kn : ∀ a ds, SqL K H a ds → TyX K H (.ref a) (.type "list")) : ∀ {d : D} {v : V}, Top K H G d v → (∀ k, d ≠ .dic true k) → ∃ T, TyX K H v (.type T) ∧ ∀ t, kitB T (tyNm t) = some (isiB d t) := by
  intro d v x nd
  cases d with
  | non => simp only [Top, Den] at x; subst x; exact ⟨"NoneType", .base (by constructor), fun t => by cases t <;> (simp only [isiB, tyNm]; decide +kernel)⟩
  | bl b => simp only [Top, Den] at x; subst x; exact ⟨"bool", .base (by constructor), fun t => by cases t <;> (simp only [isiB, tyNm]; decide +kernel)⟩
  | int b => simp only [Top, Den] at x; subst x; exact ⟨"int", .base (by constructor), fun t => by cases t <;> (simp only [isiB, tyNm]; decide +kernel)⟩
  | str b => simp only [Top, Den] at x; subst x; exact ⟨"str", .base (by constructor), fun t => by cases t <;> (simp only [isiB, tyNm]; decide +kernel)⟩
  | tup ds => simp only [Top, Den] at x; obtain ⟨a, vs, rfl, h, _⟩ := x; exact ⟨"tuple", .base (TyOf.tup (l _ _ h)), fun t => by cases t <;> (simp only [isiB, tyNm]; decide +kernel)⟩
  | lst ds => simp only [Top] at x; obtain ⟨a, vs, rfl, h, _⟩ := x; exact ⟨"list", .base (TyOf.lst h), fun t => by cases t <;> (simp only [isiB, tyNm]; decide +kernel)⟩
  | fls ds => simp only [Top, Den] at x; obtain ⟨a, vs, rfl, h, _⟩ := x; exact ⟨"list", kn _ _ (l.sqL h), fun t => by cases t <;> (simp only [isiB, tyNm]; decide +kernel)⟩
  | dic t ds =>
    cases t with
    | true => exact (nd ds rfl).elim
    | false =>
      simp only [Top] at x
      obtain ⟨a, ks, rfl, h, _⟩ := x
      rcases h with h | ⟨o, h⟩
      · exact ⟨"dict", .base (TyOf.dK h), fun t => by cases t <;> (simp only [isiB, tyNm]; decide +kernel)⟩
      · exact ⟨"dict", .fDict h, fun t => by cases t <;> (simp only [isiB, tyNm]; decide +kernel)⟩

theorem valsCall_some {sc : Scope} {nm : String} {e : Expr} {xs : List Expr} (h : valsCall sc nm e = some xs) : ∃ o p ap cp pos, xs = [o] ∧ e = .Call (.Name (Str.ofString nm) p) [.Call (.Attribute o (Str.ofString "values") ap) [] [] cp] [] pos ∧ glC sc (Str.ofString nm) = true ∧ nmOk (Str.ofString nm) = true ∧
    (ap.endLine == cp.line) = true ∧ ∀ (m : Str) (env : Env) (w : Sem Value), attributeBase o m env w = w := by
  unfold valsCall at h
  split at h
  · rename_i x p o m ap cp pos
    by_cases q : (x == Str.ofString nm && glC sc x && nmOk x && (m == Str.ofString "values") && (ap.endLine == cp.line) && plainO o) = true
    · rw [if_pos q] at h
      simp only [Bool.and_eq_true] at q
      obtain ⟨⟨⟨⟨⟨q1, q2⟩, q3⟩, q4⟩, q5⟩, q6⟩ := q
      cases h
      have e1 := eq_of_beq q1
      have e2 := eq_of_beq q4
      subst e1 e2
      exact ⟨o, p, ap, cp, pos, rfl, rfl, q2, q3, q5, plainO_base q6⟩
    · rw [if_neg q] at h; cases h
  · cases h
theorem dfltCall_some {sc : Scope} {e : Expr} {xs : List Expr} (h : dfltCall sc e = some xs) : ∃ o p j kp cp pos, xs = [o] ∧ e = .Call (.Name (Str.ofString "max") p) [o] [⟨some (Str.ofString "default"), .Constant (.int 0) j kp, cp⟩] pos ∧ glC sc (Str.ofString "max") = true ∧ nmOk (Str.ofString "max") = true ∧ plainX o = true := by
  unfold dfltCall at h
  split at h
  · rename_i x p o k j kp cp pos
    by_cases q : (x == Str.ofString "max" && glC sc x && nmOk x && (k == Str.ofString "default") && plainX o) = true
    · rw [if_pos q] at h
      simp only [Bool.and_eq_true] at q
      obtain ⟨⟨⟨⟨q1, q2⟩, q3⟩, q4⟩, q5⟩ := q
      cases h
      have e1 := eq_of_beq q1
      have e2 := eq_of_beq q4
      subst e1 e2
      exact ⟨o, p, j, kp, cp, pos, rfl, rfl, q2, q3, q5⟩
    · rw [if_neg q] at h; cases h
  · cases h
theorem rngCall_some {sc : Scope} {e : Expr} {xs : List Expr} (h : rngCall sc e = some xs) : ∃ o p p2 pos2 pos, xs = [o] ∧ e = .Call (.Name (Str.ofString "list") p) [.Call (.Name (Str.ofString "range") p2) [o] [] pos2] [] pos ∧ glC sc (Str.ofString "list") = true ∧ glC sc (Str.ofString "range") = true ∧ plainX o = true := by
  unfold rngCall at h
  split at h
  · rename_i x p y p2 o pos2 pos
    by_cases q : (x == Str.ofString "list" && glC sc x && nmOk x && (y == Str.ofString "range") && glC sc y && nmOk y && plainX o) = true
    · rw [if_pos q] at h
      simp only [Bool.and_eq_true] at q
      obtain ⟨⟨⟨⟨⟨⟨q1, q2⟩, q3⟩, q4⟩, q5⟩, q6⟩, q7⟩ := q
      cases h
      have e1 := eq_of_beq q1
      have e2 := eq_of_beq q4
      subst e1 e2
      exact ⟨o, p, p2, pos2, pos, rfl, rfl, q2, q5, q7⟩
    · rw [if_neg q] at h; cases h
  · cases h
theorem denK_vals {K : Frg} {G : Hp} : ∀ {kvs : List (D × D)} {ks : List (Key × V)}, DenK K G kvs ks → DenL K G (kvs.map (·.2)) (ks.map (·.2))
  | [], ks, x => by simp only [DenK] at x; subst x; simp [DenL]
  | (k, d) :: kvs, ks, x => by
    simp only [DenK] at x
    obtain ⟨q, v, r, rfl, _, g, l⟩ := x
    simp only [List.map_cons, DenL]
    exact ⟨_, _, rfl, g, denK_vals l⟩
/-- the dict's values are ints -/
theorem vals_top {K : Frg} {H G : Hp} {t : Bool} {kvs : List (D × D)} {v : V} {ns : List Int} (x : Top K H G (.dic t kvs) v) (hn : allOf intOf (kvs.map (·.2)) = some ns) (ht : t = false) : ∃ a ks, v = .ref a ∧ Rd H a (.dK ks) ∧ ks.map (·.2) = ns.map V.int := by
  subst ht
  obtain ⟨a, ks, rfl, g, l⟩ := x
  exact ⟨a, ks, rfl, g, ((denK_vals l).ints hn).1⟩
theorem s_bi_all {X : Cx} {sc : Scope} {W : WX} {b : Bool} {bb : Bi} {es : List E} {e : Expr} {xs : List Expr} (C : Cok P n X sc N W) (hc : biCall sc bb e = some xs) (hn : es.length = biN bb)
    (hl : chkL P N sc es xs = true) (h1 : ∀ ie r e r', es = ie :: r → xs = e :: r' → PE X e (tZ true (frE ie) X W (evE (run P n) true ie))) (ha : PA X xs (tZL true X W (evL (run P n) true es))) : PE X e (tZ b true X W (evE (run P n) b (.bi bb es))) := by
  unfold biCall at hc
  split at hc
  · rename_i nm hb
    obtain ⟨p, pos, rfl, hg, hm⟩ := callOf_some hc
    have hmem : nm ∈ bltNames := by cases bb <;> simp [biNm] at hb <;> subst hb <;> decide
    cases xs with
    | nil =>
      cases es with
      | nil => cases bb <;> simp [biN] at hn
      | cons i is => simp [chkL] at hl
    | cons x xs => exact s_bi C hg hm hmem (blt_at C hb) hl ha
  · have one : ∃ ie, es = [ie] ∨ es.length = 2 := by
      rcases es with _ | ⟨ie, _ | ⟨i2, r⟩⟩
      · cases bb <;> simp [biN] at hn
      · exact ⟨ie, .inl rfl⟩
      · refine ⟨ie, .inr ?_⟩
        cases bb <;> simp [biN] at hn <;> simp [hn]
    split at hc
    · obtain ⟨o, p, ap, cp, pos, rfl, rfl, hg, hm, hline, hbase⟩ := valsCall_some hc
      rcases es with _ | ⟨ie, _ | ⟨i2, r⟩⟩ <;> simp [biN] at hn
      have hd := h1 _ _ _ _ rfl rfl
      have q := pe_maxVals (p := p) (pos := pos) C.calm (glC_gl C.sc hg) (C.blt "max" (by decide)) hd (hbase _ _ _) hline
      refine ⟨fun pins s σ H Q I ⟨F, H₀, ρ, S, h⟩ => q.run pins s σ H Q I ?_⟩
      simp only [evE, evL] at h
      rw [bind_assocR] at h
      refine ⟨F, H₀, ρ, S, stepE h fun d v H1 l t h1 => ?_⟩
      simp only [bind_ok, pure_R] at h1
      obtain ⟨r, e, h2⟩ := prE h1
      have t := t.top Gz_le
      rcases hq : d with _ | _ | _ | _ | _ | _ | ⟨tt, kvs⟩ | _ <;> rw [hq] at e <;> simp only [biD] at e <;> first | (cases e; done) | skip
      cases tt with
      | true => simp at e
      | false =>
        simp only at e
        obtain ⟨n0, r0, e1, e2⟩ := maxD_ok e
        rw [hq] at t
        obtain ⟨a, ks, rfl, g, ev⟩ := vals_top t e1 rfl
        subst e2
        exact ⟨a, ks, n0, r0, rfl, g, ev, h2.now rfl (by simp [Den])⟩
    · obtain ⟨o, p, ap, cp, pos, rfl, rfl, hg, hm, hline, hbase⟩ := valsCall_some hc
      rcases es with _ | ⟨ie, _ | ⟨i2, r⟩⟩ <;> simp [biN] at hn
      have hd := h1 _ _ _ _ rfl rfl
      have q := pe_sumVals (p := p) (pos := pos) C.calm (glC_gl C.sc hg) (C.blt "sum" (by decide)) hd (hbase _ _ _) hline
      refine ⟨fun pins s σ H Q I ⟨F, H₀, ρ, S, h⟩ => q.run pins s σ H Q I ?_⟩
      simp only [evE, evL] at h
      rw [bind_assocR] at h
      refine ⟨F, H₀, ρ, S, stepE h fun d v H1 l t h1 => ?_⟩
      simp only [bind_ok, pure_R] at h1
      obtain ⟨r, e, h2⟩ := prE h1
      have t := t.top Gz_le
      rcases hq : d with _ | _ | _ | _ | _ | _ | ⟨tt, kvs⟩ | _ <;> rw [hq] at e <;> simp only [biD] at e <;> first | (cases e; done) | skip
      cases tt with
      | true => simp at e
      | false =>
        simp only at e
        obtain ⟨ns, e1, e2⟩ := sumD_ok e
        rw [hq] at t
        obtain ⟨a, ks, rfl, g, ev⟩ := vals_top t e1 rfl
        subst e2
        exact ⟨a, ks, ns, rfl, g, ev, h2.now rfl (by simp [Den])⟩
    · obtain ⟨o, p, j, kp, cp, pos, rfl, rfl, hg, hm, hpl⟩ := dfltCall_some hc
      obtain ⟨n1, n2, n3⟩ := nmOk_ne hm
      have q := pe_callBK (p := p) (pos := pos) (kws := [⟨some (Str.ofString "default"), .Constant (.int 0) j kp, cp⟩]) (ks := [Str.ofString "default"]) (cr_maxD C.hu C.calm) (glC_gl C.sc hg) (C.blt "max" (by decide)) PyProof.Rows.boot_max ha (pk_cons pe_int pk_nil) n3 n1 (by rw [plain_star hpl]; rfl) (by rw [plain_star hpl]; rfl)
      refine ⟨fun pins s σ H Q I ⟨F, H₀, ρ, S, h⟩ => q.run pins s σ H Q I ?_⟩
      rcases es with _ | ⟨ie, _ | ⟨i2, r⟩⟩ <;> simp [biN] at hn
      simp only [evE] at h
      refine ⟨F, H₀, ρ, S, stepLE h fun ds vs H1 l t h1 => ?_⟩
      obtain ⟨r, e, h2⟩ := prE h1
      have t : TopL X.K H1 (Gz F ρ σ H1) ds vs := t
      rcases ds with _ | ⟨d, _ | ⟨d2, dr⟩⟩ <;> simp only [biD] at e <;> first | (cases e; done) | skip
      obtain ⟨v, r', rfl, t1, t2⟩ := t
      simp only [TopL] at t2
      subst t2
      exact ⟨_, d, r, v, rfl, rfl, (S.grow l).kn, t1, e, fun v' t' c => h2.now c t'⟩
    · obtain ⟨o, p, p2, pos2, pos, rfl, rfl, hg, hg2, hpl⟩ := rngCall_some hc
      rcases es with _ | ⟨ie, _ | ⟨i2, r⟩⟩ <;> simp [biN] at hn
      have hd := h1 _ _ _ _ rfl rfl
      have q := pe_listRg (p := p) (pos := pos) C.calm (glC_gl C.sc hg) (C.blt "list" (by decide)) (prg_1 (p := p2) (pos := pos2) (glC_gl C.sc hg2) (C.blt "range" (by decide)) hd (plain_star hpl))
      refine ⟨fun pins s σ H Q I ⟨F, H₀, ρ, S, h⟩ => q.run pins s σ H Q I ?_⟩
      simp only [evE, evL] at h
      rw [bind_assocR] at h
      refine ⟨F, H₀, ρ, S, stepE h fun d v H1 l t h1 => ?_⟩
      simp only [bind_ok, pure_R] at h1
      obtain ⟨r, e, h2⟩ := prE h1
      have t := t.top Gz_le
      cases d <;> simp only [biD] at e <;> first | (cases e; done) | skip
      rename_i m _
      obtain ⟨⟨hb, hm⟩, e⟩ := gd_ok e
      cases e
      simp only [Top, Den] at t
      unfold big62 at hb
      simp only [Bool.and_eq_true, decide_eq_true_eq] at hb
      refine ⟨m, t, ⟨by omega, by omega, by omega, by omega, by omega⟩, fun q hq => ?_⟩
      have ev : rgV 0 m = (List.range m.toNat).map fun (k : Nat) => V.int (0 + (k : Int) * 1) := by
        unfold rgV
        simp
      rw [ev]
      have S1 := S.grow l
      refine h2.new (Le.upd hq) (newLst S1.kn hq ?_)
      unfold rngL
      have : ∀ l : List Nat, DenL X.K (Gz F ρ σ H1) (l.map fun (k : Nat) => D.int (0 + (k : Int) * 1)) (l.map fun (k : Nat) => V.int (0 + (k : Int) * 1)) := fun l => by
        induction l with
        | nil => simp [DenL]
        | cons a b ih => simp only [List.map_cons, DenL]; exact ⟨_, _, rfl, by simp [Den], ih⟩
      exact this _
    · cases hc
theorem tyX_sqL {K : Frg} {H : Hp} : ∀ a ds, SqL K H a ds → TyX K H (.ref a) (.type "list") := by
  intro a ds h
  rcases h with (h | ⟨o, h⟩) | ⟨o, its, n, h, c, _⟩
  · exact .base (.lst h)
  · exact .base (.frz h)
  · exact .kList h c
theorem tZ_weak {X : Cx} {W : WX} {b fr fr' : Bool} {e : Expr} {r : Rho → R D} (hf : fr' = true → fr = true) (h : PE X e (tZ false fr X W r)) : PE X e (tZ b fr' X W r) := by
  refine ⟨fun pins s σ H Q I ⟨F, H₀, ρ, S, q⟩ => h.run pins s σ H Q I ⟨F, H₀, ρ, S, ?_⟩⟩
  cases hr : r ρ with
  | ok d =>
    rw [hr] at q
    refine fun v H' l t => q v H' l ?_
    exact ResE.of Gz_le ⟨t.1, fun z => t.2 (hf z)⟩
  | exc c fs => rw [hr] at q; exact q
  | bad => rw [hr] at q; exact q
theorem pr_some {α : Type} {r : R α} {a : α} (h : pr r = .ok a) : r = .ok a := by
  cases r with
  | ok x => cases h; rfl
  | exc c fs => cases h
  | bad => cases h
theorem count_sc {a b d : D} (e : countD a b = .ok d) : isC d = false := by
  cases a <;> simp only [countD] at e <;> first | (cases e; done) | skip
  obtain ⟨_, e⟩ := gd_ok e
  cases e; rfl
theorem index_sc {a b d : D} (e : indexD a b = .ok d) : isC d = false := by
  cases a <;> simp only [indexD] at e <;> first | (cases e; done) | skip
  obtain ⟨_, e⟩ := gd_ok e
  split at e <;> cases e
  rfl
/-- what is no list, no dict is as good as new -/
theorem tZ_scal {X : Cx} {W : WX} {b fr : Bool} {e : Expr} {r : Rho → R D} (hs : ∀ ρ d, r ρ = .ok d → isC d = false) (h : PE X e (tZ b false X W r)) : PE X e (tZ b fr X W r) := by
  refine ⟨fun pins s σ H Q I ⟨F, H₀, ρ, S, q⟩ => h.run pins s σ H Q I ⟨F, H₀, ρ, S, ?_⟩⟩
  cases hr : r ρ with
  | ok d =>
    rw [hr] at q
    refine fun v H' l t => q v H' l ?_
    have c := hs ρ d hr
    cases b with
    | true => exact t
    | false => exact ⟨t.1, fun _ z => by rw [c] at z; cases z⟩
  | exc c fs => rw [hr] at q; exact q
  | bad => rw [hr] at q; exact q
theorem tZ_any {X : Cx} {W : WX} {b fr : Bool} {e : Expr} {r : Rho → R D} (h : PE X e (tZ b true X W r)) : PE X e (tZ b fr X W r) := by
  refine ⟨fun pins s σ H Q I ⟨F, H₀, ρ, S, q⟩ => h.run pins s σ H Q I ⟨F, H₀, ρ, S, ?_⟩⟩
  cases hr : r ρ with
  | ok d =>
    rw [hr] at q
    refine fun v H' l t => q v H' l ?_
    cases b with
    | true => exact t
    | false => exact ResD.weak t
  | exc c fs => rw [hr] at q; exact q
  | bad => rw [hr] at q; exact q
section
variable {X : Cx} {sc : Scope} {W : WX} {b fr : Bool} {x y z : Expr} {pos p : Pos} {ia ib ic : E}
theorem s_isi {t : Ty} {p2 : Pos} (C : Cok P n X sc N W) (hg : glC sc "isinstance" = true) (hg2 : glC sc (Str.ofString (tyNm t)) = true) (hx : plainX x = true) (ha : PE X x (tZ true (frE ia) X W (evE (run P n) true ia))) :
    PE X (.Call (.Name "isinstance" p) [x, .Name (Str.ofString (tyNm t)) p2] [] pos) (tZ b fr X W (evE (run P n) b (.isi ia t))) := by
  have h1 : PE X (.Name (Str.ofString (tyNm t)) p2) (tC (.ty (tyNm t))) := by
    have g := glC_gl C.sc hg2
    have m : X.mg (Str.ofString (tyNm t)) = none := C.blt (tyNm t) (by cases t <;> decide)
    cases t
    · exact pe_bltn g m PyProof.Rows.boot_int rfl
    · exact pe_bltn g m PyProof.Rows.boot_bool rfl
    · exact pe_bltn g m PyProof.Rows.boot_str rfl
    · exact pe_bltn g m PyProof.Rows.boot_tuple rfl
    · exact pe_bltn g m PyProof.Rows.boot_list rfl
  have q := pe_callB (p := p) (pos := pos) (call_isi (X := X)) (glC_gl C.sc hg) (C.blt "isinstance" (by decide)) (by decide +kernel) (pa_cons ha (pa_cons h1 pa_nil rfl) (plain_star hx)) (by decide) (by decide) (plain_star hx) rfl
  refine ⟨fun pins s σ H Q I ⟨F, H₀, ρ, S, h⟩ => q.run pins s σ H Q I ?_⟩
  simp only [evE] at h
  refine ⟨F, H₀, ρ, S, stepE h fun d v H1 l tt h1 => ?_⟩
  obtain ⟨k, e, h2⟩ := prB h1
  have nd : ∀ k, d ≠ .dic true k := fun k z => by subst z; cases e
  obtain ⟨T, ty, kt⟩ := isi_ty Gz_le (tyX_sqL (K := X.K) (H := H1)) (tt.top Gz_le) nd
  have e' : isiB d t = k := by
    cases d with
    | dic t' ks =>
      cases t' with
      | true => exact (nd _ rfl).elim
      | false => simp only [isiD] at e; injection e
    | _ => simp only [isiD] at e; injection e
  exact ⟨v, .ty (tyNm t), .type T, .type (tyNm t), k, rfl, .ty _, ty, kit_ty (by rw [kt t, e']), h2.now rfl (by simp [Den])⟩
theorem s_bin {o : Bin} (ha : PE X x (tZ true (frE ia) X W (evE (run P n) true ia))) (hb : PE X y (tZ true (frE ib) X W (evE (run P n) true ib))) :
    PE X (.BinOp x (bop o) y pos) (tZ b fr X W (evE (run P n) b (.bin o ia ib))) := by
  have q := pe_op (pos := pos) (opz (X := X) (o := o)) ha hb
  refine ⟨fun pins s σ H Q I ⟨F, H₀, ρ, S, h⟩ => q.run pins s σ H Q I ?_⟩
  simp only [evE] at h
  refine ⟨F, H₀, ρ, S, stepE h fun d v H1 l t h1 => ⟨F, H₀, ρ, S.grow l, stepE h1 fun d' v' H2 l' t' h2 => ?_⟩⟩
  obtain ⟨r, e, h3⟩ := prE h2
  exact ⟨_, d, d', r, ((S.grow l).grow l').kn, (t.top Gz_le).mono (Gz_mono l') l', t'.top Gz_le, e, fun v'' H' l'' r' => h3.new l'' r'⟩
theorem s_neg (ha : PE X x (tZ true (frE ia) X W (evE (run P n) true ia))) : PE X (.UnaryOp .USub x pos) (tZ b fr X W (evE (run P n) b (.neg ia))) := by
  have q := pe_un (pos := pos) un_neg ha
  refine ⟨fun pins s σ H Q I ⟨F, H₀, ρ, S, h⟩ => q.run pins s σ H Q I ?_⟩
  simp only [evE] at h
  refine ⟨F, H₀, ρ, S, stepE h fun d v H1 l t h1 => ?_⟩
  have t := t.top Gz_le
  cases d <;> try exact h1.elim
  simp only [Top, Den] at t
  exact ⟨_, t, h1.now rfl (by simp [Den])⟩
theorem nobeh {o : CmpOp} (h : plainX y = true) : behindInMarks o y = false := by
  cases y <;> first | rfl | simp [plainX] at h
theorem s_cmp {o : Cmp} (C : Cok P n X sc N W) (hy : plainX y = true) (ha : PE X x (tZ true (frE ia) X W (evE (run P n) true ia))) (hb : PE X y (tZ true (frE ib) X W (evE (run P n) true ib))) :
    PE X (.Compare x [cop o] [y] pos) (tZ b fr X W (evE (run P n) b (.cmp o ia ib))) := by
  have q := pe_cmpR (pos := pos) (opc (X := X) C.hu o) ha hb (nobeh hy)
  refine ⟨fun pins s σ H Q I ⟨F, H₀, ρ, S, h⟩ => q.run pins s σ H Q I ?_⟩
  simp only [evE] at h
  refine ⟨F, H₀, ρ, S, stepE h fun d v H1 l t h1 => ⟨F, H₀, ρ, S.grow l, stepE h1 fun d' v' H2 l' t' h2 => ?_⟩⟩
  obtain ⟨r, e, h3⟩ := prB h2
  exact ⟨_, d, d', r, ((S.grow l).grow l').kn, (t.top Gz_le).mono (Gz_mono l') l', t'.top Gz_le, e, h3.now rfl (by simp [Den])⟩
theorem s_chain {o o2 : Cmp} (C : Cok P n X sc N W) (hz : plainX z = true) (ha : PE X x (tZ true (frE ia) X W (evE (run P n) true ia))) (hb : PE X y (tZ true (frE ib) X W (evE (run P n) true ib))) (hc : PE X z (tZ true (frE ic) X W (evE (run P n) true ic))) :
    PE X (.Compare x [cop o, cop o2] [y, z] pos) (tZ b fr X W (evE (run P n) b (.chain o o2 ia ib ic))) := by
  have q := pe_chain (pos := pos) (opc (X := X) C.hu o) (opc (X := X) C.hu o2) ha hb hc (nobeh hz)
  refine ⟨fun pins s σ H Q I ⟨F, H₀, ρ, S, h⟩ => q.run pins s σ H Q I ?_⟩
  simp only [evE] at h
  refine ⟨F, H₀, ρ, S, stepE h fun d v H1 l t h1 => ⟨F, H₀, ρ, S.grow l, stepE h1 fun d' v' H2 l' t' h2 => ?_⟩⟩
  obtain ⟨r, e, h3⟩ := prB h2
  refine ⟨_, d, d', r, ((S.grow l).grow l').kn, (t.top Gz_le).mono (Gz_mono l') l', t'.top Gz_le, e, r, rfl, ?_⟩
  cases r with
  | false => exact h3.now rfl (by simp [Den])
  | true =>
    refine ⟨F, H₀, ρ, (S.grow l).grow l', stepE h3 fun d'' v'' H3 l'' t'' h4 => ?_⟩
    obtain ⟨r, e, h5⟩ := prB h4
    exact ⟨_, d', d'', r, (((S.grow l).grow l').grow l'').kn, (t'.top Gz_le).mono (Gz_mono l'') l'', t''.top Gz_le, e, h5.now rfl (by simp [Den])⟩
theorem bl_den {K : Frg} {G : Hp} {k : Bool} {v : V} (t : Den K G (.bl k) v) : v = .bl k := by simpa [Den] using t
theorem PostT.of {d : D} {v : V} {F : Addr → Prop} {ρ : Rho} {σ : St} {H : Hp} {Q : Bool → Hp → Prop} (h : PostT X σ W H Q (.ok d)) {G : Hp} (t : Den X.K G d v) : ∃ c, v = .bl c ∧ Q c H := by
  cases d <;> first | exact h.elim | skip
  exact ⟨_, bl_den t, h H (Le.refl H)⟩
theorem t_val {r : Rho → R D} (h : PE X x (tZ false fr X W r)) (he : ∀ whole, isTrue x X.env whole = (do let v ← whole; standAt x.pos; holding [v] (truthy v))) : PT X x (tZT X W r) := by
  have q := pt_val h he
  refine ⟨fun pins s σ H Q I ⟨F, H₀, ρ, S, h⟩ => q.run pins s σ H Q I ?_⟩
  show tZ false fr X W r σ H _
  refine ⟨F, H₀, ρ, S, ?_⟩
  cases hr : r ρ with
  | ok d =>
    rw [hr] at h
    refine fun v H' l t => ?_
    have t : Den X.K (Gz F ρ σ H') d v := t.1
    cases d <;> first | exact h.elim | skip
    exact ⟨_, bl_den t, h H' l⟩
  | exc c fs => rw [hr] at h; exact h
  | bad => rw [hr] at h; exact h
theorem s_cmpT {o : Cmp} (C : Cok P n X sc N W) (hy : plainX y = true) (ha : PE X x (tZ true (frE ia) X W (evE (run P n) true ia))) (hb : PE X y (tZ true (frE ib) X W (evE (run P n) true ib))) :
    PT X (.Compare x [cop o] [y] pos) (tZT X W (evE (run P n) false (.cmp o ia ib))) := by
  have q := pt_cmpR (pos := pos) (opc (X := X) C.hu o) ha hb (nobeh hy)
  refine ⟨fun pins s σ H Q I ⟨F, H₀, ρ, S, h⟩ => q.run pins s σ H Q I ?_⟩
  simp only [evE] at h
  refine ⟨F, H₀, ρ, S, stepET h fun d v H1 l t h1 => ⟨F, H₀, ρ, S.grow l, stepET h1 fun d' v' H2 l' t' h2 => ?_⟩⟩
  obtain ⟨r, e, h3⟩ := prBT h2
  exact ⟨_, d, d', r, ((S.grow l).grow l').kn, (t.top Gz_le).mono (Gz_mono l') l', t'.top Gz_le, e, r, rfl, h3 H2 (Le.refl _)⟩
theorem s_chainT {o o2 : Cmp} (C : Cok P n X sc N W) (hz : plainX z = true) (ha : PE X x (tZ true (frE ia) X W (evE (run P n) true ia))) (hb : PE X y (tZ true (frE ib) X W (evE (run P n) true ib))) (hc : PE X z (tZ true (frE ic) X W (evE (run P n) true ic))) :
    PT X (.Compare x [cop o, cop o2] [y, z] pos) (tZT X W (evE (run P n) false (.chain o o2 ia ib ic))) := by
  have q := pt_chain (pos := pos) (opc (X := X) C.hu o) (opc (X := X) C.hu o2) ha hb hc (nobeh hz)
  refine ⟨fun pins s σ H Q I ⟨F, H₀, ρ, S, h⟩ => q.run pins s σ H Q I ?_⟩
  simp only [evE] at h
  refine ⟨F, H₀, ρ, S, stepET h fun d v H1 l t h1 => ⟨F, H₀, ρ, S.grow l, stepET h1 fun d' v' H2 l' t' h2 => ?_⟩⟩
  obtain ⟨r, e, h3⟩ := prBT h2
  refine ⟨_, d, d', r, ((S.grow l).grow l').kn, (t.top Gz_le).mono (Gz_mono l') l', t'.top Gz_le, e, r, rfl, ?_⟩
  cases r with
  | false => exact ⟨false, rfl, h3 H2 (Le.refl _)⟩
  | true =>
    refine ⟨F, H₀, ρ, (S.grow l).grow l', stepET h3 fun d'' v'' H3 l'' t'' h4 => ?_⟩
    obtain ⟨r, e, h5⟩ := prBT h4
    exact ⟨_, d', d'', r, (((S.grow l).grow l').grow l'').kn, (t'.top Gz_le).mono (Gz_mono l'') l'', t''.top Gz_le, e, r, rfl, h5 H3 (Le.refl _)⟩
/-- a test is reckoned, then the rest -/
theorem stepT {b' fr' : Bool} {F : Addr → Prop} {ρ : Rho} {σ : St} {H : Hp} {Q : VK} {r : R D} {f : D → R D} {K : Bool → Hp → Prop} (hf : ∀ d, (∀ k, d ≠ .bl k) → f d = .bad) (h : PostE b' fr' X F ρ σ W H Q (r >>= f)) (k : ∀ c H1, Le H H1 → PostE b' fr' X F ρ σ W H1 Q (f (.bl c)) → K c H1) : PostT X σ W H K r := by
  cases r with
  | ok d => cases d <;> first | exact fun H1 l => k _ H1 l (PostE.grow l h) | (have h : PostE b' fr' X F ρ σ W H Q (f _) := h; rw [hf _ (fun _ z => by cases z)] at h; exact h.elim)
  | exc c fs => exact h
  | bad => exact h
theorem stepTT {σ : St} {H : Hp} {Q : Bool → Hp → Prop} {r : R D} {f : D → R D} {K : Bool → Hp → Prop} (hf : ∀ d, (∀ k, d ≠ .bl k) → f d = .bad) (h : PostT X σ W H Q (r >>= f)) (k : ∀ c H1, Le H H1 → PostT X σ W H1 Q (f (.bl c)) → K c H1) : PostT X σ W H K r := by
  cases r with
  | ok d => cases d <;> first | exact fun H1 l => k _ H1 l (PostT.grow l h) | (have h : PostT X σ W H Q (f _) := h; rw [hf _ (fun _ z => by cases z)] at h; exact h.elim)
  | exc c fs => exact h
  | bad => exact h
theorem s_not (ha : PE X x (tZ false (frE ia) X W (evE (run P n) false ia))) : PE X (.UnaryOp .Not x pos) (tZ b fr X W (evE (run P n) b (.not ia))) := by
  have q := pe_not (pos := pos) ha
  refine ⟨fun pins s σ H Q I ⟨F, H₀, ρ, S, h⟩ => q.run pins s σ H Q I ?_⟩
  simp only [evE] at h
  refine ⟨F, H₀, ρ, S, stepE h fun d v H1 l t h1 => ?_⟩
  have t := ResE.top Gz_le t
  cases d <;> try exact h1.elim
  simp only [Top, Den] at t
  exact ⟨_, t, h1.now rfl (by simp [Den])⟩
theorem s_notT (ha : PT X x (tZT X W (evE (run P n) false ia))) : PT X (.UnaryOp .Not x pos) (tZT X W (evE (run P n) false (.not ia))) := by
  have q := pt_not (pos := pos) ha
  refine ⟨fun pins s σ H Q I ⟨F, H₀, ρ, S, h⟩ => q.run pins s σ H Q I ?_⟩
  simp only [evE] at h
  exact ⟨F, H₀, ρ, S, stepTT (fun d hd => by cases d <;> first | rfl | exact (hd _ rfl).elim) h fun c H1 l h1 => h1 H1 (Le.refl _)⟩
theorem s_ife {fa fb : Bool} (ht : PT X x (tZT X W (evE (run P n) false ic))) (ha : PE X y (tZ false fr X W (evE (run P n) false ia))) (hb : PE X z (tZ false fr X W (evE (run P n) false ib))) :
    PE X (.IfExp x y z pos) (tZ b fr X W (evE (run P n) b (.ife ic ia ib))) := by
  refine tZ_weak (fr := fr) id ?_
  have q := pe_ifExp (pos := pos) ht ha hb
  refine ⟨fun pins s σ H Q I ⟨F, H₀, ρ, S, h⟩ => q.run pins s σ H Q I ?_⟩
  have h : PostE false fr X F ρ σ W H Q (evE (run P n) b (.ife ic ia ib) ρ) := h
  simp only [evE] at h
  refine ⟨F, H₀, ρ, S, stepT (fun d hd => by cases d <;> first | rfl | exact (hd _ rfl).elim) h fun c H1 l h1 => ?_⟩
  cases c with
  | true => exact ⟨F, H₀, ρ, S.grow l, h1⟩
  | false => exact ⟨F, H₀, ρ, S.grow l, h1⟩
theorem s_idx (C : Cok P n X sc N W) (hy : plainX y = true) (ha : PE X x (tZ true (frE ia) X W (evE (run P n) true ia))) (hb : PE X y (tZ true (frE ib) X W (evE (run P n) true ib))) :
    PE X (.Subscript x y pos) (tZ b false X W (evE (run P n) b (.idx ia ib))) := by
  have q := pe_ix (pos := pos) (ixz (X := X) C.hu) ha hb (fun o i => by cases y <;> first | rfl | simp [plainX] at hy)
  refine ⟨fun pins s σ H Q I ⟨F, H₀, ρ, S, h⟩ => q.run pins s σ H Q I ?_⟩
  simp only [evE] at h
  refine ⟨F, H₀, ρ, S, stepE h fun d v H1 l t h1 => ⟨F, H₀, ρ, S.grow l, stepE h1 fun d' v' H2 l' t' h2 => ?_⟩⟩
  obtain ⟨r, e, h3⟩ := prE h2
  exact ⟨_, d, d', r, ((S.grow l).grow l').kn, (t.top Gz_le).mono (Gz_mono l') l', t'.top Gz_le, e, fun v'' r' => h3 v'' H2 (Le.refl _) (ResE.of Gz_le (.den r'))⟩
theorem m1_of {o e : Expr} {m : Str} {ap cp : Pos} (hb : ∀ (nm : Str) (env : Env) (w : Sem Value), attributeBase o nm env w = w) (he : plainX e = true) (hl : (ap.endLine == cp.line) = true) : M1 X o m ap e cp :=
  ⟨hb _ _ _, by rw [plain_star he]; rfl, hl, by rw [plain_star he]; rfl⟩
theorem m2_of {o e f : Expr} {m : Str} {ap cp : Pos} (hb : ∀ (nm : Str) (env : Env) (w : Sem Value), attributeBase o nm env w = w) (he : plainX e = true) (hf : plainX f = true) (hl : (ap.endLine == cp.line) = true) : M2 X o m ap e f cp :=
  ⟨hb _ _ _, by rw [plain_star he, plain_star hf]; rfl, hl, by rw [plain_star he, plain_star hf]; rfl⟩
theorem look_get {K : Frg} {G : Hp} {o : Option D} {r : Option V} {d : D} {v : V} (h : Look K G o r) (h' : Den K G d v) : Den K G (o.getD d) (r.getD v) := by
  cases o with
  | none => cases (show r = none from h); exact h'
  | some x => obtain ⟨w, rfl, hw⟩ := h; exact hw
theorem s_get1 {ap cp : Pos} (C : Cok P n X sc N W) (hbs : ∀ (nm : Str) (env : Env) (w : Sem Value), attributeBase x nm env w = w) (hy : plainX y = true) (hl : (ap.endLine == cp.line) = true) (ha : PE X x (tZ true (frE ia) X W (evE (run P n) true ia))) (hb : PE X y (tZ true (frE ib) X W (evE (run P n) true ib))) :
    PE X (.Call (.Attribute x "get" ap) [y] [] cp) (tZ b false X W (evE (run P n) b (.get1 ia ib))) := by
  have q := pe_dget1 (X := X) (by have := C.hu; omega) ha hb (m1_of hbs hy hl)
  refine ⟨fun pins s σ H Q I ⟨F, H₀, ρ, S, h⟩ => q.run pins s σ H Q I ?_⟩
  simp only [evE] at h
  refine ⟨F, H₀, ρ, S, stepE h fun d v H1 l t h1 => ?_⟩
  cases d <;> first | exact h1.elim | skip
  rename_i tt kvs
  rw [gd_pos (c := isDic (D.dic tt kvs) = true) rfl] at h1
  have t0 := t.top Gz_le
  have hd : ∃ a, v = .ref a ∧ IsD H1 a := by
    cases tt
    · simp only [Top] at t0
      obtain ⟨a, ks, e1, e2, _⟩ := t0
      exact ⟨a, e1, .inl ⟨ks, e2⟩⟩
    · simp only [Top] at t0
      obtain ⟨a, ks, e1, e2, _⟩ := t0
      exact ⟨a, e1, .inr ⟨ks, e2⟩⟩
  obtain ⟨a, rfl, hd⟩ := hd
  refine ⟨a, rfl, hd, F, H₀, ρ, S.grow l, stepE h1 fun d' v' H2 l' t' h2 => ?_⟩
  obtain ⟨o, e, h3⟩ := prB h2
  obtain ⟨hf, e⟩ := gd_ok (show gd _ _ = .ok o from e)
  have e : dget kvs d' = o := by injection e
  obtain ⟨a', o', ea, g, lk, _⟩ := dlook Gz_le (t0.mono (Gz_mono l') l') hf ((t'.top Gz_le).den Gz_le)
  cases ea
  rw [e] at lk
  exact ⟨o', g, h3 _ H2 (Le.refl _) (ResE.of Gz_le (.den (look_get lk (by simp [Den]))))⟩
theorem s_rev {k : Nat} {p1 p2 p3 : Pos} (ha : PE X x (tZ true (frE ia) X W (evE (run P n) true ia))) : PE X (.Subscript x (.Slice none none (some (.UnaryOp .USub (.Constant (.int 1) k p1) p2)) p3) pos) (tZ b fr X W (evE (run P n) b (.rev ia))) := by
  have q := pe_revA (k := k) (p1 := p1) (p2 := p2) (p3 := p3) (pos := pos) ha
  refine ⟨fun pins s σ H Q I ⟨F, H₀, ρ, S, h⟩ => q.run pins s σ H Q I ?_⟩
  simp only [evE] at h
  refine ⟨F, H₀, ρ, S, stepE h fun d v H1 l t h1 => ?_⟩
  obtain ⟨r, e, h2⟩ := prE h1
  have t := t.top Gz_le
  have S1 := S.grow l
  cases d <;> simp only [revD] at e <;> first | (cases e; done) | skip
  all_goals cases e
  · simp only [Top, Den] at t
    obtain ⟨a, vs, rfl, g, dl⟩ := t
    exact ⟨a, vs, rfl, .inr ⟨.inl (.inl (Gz_le _ _ g)), fun p hp => h2.new (Le.upd hp) (newTup S1.kn hp dl.reverse)⟩⟩
  · obtain ⟨a, vs, rfl, g, dl⟩ := t
    exact ⟨a, vs, rfl, .inl ⟨.inl (.inl g), fun p hp => h2.new (Le.upd hp) (newLst S1.kn hp dl.reverse)⟩⟩
theorem bm_few {o e : Expr} {m : Str} {ap cp : Pos} (hp : plainX e = true) : ((backTo cp (starEach [e] X.env)).all (fun x => !x.1) && (backToKw cp (keywordEach [] X.env)).all (fun x => x.1.isSome) && decide ([e].length + ([] : List Keyword).length + (if ([] : List Keyword).isEmpty then 0 else 1) < 30)) = true := by
  rw [plain_star hp]; rfl
theorem s_lm {m id : String} {g : D → D → R D} {ap cp : Pos} {r : E} (hbs : ∀ (nm : Str) (env : Env) (w : Sem Value), attributeBase x nm env w = w) (hy : plainX y = true) (hl : (ap.endLine == cp.line) = true) (slot : Slot "list" (Str.ofString m) id) (hty : typeOf (.builtin id) = pure (.type "method_descriptor")) (hm : MtR X id (RM X.K g))
    (ha : PE X x (tZ true (frE ia) X W (evE (run P n) true ia))) (hb : PE X y (tZ true (frE ib) X W (evE (run P n) true ib)))
    (he : ∀ ρ, evE (run P n) b r ρ = (do
      let x ← evE (run P n) true ia ρ
      gd (isLst x = true) (do
        let y ← evE (run P n) true ib ρ
        pr (g x y)))) (hg : ∀ a b d, g a b = .ok d → isC d = false) :
    PE X (.Call (.Attribute x (Str.ofString m) ap) [y] [] cp) (tZ b false X W (evE (run P n) b r)) := by
  have q := pe_bm (apos := ap) (cpos := cp) PySem.F.plainAttrs_list slot hty hm ha (pa_cons hb pa_nil (plain_star hy)) (hbs _ _ _) (bm_few (o := x) (m := Str.ofString m) (ap := ap) hy) hl (plain_star hy) rfl
  refine ⟨fun pins s σ H Q I ⟨F, H₀, ρ, S, h⟩ => q.run pins s σ H Q I ?_⟩
  rw [he] at h
  refine ⟨F, H₀, ρ, S, stepE h fun d v H1 l t h1 => ?_⟩
  obtain ⟨hi, h1⟩ := gdE h1
  cases d <;> first | (cases hi; done) | skip
  have t0 := t.top Gz_le
  obtain ⟨a, vs, rfl, gg, dl⟩ := t0
  refine ⟨.inl ⟨rfl, vs, .inl (.inl gg)⟩, F, H₀, ρ, S.grow l, stepE h1 fun d' v' H2 l' t' h2 => ?_⟩
  obtain ⟨r, e, h3⟩ := prE h2
  exact ⟨_, _, d', r, v', ((S.grow l).grow l').kn, Top.mono (d := .lst _) (Gz_mono l') l' ⟨a, vs, rfl, gg, dl⟩, rfl, t'.top Gz_le, e, fun w dw c => h3.now c dw⟩
theorem s_count {ap cp : Pos} (C : Cok P n X sc N W) (hbs : ∀ (nm : Str) (env : Env) (w : Sem Value), attributeBase x nm env w = w) (hy : plainX y = true) (hl : (ap.endLine == cp.line) = true) (ha : PE X x (tZ true (frE ia) X W (evE (run P n) true ia))) (hb : PE X y (tZ true (frE ib) X W (evE (run P n) true ib))) :
    PE X (.Call (.Attribute x (Str.ofString "count") ap) [y] [] cp) (tZ b fr X W (evE (run P n) b (.count ia ib))) := by
  refine tZ_scal (fun ρ d h => ?_) (s_lm (b := b) (r := .count ia ib) (g := countD) hbs hy hl PySem.F.slot_list_count PySem.F.type_list_count (mt_count C.hu) ha hb (fun ρ => by simp only [evE]) fun a b d e => ?_)
  · simp only [evE] at h
    obtain ⟨x, _, h⟩ := bind_some h
    obtain ⟨_, h⟩ := gd_ok h
    obtain ⟨y, _, h⟩ := bind_some h
    exact count_sc (pr_some h)
  · exact count_sc e
theorem s_index {ap cp : Pos} (C : Cok P n X sc N W) (hbs : ∀ (nm : Str) (env : Env) (w : Sem Value), attributeBase x nm env w = w) (hy : plainX y = true) (hl : (ap.endLine == cp.line) = true) (ha : PE X x (tZ true (frE ia) X W (evE (run P n) true ia))) (hb : PE X y (tZ true (frE ib) X W (evE (run P n) true ib))) :
    PE X (.Call (.Attribute x (Str.ofString "index") ap) [y] [] cp) (tZ b fr X W (evE (run P n) b (.index ia ib))) := by
  refine tZ_scal (fun ρ d h => ?_) (s_lm (b := b) (r := .index ia ib) (g := indexD) hbs hy hl PySem.F.slot_list_index PySem.F.type_list_index (mt_index C.hu) ha hb (fun ρ => by simp only [evE]) fun a b d e => ?_)
  · simp only [evE] at h
    obtain ⟨x, _, h⟩ := bind_some h
    obtain ⟨_, h⟩ := gd_ok h
    obtain ⟨y, _, h⟩ := bind_some h
    exact index_sc (pr_some h)
  · exact index_sc e
theorem s_get2 {ap cp : Pos} {ic : E} {fc : Bool} (C : Cok P n X sc N W) (hbs : ∀ (nm : Str) (env : Env) (w : Sem Value), attributeBase x nm env w = w) (hy : plainX y = true) (hz : plainX z = true) (hl : (ap.endLine == cp.line) = true) (ha : PE X x (tZ true (frE ia) X W (evE (run P n) true ia))) (hb : PE X y (tZ true (frE ib) X W (evE (run P n) true ib)))
    (hc : PE X z (tZ false fc X W (evE (run P n) false ic))) :
    PE X (.Call (.Attribute x "get" ap) [y, z] [] cp) (tZ b false X W (evE (run P n) b (.get2 ia ib ic))) := by
  have q := pe_dget2 (X := X) (by have := C.hu; omega) ha hb hc (m2_of hbs hy hz hl)
  refine ⟨fun pins s σ H Q I ⟨F, H₀, ρ, S, h⟩ => q.run pins s σ H Q I ?_⟩
  simp only [evE] at h
  refine ⟨F, H₀, ρ, S, stepE h fun d v H1 l t h1 => ?_⟩
  cases d <;> first | exact h1.elim | skip
  rename_i tt kvs
  rw [gd_pos (c := isDic (D.dic tt kvs) = true) rfl] at h1
  have t0 := t.top Gz_le
  have hd : ∃ a, v = .ref a ∧ IsD H1 a := by
    cases tt
    · simp only [Top] at t0
      obtain ⟨a, ks, e1, e2, _⟩ := t0
      exact ⟨a, e1, .inl ⟨ks, e2⟩⟩
    · simp only [Top] at t0
      obtain ⟨a, ks, e1, e2, _⟩ := t0
      exact ⟨a, e1, .inr ⟨ks, e2⟩⟩
  obtain ⟨a, rfl, hd⟩ := hd
  refine ⟨a, rfl, hd, F, H₀, ρ, S.grow l, stepE h1 fun d' v' H2 l' t' h2 => ⟨F, H₀, ρ, (S.grow l).grow l', stepE h2 fun d2 v2 H3 l2 t2 h2 => ?_⟩⟩
  obtain ⟨o, e, h3⟩ := prB h2
  obtain ⟨hf, e⟩ := gd_ok (show gd _ _ = .ok o from e)
  have e : dget kvs d' = o := by injection e
  obtain ⟨a', o', ea, g, lk, _⟩ := dlook Gz_le ((t0.mono (Gz_mono l') l').mono (Gz_mono l2) l2) hf (((t'.top Gz_le).mono (Gz_mono l2) l2).den Gz_le)
  cases ea
  rw [e] at lk
  exact ⟨o', g, h3 _ H3 (Le.refl _) (ResE.of Gz_le (.den (look_get lk t2.1)))⟩
theorem s_slc {lo hi : Option E} {l u : Option Expr} {p2 : Pos} (ha : PE X x (tZ true (frE ia) X W (evE (run P n) true ia))) (hl : PO X l (tZO X W (evO (run P n) lo))) (hu : PO X u (tZO X W (evO (run P n) hi))) :
    PE X (.Subscript x (.Slice l u none p2) pos) (tZ b fr X W (evE (run P n) b (.slc ia lo hi))) := by
  have q := pe_slice (pos := pos) (p2 := p2) (slz (X := X)) ha hl hu
  refine ⟨fun pins s σ H Q I ⟨F, H₀, ρ, S, h⟩ => q.run pins s σ H Q I ?_⟩
  simp only [evE] at h
  refine ⟨F, H₀, ρ, S, stepE h fun d v H1 l1 t h1 => ⟨F, H₀, ρ, S.grow l1, stepOE h1 fun lo' H2 l2 h2 => ⟨F, H₀, ρ, (S.grow l1).grow l2, stepOE h2 fun hi' H3 l3 h3 => ?_⟩⟩⟩
  obtain ⟨r, e, h4⟩ := prE h3
  exact ⟨_, d, r, (((S.grow l1).grow l2).grow l3).kn, (t.top Gz_le).mono ((Gz_mono l2).trans (Gz_mono l3)) (l2.trans l3), e, fun v'' H' l'' r' => h4.new l'' r'⟩
theorem o_some (ha : PE X x (tZ false fr X W (evE (run P n) false ia))) : PO X (some x) (tZO X W (evO (run P n) (some ia))) := by
  have q := po_some ha
  refine ⟨fun pins s σ H Q I ⟨F, H₀, ρ, S, h⟩ => q.run pins s σ H Q I ?_⟩
  show tZ false fr X W _ σ H _
  simp only [evO] at h
  refine ⟨F, H₀, ρ, S, ?_⟩
  cases hr : evE (run P n) false ia ρ with
  | ok d =>
    rw [hr] at h
    refine fun v H' l t => ?_
    have t : Den X.K (Gz F ρ σ H') d v := t.1
    cases d <;> first | exact h.elim | skip
    exact ⟨_, by simpa [Den] using t, h H' l⟩
  | exc c fs => rw [hr] at h; exact h
  | bad => rw [hr] at h; exact h
theorem o_none : PO X none (tZO X W (evO (run P n) none)) := by
  have q := po_none (X := X)
  refine ⟨fun pins s σ H Q I ⟨F, H₀, ρ, S, h⟩ => q.run pins s σ H Q I ?_⟩
  simp only [evO] at h
  exact h H (Le.refl _)
theorem stepLL {b : Bool} {F : Addr → Prop} {ρ : Rho} {σ : St} {H : Hp} {Q : List V → Hp → Prop} {r : R D} {f : D → R (List D)} {K : VK} {b' fr' : Bool} (h : PostL b X F ρ σ W H Q (r >>= f)) (k : ∀ d v H1, Le H H1 → ResE b' fr' X.K H H1 (Gz F ρ σ H1) d v → PostL b X F ρ σ W H1 Q (f d) → K v H1) : PostE b' fr' X F ρ σ W H K r := by
  cases r with
  | ok d => exact fun v H1 l t => k d v H1 l t (PostL.grow l h)
  | exc c fs => exact h
  | bad => exact h
theorem stepL2 {b : Bool} {F : Addr → Prop} {ρ : Rho} {σ : St} {H : Hp} {Q : List V → Hp → Prop} {r : R (List D)} {f : List D → R (List D)} {K : List V → Hp → Prop} (h : PostL b X F ρ σ W H Q (r >>= f)) (k : ∀ ds vs H1, Le H H1 → (if b = true then TopL X.K H1 (Gz F ρ σ H1) ds vs else DenL X.K (Gz F ρ σ H1) ds vs) → PostL b X F ρ σ W H1 Q (f ds) → K vs H1) : PostL b X F ρ σ W H K r := by
  cases r with
  | ok d => exact fun v H1 l t => k d v H1 l t (PostL.grow l h)
  | exc c fs => exact h
  | bad => exact h
theorem a_nil : PA X [] (tZL b X W (evL (run P n) b [])) := by
  refine ⟨fun pos pins s σ H Q I ⟨F, H₀, ρ, S, h⟩ => pa_nil.run pos pins s σ H Q I ?_⟩
  simp only [evL] at h
  exact h [] H (Le.refl _) (by split <;> simp [TopL, DenL])
theorem a_cons {ie : E} {ies : List E} {xs : List Expr} (hx : plainX x = true) (ha : PE X x (tZ b (frE ie) X W (evE (run P n) b ie))) (hs : PA X xs (tZL b X W (evL (run P n) b ies))) : PA X (x :: xs) (tZL b X W (evL (run P n) b (ie :: ies))) := by
  have q := pa_cons ha hs (plain_star hx)
  refine ⟨fun pos pins s σ H Q I ⟨F, H₀, ρ, S, h⟩ => q.run pos pins s σ H Q I ?_⟩
  simp only [evL] at h
  refine ⟨F, H₀, ρ, S, stepLL h fun d v H1 l t h1 => ⟨F, H₀, ρ, S.grow l, stepL2 h1 fun ds vs H2 l' t' h2 => h2 (v :: vs) H2 (Le.refl _) ?_⟩⟩
  cases b with
  | true =>
    exact ⟨v, vs, rfl, (t.top Gz_le).mono (Gz_mono l') l', t'⟩
  | false =>
    simp only [Bool.false_eq_true, if_false, DenL] at t' ⊢
    have t : Den X.K (Gz F ρ σ H1) d v := t.1
    exact ⟨v, vs, rfl, Den.mono (Gz_mono l') _ _ t, t'⟩
theorem stepL_len {F : Addr → Prop} {ρ : Rho} {σ : St} {H : Hp} {Q : VK} {es : List E} : True := trivial
theorem evL_len {C : Calls} {b : Bool} {ρ : Rho} : ∀ {es : List E} {ds : List D}, evL C b es ρ = .ok ds → ds.length = es.length
  | [], ds, h => by simp only [evL] at h; cases h; rfl
  | e :: es, ds, h => by
    simp only [evL] at h
    obtain ⟨d, h1, h⟩ := bind_some h
    obtain ⟨r, h2, h⟩ := bind_some h
    cases h
    rw [List.length_cons, List.length_cons, evL_len h2]
/-- .. and how many -/
theorem stepLE' {b' fr' : Bool} {F : Addr → Prop} {ρ : Rho} {σ : St} {H : Hp} {Q : VK} {C : Calls} {es : List E} {f : List D → R D} {K : List V → Hp → Prop} (h : PostE b' fr' X F ρ σ W H Q (evL C false es ρ >>= f)) (k : ∀ ds vs H1, vs.length = es.length → Le H H1 → DenL X.K (Gz F ρ σ H1) ds vs → PostE b' fr' X F ρ σ W H1 Q (f ds) → K vs H1) : PostL false X F ρ σ W H K (evL C false es ρ) := by
  cases hr : evL C false es ρ with
  | ok ds =>
    rw [hr] at h
    exact fun v H1 l t => by
      have t := DenL.of_if t
      exact k ds v H1 (t.length.trans (evL_len hr)) l t (PostE.grow l h)
  | exc c fs => rw [hr] at h; exact h
  | bad => rw [hr] at h; exact h
theorem szK {k : Nat} (h : k ≤ 1000) : k ≤ sizeLine := by rw [sizeLine_eq]; omega
theorem s_tup {es : List E} {xs : List Expr} {x1 : _} (hn : es.length ≤ 1000) (ha : PA X xs (tZL false X W (evL (run P n) false es))) : PE X (.Tuple xs x1 pos) (tZ b fr X W (evE (run P n) b (.tup es))) := by
  have q := pe_tup (pos := pos) (x1 := x1) ha
  refine ⟨fun pins s σ H Q I ⟨F, H₀, ρ, S, h⟩ => q.run pins s σ H Q I ?_⟩
  simp only [evE] at h
  refine ⟨F, H₀, ρ, S, stepLE' h fun ds vs H1 hl l t h1 => ⟨szK (by omega), fun a ha => h1.new (Le.upd ha) (newTup (S.grow l).kn ha t)⟩⟩
theorem s_lst {es : List E} {xs : List Expr} (hn : es.length ≤ 1000) (ha : PA X xs (tZL false X W (evL (run P n) false es))) : PE X (.List xs pos) (tZ b fr X W (evE (run P n) b (.lst es))) := by
  have q := pe_lst (pos := pos) ha
  refine ⟨fun pins s σ H Q I ⟨F, H₀, ρ, S, h⟩ => q.run pins s σ H Q I ?_⟩
  simp only [evE] at h
  refine ⟨F, H₀, ρ, S, stepLE' h fun ds vs H1 hl l t h1 => ⟨szK (by omega), fun a ha => h1.new (Le.upd ha) (newLst (S.grow l).kn ha t)⟩⟩
theorem s_dct0 {t : Bool} : PE X (.Dict [] [] pos) (tZ b fr X W (evE (run P n) b (.dct0 t))) := by
  cases t with
  | false =>
    refine ⟨fun pins s σ H Q I ⟨F, H₀, ρ, S, h⟩ => pe_dnewK.run pins s σ H Q I ?_⟩
    simp only [evE] at h
    refine fun a ha => h.new (Le.upd ha) ⟨?_, fun _ _ => ⟨a, rfl, ha, [], upd_same, by simp [DenK]⟩⟩
    simp only [Den, DenK]
    exact ⟨a, [], rfl, .inl (by rw [S.gz_new ha]; exact upd_same), rfl⟩
  | true =>
    refine ⟨fun pins s σ H Q I ⟨F, H₀, ρ, S, h⟩ => pe_dnewT.run pins s σ H Q I ?_⟩
    simp only [evE] at h
    refine fun a ha => h.new (Le.upd ha) ⟨?_, fun _ _ => ⟨a, rfl, ha, [], upd_same, by simp [DenT]⟩⟩
    simp only [Den, DenT]
    exact ⟨a, [], rfl, .inl (by rw [S.gz_new ha]; exact upd_same), rfl⟩
theorem s_dspK {ik iv : E} {fk fv : Bool} (hk : PE X x (tZ true fk X W (evE (run P n) true ik))) (hv : PE X y (tZ false fv X W (evE (run P n) false iv))) :
    PE X (.Dict [some x] [y] pos) (tZ b fr X W (evE (run P n) b (.dsp false ik iv))) := by
  have q := pe_disp (pos := pos) (pps_cons hk hv pps_nil) rfl rfl (by simp) (by simp)
  refine ⟨fun pins s σ H Q I ⟨F, H₀, ρ, S, h⟩ => q.run pins s σ H Q I ?_⟩
  intro p hp
  rw [evE] at h
  have h : PostE b fr X F ρ σ W H Q (evE (run P n) true ik ρ >>= fun k => evE (run P n) false iv ρ >>= fun v => gd (keyFit false k = true) (.ok (.dic false [(k, v)]))) := h
  have S1 := S.newF hp (.dK [])
  refine ⟨fun b => F b ∨ b = p, H₀, ρ, S1, ?_⟩
  cases hr : evE (run P n) true ik ρ with
  | bad => rw [hr] at h; exact h.elim
  | exc c fs => rw [hr] at h; exact fun cls dd H' l e => h cls dd H' ((Le.upd hp).trans l) e
  | ok k =>
    rw [hr] at h
    have h : PostE b fr X F ρ σ W H Q (evE (run P n) false iv ρ >>= fun v => gd (keyFit false k = true) (.ok (.dic false [(k, v)]))) := h
    refine fun v H1 l t => ⟨fun b => F b ∨ b = p, H₀, ρ, S1.grow l, ?_⟩
    cases hr2 : evE (run P n) false iv ρ with
    | bad => rw [hr2] at h; exact h.elim
    | exc c fs => rw [hr2] at h; exact fun cls dd H' l2 e => h cls dd H' (((Le.upd hp).trans l).trans l2) e
    | ok d =>
      rw [hr2] at h
      refine fun v2 H2 l2 t2 => ?_
      have t2 : Den X.K (Gz (fun b => F b ∨ b = p) ρ σ H2) d v2 := t2.1
      have h : PostE b fr X F ρ σ W H Q (gd (keyFit false k = true) (.ok (.dic false [(k, d)]))) := h
      by_cases hf : keyFit false k = true
      · rw [gd_pos hf] at h
        obtain ⟨kk, hq⟩ := keyFit_k hf
        have hv := kD_V hq ((t.top Gz_le).den Gz_le)
        subst hv
        have m : Le (Gz (fun b => F b ∨ b = p) ρ σ H2) (Gz F ρ σ (upd H2 p (.dK [(kk, v2)]))) := sub_mono fun a o e nn => by
          have ne : a ≠ p := fun z => nn (.inl (.inr z))
          refine ⟨by rw [upd_ne ne]; exact e, fun z => nn (z.elim (fun z => .inl (.inl z)) .inr)⟩
        have lh : Le H (upd H2 p (.dK [(kk, v2)])) := fun a o e => by
          have ne : a ≠ p := fun z => by subst z; rw [hp] at e; cases e
          rw [upd_ne ne]
          exact l2 _ _ (l _ _ (by rw [upd_ne ne]; exact e))
        have m2 : Le (Gz (fun b => F b ∨ b = p) ρ σ H2) (sub (Gz F ρ σ (upd H2 p (.dK [(kk, v2)]))) fun x => x = p) := fun a o e => by
          have ne : a ≠ p := fun z => (sub_some e).2 (.inl (.inr z))
          rw [sub_at (p := fun x => x = p) ne]
          exact m a o e
        refine ⟨l2 _ _ (l _ _ upd_same), [(kk, v2)], rfl, by simp, ?_⟩
        refine h.new lh ⟨?_, fun _ _ => ⟨p, rfl, hp, [(kk, v2)], upd_same, ?_⟩⟩
        · simp only [Den, DenK]
          exact ⟨p, _, rfl, .inl (by rw [S.gz_new hp]; exact upd_same), kk, v2, [], rfl, hq, Den.mono m _ _ t2, rfl⟩
        · simp only [DenK]
          exact ⟨kk, v2, [], rfl, hq, Den.mono m2 _ _ t2, rfl⟩
      · rw [gd_neg hf] at h; exact h.elim
theorem pe_dispT {tk tv : TE} (hu : X.A.units + 1 < cLine) (hk : PE X x tk) (hv : PE X y tv) :
    PE X (.Dict [some x] [y] pos) (fun σ H Q => ∀ p, H p = none → tPairs [(tk, tv)] σ (upd H p (.dT [])) fun ps H2 => ∃ u v, ps = [(u, v)] ∧ H2 p = some (.dT []) ∧ ∃ (b : Addr) (ks : List Key), u = .ref b ∧ H2 b = some (.tup (ks.map kV)) ∧ Q (.ref p) (upd H2 p (.dT [(ks, v)]))) := by
  refine ⟨fun pins s σ H Q I q => ?_⟩
  have hn := I.hok.fresh (Nat.le_refl s.heap.objs.size)
  have I1 := I.laid (a := s.heap.objs.size) (o := .dT []) (h' := s.heap.push { cls := .type "dict", data := .dict #[] }) (t' := s.toks) (fun _ _ q => Heap.get?_push_of_some _ q) (Nat.le_refl _) (dt_empty s.heap I.big)
  have sh := zip_pairTrees [some x] [y] X.env pos rfl rfl
  have hl := pairTrees_length [some x] [y] X.env pos rfl rfl
  have h0 : pairTrees [some x] [y] X.env pos ≠ [] := fun z => by rw [z] at hl; cases hl
  rw [arm_eval_Dict, sh, dictDisplay_pairs _ h0 (by rw [hl]; show 1 < 17; omega)]
  refine wpAny_bind (wpAny_standAt (wpAny_bind (wpAny_subDictH (knd := tupleKind (mixKind X.prog X.w)) (Q := fun d s' => wpAny (model X.prog X.w) X.A (pure (Value.ref d)) (EP X pins σ Q) X.xe s') (by show X.A.units < cLine; omega) (by rw [hl]; show 1 ≤ 15; omega) ?_)))
  refine thn ((pps_cons hk hv pps_nil).run pins _ σ _ (fun ps H2 => ∃ u v, ps = [(u, v)] ∧ H2 s.heap.objs.size = some (.dT []) ∧ ∃ (b : Addr) (ks : List Key), u = .ref b ∧ H2 b = some (.tup (ks.map kV)) ∧ Q (.ref s.heap.objs.size) (upd H2 s.heap.objs.size (.dT [(ks, v)]))) I1 ?_) fun ws s2 ⟨ps, H2, I2, rel, u, v, ep, e, b, ks, eu, eb, q2⟩ => ?_
  · exact q _ hn
  · subst ep eu
    cases rel with
    | @cons pa pb as bs hh tt =>
      cases tt
      obtain ⟨h1, h2⟩ := hh
      obtain ⟨b1, b2⟩ := pb
      cases (show b1 = Value.ref b from h1)
      obtain ⟨z, hd, xs, rel0, dd⟩ := dt_of I2.hok e
      cases rel0
      refine ⟨[(ks, b, b2)], ⟨rfl, rfl, key_of I2.hok eb, True.intro⟩, dd, fun h' tk' dd' hs => wpAny_pure ⟨.ref s.heap.objs.size, _, ?_, rfl, q2⟩⟩
      obtain ⟨q, es, ep, hq, k2, k3, k4, _, k5⟩ := dd'
      refine d_write I2 (by rw [e]; exact True.intro) hs ⟨q, hq⟩ ⟨by rw [sizeLine_eq]; simp, hd, _, (show KT _ [(ks, v)] [(ks, b, b2)] from ?_), q, es, ep, hq, k2, k3, k4, k5⟩
      refine .cons ⟨rfl, ?_, h2⟩ .nil
      show upd H2 _ _ b = _
      rw [upd_ne (ne_of eb e (fun z => nomatch z))]
      exact eb
theorem s_dspT {ik iv : E} {fk fv : Bool} (C : Cok P n X sc N W) (hk : PE X x (tZ true fk X W (evE (run P n) true ik))) (hv : PE X y (tZ false fv X W (evE (run P n) false iv))) :
    PE X (.Dict [some x] [y] pos) (tZ b fr X W (evE (run P n) b (.dsp true ik iv))) := by
  have q := pe_dispT (pos := pos) (by have := C.hu; omega) hk hv
  refine ⟨fun pins s σ H Q I ⟨F, H₀, ρ, S, h⟩ => q.run pins s σ H Q I ?_⟩
  intro p hp
  rw [evE] at h
  have h : PostE b fr X F ρ σ W H Q (evE (run P n) true ik ρ >>= fun k => evE (run P n) false iv ρ >>= fun v => gd (keyFit true k = true) (.ok (.dic true [(k, v)]))) := h
  have S1 := S.newF hp (.dT [])
  refine ⟨fun b => F b ∨ b = p, H₀, ρ, S1, ?_⟩
  cases hr : evE (run P n) true ik ρ with
  | bad => rw [hr] at h; exact h.elim
  | exc c fs => rw [hr] at h; exact fun cls dd H' l e => h cls dd H' ((Le.upd hp).trans l) e
  | ok k =>
    rw [hr] at h
    have h : PostE b fr X F ρ σ W H Q (evE (run P n) false iv ρ >>= fun v => gd (keyFit true k = true) (.ok (.dic true [(k, v)]))) := h
    refine fun v H1 l t => ⟨fun b => F b ∨ b = p, H₀, ρ, S1.grow l, ?_⟩
    cases hr2 : evE (run P n) false iv ρ with
    | bad => rw [hr2] at h; exact h.elim
    | exc c fs => rw [hr2] at h; exact fun cls dd H' l2 e => h cls dd H' (((Le.upd hp).trans l).trans l2) e
    | ok d =>
      rw [hr2] at h
      refine fun v2 H2 l2 t2 => ?_
      have t2 : Den X.K (Gz (fun b => F b ∨ b = p) ρ σ H2) d v2 := t2.1
      have h : PostE b fr X F ρ σ W H Q (gd (keyFit true k = true) (.ok (.dic true [(k, d)]))) := h
      by_cases hf : keyFit true k = true
      · rw [gd_pos hf] at h
        obtain ⟨kk, hq⟩ := keyFit_t hf
        obtain ⟨kb, ev, hb⟩ := tkD_V hq ((t.top Gz_le).den Gz_le)
        subst ev
        have m : Le (Gz (fun b => F b ∨ b = p) ρ σ H2) (Gz F ρ σ (upd H2 p (.dT [(kk, v2)]))) := sub_mono fun a o e nn => by
          have ne : a ≠ p := fun z => nn (.inl (.inr z))
          refine ⟨by rw [upd_ne ne]; exact e, fun z => nn (z.elim (fun z => .inl (.inl z)) .inr)⟩
        have lh : Le H (upd H2 p (.dT [(kk, v2)])) := fun a o e => by
          have ne : a ≠ p := fun z => by subst z; rw [hp] at e; cases e
          rw [upd_ne ne]
          exact l2 _ _ (l _ _ (by rw [upd_ne ne]; exact e))
        have m2 : Le (Gz (fun b => F b ∨ b = p) ρ σ H2) (sub (Gz F ρ σ (upd H2 p (.dT [(kk, v2)]))) fun x => x = p) := fun a o e => by
          have ne : a ≠ p := fun z => (sub_some e).2 (.inl (.inr z))
          rw [sub_at (p := fun x => x = p) ne]
          exact m a o e
        refine ⟨_, v2, rfl, l2 _ _ (l _ _ upd_same), kb, kk, rfl, l2 _ _ hb, ?_⟩
        refine h.new lh ⟨?_, fun _ _ => ⟨p, rfl, hp, [(kk, v2)], upd_same, ?_⟩⟩
        · simp only [Den, DenT]
          exact ⟨p, _, rfl, .inl (by rw [S.gz_new hp]; exact upd_same), kk, v2, [], rfl, hq, Den.mono m _ _ t2, rfl⟩
        · simp only [DenT]
          exact ⟨kk, v2, [], rfl, hq, Den.mono m2 _ _ t2, rfl⟩
      · rw [gd_neg hf] at h; exact h.elim
theorem s_and {ies : List E} {xs : List Expr} (ha : PE X x (tZ false (frE ia) X W (evE (run P n) false ia))) (hb : PE X (.BoolOp .And (y :: xs) pos) (tZ false false X W (evAnd (run P n) (ib :: ies)))) :
    PE X (.BoolOp .And (x :: y :: xs) pos) (tZ false false X W (evAnd (run P n) (ia :: ib :: ies))) := by
  have q := pe_and (pos := pos) ha hb
  refine ⟨fun pins s σ H Q I ⟨F, H₀, ρ, S, h⟩ => q.run pins s σ H Q I ?_⟩
  simp only [evAnd] at h
  refine ⟨F, H₀, ρ, S, stepE h fun d v H1 l t h1 => ?_⟩
  have t := ResE.top Gz_le t
  cases d <;> try exact h1.elim
  rename_i k _
  simp only [Top, Den] at t
  refine ⟨k, t, ?_⟩
  cases k with
  | true => exact ⟨F, H₀, ρ, S.grow l, h1⟩
  | false => exact h1.now rfl (by simp [Den])
theorem s_or {ies : List E} {xs : List Expr} (ha : PE X x (tZ false (frE ia) X W (evE (run P n) false ia))) (hb : PE X (.BoolOp .Or (y :: xs) pos) (tZ false false X W (evOr (run P n) (ib :: ies)))) :
    PE X (.BoolOp .Or (x :: y :: xs) pos) (tZ false false X W (evOr (run P n) (ia :: ib :: ies))) := by
  have q := pe_or (pos := pos) ha hb
  refine ⟨fun pins s σ H Q I ⟨F, H₀, ρ, S, h⟩ => q.run pins s σ H Q I ?_⟩
  simp only [evOr] at h
  refine ⟨F, H₀, ρ, S, stepE h fun d v H1 l t h1 => ?_⟩
  have t := ResE.top Gz_le t
  cases d <;> try exact h1.elim
  rename_i k _
  simp only [Top, Den] at t
  refine ⟨k, t, ?_⟩
  cases k with
  | false => exact ⟨F, H₀, ρ, S.grow l, h1⟩
  | true => exact h1.now rfl (by simp [Den])
theorem s_andT {ies : List E} {xs : List Expr} (ha : PT X x (tZT X W (evE (run P n) false ia))) (hb : PW X (.BoolOp .And (y :: xs) pos) (tZT X W (evAnd (run P n) (ib :: ies)))) :
    PW X (.BoolOp .And (x :: y :: xs) pos) (tZT X W (evAnd (run P n) (ia :: ib :: ies))) := by
  have q := pw_and (pos := pos) ha hb
  refine ⟨fun wh pins s σ H Q I ⟨F, H₀, ρ, S, h⟩ => q.run wh pins s σ H Q I ?_⟩
  simp only [evAnd] at h
  refine ⟨F, H₀, ρ, S, stepTT (fun d hd => by cases d <;> first | rfl | exact (hd _ rfl).elim) h fun c H1 l h1 => ?_⟩
  cases c with
  | true => exact ⟨F, H₀, ρ, S.grow l, h1⟩
  | false => exact h1 H1 (Le.refl _)
theorem s_orT {ies : List E} {xs : List Expr} (ha : PT X x (tZT X W (evE (run P n) false ia))) (hb : PW X (.BoolOp .Or (y :: xs) pos) (tZT X W (evOr (run P n) (ib :: ies)))) :
    PW X (.BoolOp .Or (x :: y :: xs) pos) (tZT X W (evOr (run P n) (ia :: ib :: ies))) := by
  have q := pw_or (pos := pos) ha hb
  refine ⟨fun wh pins s σ H Q I ⟨F, H₀, ρ, S, h⟩ => q.run wh pins s σ H Q I ?_⟩
  simp only [evOr] at h
  refine ⟨F, H₀, ρ, S, stepTT (fun d hd => by cases d <;> first | rfl | exact (hd _ rfl).elim) h fun c H1 l h1 => ?_⟩
  cases c with
  | false => exact ⟨F, H₀, ρ, S.grow l, h1⟩
  | true => exact h1 H1 (Le.refl _)
theorem rget_ok {ρ : Rho} {i : Nat} {p : Bool × D} (h : rget ρ i = .ok p) : ρ[i]? = some (some p) := by
  unfold rget at h
  split at h
  · rename_i q e; cases h; exact e
  · cases h
theorem s_var {i : Nat} {nm : Str} (C : Cok P n X sc N W) (hN : N[i]? = some nm) (hv : visC sc nm = true) (hn : nmOk nm = true) : PE X (.Name nm pos) (tZ b false X W (evE (run P n) b (.var i))) := by
  obtain ⟨n1, n2, n3⟩ := nmOk_ne hn
  have q := pe_var (X := X) (i := i) (pos := pos) (by rw [C.N]; exact hN) (by rw [C.sc]; exact visC_vis hv) n1 n2
  refine ⟨fun pins s σ H Q I ⟨F, H₀, ρ, S, h⟩ => q.run pins s σ H Q I ?_⟩
  simp only [evE] at h
  cases hr : rget ρ i with
  | ok p =>
    rw [hr] at h
    obtain ⟨hb, h⟩ := gdE h
    obtain ⟨v, h1, h2, h3⟩ := S.var (rget_ok hr)
    refine ⟨v, h1, h v H (Le.refl _) ?_⟩
    unfold ResE
    split
    · exact h2
    · rename_i nb
      exact .den (h3 (hb.resolve_left nb))
  | exc c fs =>
    unfold rget at hr
    split at hr <;> cases hr
  | bad => rw [hr] at h; exact h.elim
theorem s_glb {nm : String} {i : Int} (C : Cok P n X sc N W) (hg : glC sc (Str.ofString nm) = true) (hn : nmOk (Str.ofString nm) = true) (hm : (nm, i) ∈ P.consts) : PE X (.Name (Str.ofString nm) pos) (tZ b fr X W (evE (run P n) b (.glb nm i))) := by
  obtain ⟨n1, n2, n3⟩ := nmOk_ne hn
  obtain ⟨t, e⟩ := C.cst nm i hm
  have q := pe_glob (X := X) (v := .int i) (pos := pos) (glC_gl C.sc hg) e ⟨t, rfl⟩ n1
  refine ⟨fun pins s σ H Q I ⟨F, H₀, ρ, S, h⟩ => q.run pins s σ H Q I ?_⟩
  simp only [evE] at h
  exact h.now rfl (by simp [Den])
theorem s_int {i : Int} {j : _} : PE X (.Constant (.int i) j pos) (tZ b fr X W (evE (run P n) b (.int i))) := by
  refine ⟨fun pins s σ H Q I ⟨F, H₀, ρ, S, h⟩ => pe_int.run pins s σ H Q I ?_⟩
  simp only [evE] at h
  exact h.now rfl (by simp [Den])
theorem s_bl {i : Bool} {j : _} : PE X (.Constant (.bool i) j pos) (tZ b fr X W (evE (run P n) b (.bl i))) := by
  refine ⟨fun pins s σ H Q I ⟨F, H₀, ρ, S, h⟩ => pe_bl.run pins s σ H Q I ?_⟩
  simp only [evE] at h
  exact h.now rfl (by simp [Den])
theorem s_non {j : _} : PE X (.Constant .none j pos) (tZ b fr X W (evE (run P n) b .non)) := by
  refine ⟨fun pins s σ H Q I ⟨F, H₀, ρ, S, h⟩ => pe_non.run pins s σ H Q I ?_⟩
  simp only [evE] at h
  exact h.now rfl (by simp [Den])
theorem s_str {i : String} {j : _} : PE X (.Constant (.str (Str.ofString i)) j pos) (tZ b fr X W (evE (run P n) b (.str i))) := by
  refine ⟨fun pins s σ H Q I ⟨F, H₀, ρ, S, h⟩ => pe_str.run pins s σ H Q I ?_⟩
  simp only [evE] at h
  exact h.now rfl (by simp [Den])
theorem Cont.denW {K : Frg} {H G G' : Hp} {a : Addr} (h : Le G G') (k : ∀ o, H a = Option.some o → G' a = Option.some o) : ∀ {d : D}, Cont K H G d a → Den K G' d (.ref a)
  | .lst ds, ⟨vs, x, y⟩ => by simp only [Den]; exact ⟨a, vs, rfl, k _ x, DenL.mono h _ _ y⟩
  | .dic false kvs, ⟨ks, x, y⟩ => by simp only [Den]; exact ⟨a, ks, rfl, .inl (k _ x), DenK.mono h _ _ y⟩
  | .dic true kvs, ⟨ks, x, y⟩ => by simp only [Den]; exact ⟨a, ks, rfl, .inl (k _ x), DenT.mono h _ _ y⟩
theorem Gz_F {F : Addr → Prop} {ρ : Rho} {σ : St} {H : Hp} : Le (Gz F ρ σ H) (sub H F) := sub_mono fun a o e n => ⟨e, fun z => n (.inl z)⟩
def PostA (es : List E) (X : Cx) (F : Addr → Prop) (ρ : Rho) (σ : St) (W : WX) (H : Hp) (Q : List V → Hp → Prop) : R (List D) → Prop
  | .ok ds => ∀ vs H', Le H H' → DenL X.K (sub H' F) ds vs → (anyOwn es ρ = false → DenL X.K (Gz F ρ σ H') ds vs) → Q vs H'
  | .exc c fs => ∀ cls dd H', Le H H' → ExcD X.mg H' c fs cls dd → W cls dd σ H'
  | .bad => False
/-- arguments of a def: an own name may be lent -/
def tZA (es : List E) (X : Cx) (W : WX) (r : Rho → R (List D)) : TA := fun σ H Q => ∃ F H₀ ρ, SR X.K F H₀ H ρ σ ∧ PostA es X F ρ σ W H Q (r ρ)
theorem PostA.grow {es : List E} {F : Addr → Prop} {ρ : Rho} {σ : St} {H H1 : Hp} {r : R (List D)} {Q : List V → Hp → Prop} (l : Le H H1) (h : PostA es X F ρ σ W H Q r) : PostA es X F ρ σ W H1 Q r := by
  cases r with
  | ok d => exact fun v H' l' t => h v H' (l.trans l') t
  | exc c fs => exact fun cls dd H' l' e => h cls dd H' (l.trans l') e
  | bad => exact h
theorem stepA2 {e : E} {es : List E} {F : Addr → Prop} {ρ : Rho} {σ : St} {H : Hp} {Q : List V → Hp → Prop} {r : R (List D)} {f : List D → R (List D)} {K : List V → Hp → Prop} (h : PostA (e :: es) X F ρ σ W H Q (r >>= f)) (k : ∀ ds vs H1, Le H H1 → DenL X.K (sub H1 F) ds vs → (anyOwn es ρ = false → DenL X.K (Gz F ρ σ H1) ds vs) → PostA (e :: es) X F ρ σ W H1 Q (f ds) → K vs H1) : PostA es X F ρ σ W H K r := by
  cases r with
  | ok d => exact fun v H1 l t t' => k d v H1 l t t' (PostA.grow l h)
  | exc c fs => exact h
  | bad => exact h
theorem stepA1 {es : List E} {F : Addr → Prop} {ρ : Rho} {σ : St} {H : Hp} {Q : List V → Hp → Prop} {r : R D} {f : D → R (List D)} {K : VK} {b' fr' : Bool} (h : PostA es X F ρ σ W H Q (r >>= f)) (k : ∀ d v H1, Le H H1 → ResE b' fr' X.K H H1 (Gz F ρ σ H1) d v → PostA es X F ρ σ W H1 Q (f d) → K v H1) : PostE b' fr' X F ρ σ W H K r := by
  cases r with
  | ok d => exact fun v H1 l t => k d v H1 l t (PostA.grow l h)
  | exc c fs => exact h
  | bad => exact h
theorem A_nil : PA X [] (tZA [] X W (evA (run P n) [])) := by
  refine ⟨fun pos pins s σ H Q I ⟨F, H₀, ρ, S, h⟩ => pa_nil.run pos pins s σ H Q I ?_⟩
  simp only [evA] at h
  exact h [] H (Le.refl _) (by simp [DenL]) (fun _ => by simp [DenL])
theorem A_cons {ie : E} {ies : List E} {xs : List Expr} (hx : plainX x = true) (hv : isV ie = false) (ha : PE X x (tZ false (frE ie) X W (evE (run P n) false ie))) (hs : PA X xs (tZA ies X W (evA (run P n) ies))) : PA X (x :: xs) (tZA (ie :: ies) X W (evA (run P n) (ie :: ies))) := by
  have q := pa_cons ha hs (plain_star hx)
  refine ⟨fun pos pins s σ H Q I ⟨F, H₀, ρ, S, h⟩ => q.run pos pins s σ H Q I ?_⟩
  simp only [evA, hv] at h
  refine ⟨F, H₀, ρ, S, stepA1 h fun d v H1 l t h1 => ⟨F, H₀, ρ, S.grow l, stepA2 h1 fun ds vs H2 l' t' t'' h2 => ?_⟩⟩
  have t : Den X.K (Gz F ρ σ H1) d v := t.1
  refine h2 (v :: vs) H2 (Le.refl _) ?_ fun z => ?_
  · simp only [DenL]; exact ⟨v, vs, rfl, Den.mono ((Gz_mono l').trans Gz_F) _ _ t, t'⟩
  · simp only [DenL]
    refine ⟨v, vs, rfl, Den.mono (Gz_mono l') _ _ t, t'' ?_⟩
    unfold anyOwn at z ⊢
    rw [List.any_cons, Bool.or_eq_false_iff] at z
    exact z.2
theorem A_var {i : Nat} {nm : Str} {ies : List E} {xs : List Expr} (C : Cok P n X sc N W) (hN : N[i]? = some nm) (hv : visC sc nm = true) (hn : nmOk nm = true) (hs : PA X xs (tZA ies X W (evA (run P n) ies))) : PA X (.Name nm pos :: xs) (tZA (.var i :: ies) X W (evA (run P n) (.var i :: ies))) := by
  obtain ⟨n1, n2, n3⟩ := nmOk_ne hn
  have q0 := pe_var (X := X) (i := i) (pos := pos) (by rw [C.N]; exact hN) (by rw [C.sc]; exact visC_vis hv) n1 n2
  have q := pa_cons q0 hs (plain_star rfl)
  refine ⟨fun ppos pins s σ H Q I ⟨F, H₀, ρ, S, h⟩ => q.run ppos pins s σ H Q I ?_⟩
  simp only [evA, isV, evE] at h
  cases hr : rget ρ i with
  | exc c fs =>
    unfold rget at hr
    split at hr <;> cases hr
  | bad => rw [hr] at h; exact h.elim
  | ok p =>
    rw [hr] at h
    simp only [true_or, gd_pos, bind_ok] at h
    obtain ⟨v, h1, h2, h3⟩ := S.var (rget_ok hr)
    refine ⟨v, h1, F, H₀, ρ, S, stepA2 h fun ds vs H2 l' t' t'' h2' => ?_⟩
    have hd : Den X.K (sub H F) p.2 v := by
      cases ho : p.1 with
      | false => exact Den.mono Gz_F _ _ (h3 ho)
      | true =>
        obtain ⟨a, e1, e2, e3, e4⟩ := S.ow i p.2 (by rw [rget_ok hr, ← ho])
        rw [h1] at e1; cases e1
        exact Cont.denW Gz_F (fun o e => by rw [sub_at e3]; exact e) e4
    refine h2' (v :: vs) H2 (Le.refl _) ?_ fun z => ?_
    · simp only [DenL]; exact ⟨v, vs, rfl, Den.mono (sub_grow l') _ _ hd, t'⟩
    · unfold anyOwn at z
      rw [List.any_cons, Bool.or_eq_false_iff] at z
      have z1 : owned ρ i = false := z.1
      have ho : p.1 = false := by
        unfold owned at z1
        rw [rget_ok hr] at z1
        exact z1
      simp only [DenL]
      exact ⟨v, vs, rfl, Den.mono (Gz_mono l') _ _ (h3 ho), t'' z.2⟩
theorem pure_den {F : Addr → Prop} {H₀ H : Hp} {ρ : Rho} {σ : St} (S : SR X.K F H₀ H ρ σ) {d : D} {v : V} (hp : pureD d = true) (x : Den X.K (sub H F) d v) : Den X.K (Gz F ρ σ H) d v := by
  refine (Den.pure fun a xs e => ?_).1 d v hp x
  obtain ⟨e1, e2⟩ := sub_some e
  unfold Gz
  rw [sub_at]
  · exact e1
  · intro z
    rcases z with z | z
    · exact e2 z
    · obtain ⟨o, e3, e4⟩ := S.own_some z
      rw [e1] at e3
      cases e3
      exact e4 _ rfl
theorem pure_isC {d : D} (h : pureD d = true) : isC d = false := by
  cases d <;> first | rfl | simp [pureD] at h
theorem s_call {k : Nat} {fd : FD} {es : List E} {xs : List Expr} (C : Cok P n X sc N W) (hk : P.fn k = some fd) (hg : glC sc (Str.ofString fd.nm) = true) (hn : nmOk (Str.ofString fd.nm) = true) (hl : chkL P N sc es (x :: xs) = true)
    (ha : PA X (x :: xs) (tZA es X W (evA (run P n) es))) : PE X (.Call (.Name (Str.ofString fd.nm) p) (x :: xs) [] pos) (tZ b fd.fr X W (evE (run P n) b (.call k fd.fr es))) := by
  obtain ⟨n1, n2, n3⟩ := nmOk_ne hn
  have hp : plainX x = true := by
    cases es with
    | nil => simp [chkL] at hl
    | cons i is => simp only [chkL, Bool.and_eq_true] at hl; exact chk_plain hl.1
  have st : (backTo pos (starEach xs X.env)).any (·.1) = false := by
    cases es with
    | nil => simp [chkL] at hl
    | cons i is => simp only [chkL, Bool.and_eq_true] at hl; exact stars_any hl.2
  obtain ⟨fa, fdt, hm, hki, hb, hf⟩ := (C.fns k fd hk).ex
  have q := pe_callS (p := p) (pos := pos) (E := WE W) hf C.room (glC_gl C.sc hg) hm hki hb (fun σ => passAt C.tk σ) ha n1 (plain_star hp) st
  refine ⟨fun pins s σ H Q I ⟨F, H₀, ρ, S, h⟩ => q.run pins s σ H Q I ?_⟩
  simp only [evE] at h
  refine ⟨F, H₀, ρ, S, ?_⟩
  cases hr : evA (run P n) es ρ with
  | exc c fs => rw [hr] at h; exact h
  | bad => rw [hr] at h; exact h
  | ok ds =>
    rw [hr] at h
    simp only [bind_ok] at h
    intro vs H1 l t t'
    have S1 := S.grow l
    have h1 := PostE.grow l h
    cases ho : anyOwn es ρ with
    | false =>
      refine ⟨fun a => F a ∨ Own ρ σ a, ds, fd, hk, S1.kn, t' ho, ?_⟩
      cases hc : run P n k ds with
      | exc c fs => rw [hc] at h1; exact h1
      | bad => rw [hc] at h1; exact h1
      | ok d =>
        rw [hc] at h1
        simp only [bind_ok] at h1
        obtain ⟨_, h1⟩ := gdE h1
        exact fun v H' l' r => h1 v H' l' (ResE.of Gz_le r)
    | true =>
      refine ⟨F, ds, fd, hk, S1.fF, t, ?_⟩
      cases hc : run P n k ds with
      | exc c fs => rw [hc] at h1; exact h1
      | bad => rw [hc] at h1; exact h1
      | ok d =>
        rw [hc] at h1
        simp only [bind_ok] at h1
        obtain ⟨z, h1⟩ := gdE h1
        have z : pureD d = true := z.resolve_left (by rw [ho]; simp)
        refine fun v H' l' r => h1 v H' l' (ResE.of Gz_le ⟨pure_den (S1.grow l') z r.1, fun _ c => ?_⟩)
        rw [pure_isC z] at c
        cases c
theorem relS_keep {scope sc : Scope} {y : Str} {k : NameKind} (hk : k ≠ .free) (h : scope.names.lookup y = some k) : (relS scope sc).names.lookup y = some k := by
  have : ∀ (l : List (Str × NameKind)), l.lookup y = some k → (l.map fun (n, k) => if (k == .free && sc.kind == .function && sc.names.lookup n == some .cell) then (n, NameKind.cell) else (n, k)).lookup y = some k := by
    intro l
    induction l with
    | nil => intro h; cases h
    | cons a r ih =>
      obtain ⟨a1, a2⟩ := a
      intro h
      rw [List.map_cons, List.lookup_cons] at *
      by_cases e : y == a1
      · simp only [e] at h
        cases h
        have : (k == NameKind.free) = false := by cases k <;> first | rfl | exact absurd rfl hk
        simp only [this, Bool.false_and, Bool.false_eq_true, if_false, List.lookup_cons, e]
      · have e' : (y == a1) = false := by simpa using e
        simp only [e'] at h
        have := ih h
        by_cases c : (a2 == NameKind.free && sc.kind == .function && sc.names.lookup a1 == some .cell) = true
        · simp only [c, if_true, List.lookup_cons, e']; exact this
        · simp only [c, Bool.false_eq_true, if_false, List.lookup_cons, e']; exact this
  exact this scope.names h
theorem blk_stn {s : Shared} {H : Hp} {scope : Scope} {Ca : Addr} {cl : List (Str × Addr)} {fp : List Addr} {nm : Str} (h : locC scope nm = true) : StN (X.blk s H scope (compEnvC scope cl Ca X.env) fp) nm := by
  unfold locC at h
  split at h
  · rename_i e
    have e2 := relS_keep (sc := X.env.scope) (by decide) e
    exact ⟨.inl e2, .inr e2⟩
  · rename_i e
    have e2 := relS_keep (sc := X.env.scope) (by decide) e
    exact ⟨.inr e2, .inl (by show (scope.names.lookup nm == some .cell) = true; rw [e]; rfl)⟩
  · cases h
theorem Cok.blk (C : Cok P n X sc N W) (s : Shared) (H : Hp) (scope : Scope) (Ca : Addr) (cl : List (Str × Addr)) (fp : List Addr) : Cok P n (X.blk s H scope (compEnvC scope cl Ca X.env) fp) (relS scope sc) N W0 where
  sc := by rw [← C.sc]; rfl
  N := C.N
  nd := C.nd
  calm := C.calm
  room := C.room
  fns := C.fns
  blt := C.blt
  cst := C.cst
  tk := takes0
  exc := C.exc
  knd := C.knd
theorem fold_plain {e : Expr} (h : plainX e = true) (env : Env) : ∀ v, foldedSetIterable e env v = pure v := by
  intro v
  cases e <;> first | rfl | simp [plainX] at h
theorem s_src {s : Src} {es : List E} {tg iter : Expr} {xs : List Expr} (C : Cok P n X sc N W) (hc : srcCall sc s tg iter = some xs) (hn : es.length = srcN s) (hl : chkL P N sc es xs = true) (hds : dsOk s es = true) (hnv : isKI s = true → ∀ i, es ≠ [.var i])
    (h1 : ∀ ie r e r', es = ie :: r → xs = e :: r' → PE X e (tZ false (frE ie) X W (evE (run P n) false ie))) (ha : PA X xs (tZL false X W (evL (run P n) false es))) : PI X tg iter (tZI X W (srcR (run P n) s es)) := by
  have pl : ∀ {es : List E} {xs : List Expr}, chkL P N sc es xs = true → ∀ x ∈ xs, plainX x = true := by
    intro es
    induction es with
    | nil => intro xs h x hx; simp [chkL] at h; subst h; cases hx
    | cons i is ih =>
      intro xs h x hx
      cases xs with
      | nil => cases hx
      | cons y ys =>
        simp only [chkL, Bool.and_eq_true] at h
        rcases List.mem_cons.mp hx with rfl | hx
        · exact chk_plain h.1
        · exact ih h.2 x hx
  have ln : ∀ {es : List E} {xs : List Expr}, chkL P N sc es xs = true → xs.length = es.length := by
    intro es
    induction es with
    | nil => intro xs h; simp [chkL] at h; subst h; rfl
    | cons i is ih =>
      intro xs h
      cases xs with
      | nil => simp [chkL] at h
      | cons y ys =>
        simp only [chkL, Bool.and_eq_true] at h
        rw [List.length_cons, List.length_cons, ih h.2]
  have p := pl hl
  have l := ln hl
  cases s with
  | seq =>
    simp only [srcCall] at hc
    cases hc
    rcases es with _ | ⟨ie, _ | ⟨i2, r⟩⟩ <;> simp [srcN] at hn
    exact i_seq (h1 _ _ _ _ rfl rfl)
  | sgn =>
    simp only [srcCall] at hc
    cases hc
    rcases es with _ | ⟨ie, _ | ⟨i2, r⟩⟩ <;> simp [srcN] at hn
    exact i_str (h1 _ _ _ _ rfl rfl)
  | keys =>
    simp only [srcCall] at hc
    cases hc
    rcases es with _ | ⟨ie, _ | ⟨i2, r⟩⟩ <;> simp [srcN] at hn
    cases ie <;> simp only [dsOk] at hds <;> first | (cases hds; done) | skip
    · exact (hnv rfl _ rfl).elim
    · exact i_keysF (by simpa [frE] using hds) (h1 _ _ _ _ rfl rfl)
  | items =>
    simp only [srcCall] at hc
    split at hc
    · rename_i q
      split at hc <;> first | (cases hc; done) | skip
      rename_i o hm
      cases hc
      cases tg <;> simp [isTup] at q
      obtain ⟨ap, cp, rfl, hline, hbase⟩ := mthOf_some hm
      rcases es with _ | ⟨ie, _ | ⟨i2, r⟩⟩ <;> simp [srcN] at hn
      cases ie <;> simp only [dsOk] at hds <;> first | (cases hds; done) | skip
      · exact (hnv rfl _ rfl).elim
      · exact i_itemsF (by simpa [frE] using hds) (hbase _ _ _) hline (h1 _ _ _ _ rfl rfl)
    · cases hc
  | rng1 =>
    obtain ⟨p1, pos, rfl, hg, _⟩ := callOf_some hc
    simp only [srcN] at hn
    rcases xs with _ | ⟨x, _ | ⟨y, r⟩⟩ <;> simp [hn] at l
    exact i_rng1 C hg (p x (by simp)) ha
  | rng2 =>
    obtain ⟨p1, pos, rfl, hg, _⟩ := callOf_some hc
    simp only [srcN] at hn
    rcases xs with _ | ⟨x, _ | ⟨y, _ | ⟨z, r⟩⟩⟩ <;> simp [hn] at l
    exact i_rng2 C hg (p x (by simp)) (p y (by simp)) ha
  | rng3 =>
    obtain ⟨p1, pos, rfl, hg, _⟩ := callOf_some hc
    simp only [srcN] at hn
    rcases xs with _ | ⟨x, _ | ⟨y, _ | ⟨z, _ | ⟨u, r⟩⟩⟩⟩ <;> simp [hn] at l
    exact i_rng3 C hg (p x (by simp)) (p y (by simp)) (p z (by simp)) ha
  | enum k =>
    simp only [srcCall] at hc
    split at hc
    · rename_i q
      obtain ⟨rfl, q⟩ := q
      cases tg <;> simp [isTup] at q
      obtain ⟨p1, pos, rfl, hg, _⟩ := callOf_some hc
      simp only [srcN] at hn
      rcases xs with _ | ⟨x, _ | ⟨y, r⟩⟩ <;> simp [hn] at l
      exact i_enum C hg (p x (by simp)) ha
    · cases hc
  | zip =>
    simp only [srcCall] at hc
    split at hc
    · rename_i q
      cases tg <;> simp [isTup] at q
      obtain ⟨p1, pos, rfl, hg, _⟩ := callOf_some hc
      simp only [srcN] at hn
      rcases xs with _ | ⟨x, _ | ⟨y, _ | ⟨z, r⟩⟩⟩ <;> simp [hn] at l
      exact i_zip C hg (p x (by simp)) (p y (by simp)) ha
    · cases hc
theorem dv_cases (s : Src) (es : List E) (h : dsOk s es = true) : (isKI s = true → ∀ i, es ≠ [.var i]) ∨ ∃ i, es = [.var i] ∧ isKI s = true := by
  by_cases hk : isKI s = true
  · by_cases hv : ∃ i, es = [.var i]
    · obtain ⟨i, hv⟩ := hv; exact .inr ⟨i, hv, hk⟩
    · exact .inl fun _ i e => hv ⟨i, e⟩
  · exact .inl fun z => absurd z hk
theorem s_srcN {s : Src} {i : Nat} {tg iter : Expr} {xs : List Expr} (C : Cok P n X sc N W) (hk : isKI s = true) (hc : srcCall sc s tg iter = some xs) (hl : chkL P N sc [.var i] xs = true) : PI X tg iter (tZIf i X W (srcR (run P n) s [.var i])) := by
  cases s <;> simp only [isKI] at hk <;> first | (cases hk; done) | skip
  · simp only [srcCall] at hc
    cases hc
    simp only [chkL, Bool.and_eq_true] at hl
    have hl := hl.1
    unfold chkE at hl
    split at hl <;> first | (cases hl; done) | skip
    simp only [Bool.and_eq_true, decide_eq_true_eq] at hl
    exact i_keysN C hl.1.1 hl.1.2 hl.2
  · simp only [srcCall] at hc
    split at hc
    · rename_i q
      split at hc <;> first | (cases hc; done) | skip
      rename_i o hm
      cases hc
      cases tg <;> simp [isTup] at q
      obtain ⟨ap, cp, rfl, hline, hbase⟩ := mthOf_some hm
      simp only [chkL, Bool.and_eq_true] at hl
      have hl := hl.1
      unfold chkE at hl
      split at hl <;> first | (cases hl; done) | skip
      simp only [Bool.and_eq_true, decide_eq_true_eq] at hl
      exact i_itemsN C hl.1.1 hl.1.2 hl.2 hline
    · cases hc
theorem c_none : PTs X [] (tZB X W (evC (run P n) none)) := by
  refine ⟨fun pins s σ H Q I ⟨F, H₀, ρ, S, h⟩ => pts_nil.run pins s σ H Q I ?_⟩
  simp only [evC] at h
  exact h H (Le.refl _)
theorem c_some (h : PT X x (tZT X W (evE (run P n) false ia))) : PTs X [x] (tZB X W (evC (run P n) (some ia))) := by
  have q := pts_one h
  refine ⟨fun pins s σ H Q I ⟨F, H₀, ρ, S, h⟩ => q.run pins s σ H Q I ⟨F, H₀, ρ, S, ?_⟩⟩
  simp only [evC] at h
  cases hr : evE (run P n) false ia ρ with
  | ok d =>
    rw [hr] at h
    cases d <;> exact h
  | exc c fs => rw [hr] at h; exact h
  | bad => rw [hr] at h; exact h
theorem ownN_snd {p : Pat} : (ownN N p).map (·.2) = patL p := by
  unfold ownN
  rw [List.map_map]
  exact List.map_id _
theorem chk_call {es : List E} {xs : List Expr} (h : chkL P N sc es (x :: xs) = true) : True := trivial
end
mutual
theorem sE : ∀ (ie : E) (e : Expr) {X : Cx} {sc : Scope} {W : WX} {b : Bool}, Cok P n X sc N W → chkE P N sc ie e = true → PE X e (tZ b (frE ie) X W (evE (run P n) b ie))
  | .var i, e, X, sc, W, b, C, h => by
    cases e <;> simp [chkE] at h
    exact s_var C h.1.1 h.1.2 h.2
  | .non, e, X, sc, W, b, C, h => by
    cases e <;> simp [chkE] at h
    rename_i c _ _
    cases c <;> simp at h
    exact s_non
  | .bl _, e, X, sc, W, b, C, h => by
    cases e <;> simp [chkE] at h
    rename_i c _ _
    cases c <;> simp at h
    subst h
    exact s_bl
  | .int _, e, X, sc, W, b, C, h => by
    cases e <;> simp [chkE] at h
    rename_i c _ _
    cases c <;> simp at h
    subst h
    exact s_int
  | .str _, e, X, sc, W, b, C, h => by
    cases e <;> simp [chkE] at h
    rename_i c _ _
    cases c <;> simp at h
    subst h
    exact s_str
  | .glb nm i, e, X, sc, W, b, C, h => by
    cases e <;> simp [chkE] at h
    obtain ⟨⟨⟨rfl, h2⟩, h3⟩, h4⟩ := h
    exact s_glb C h2 h3 h4
  | .tup es, e, X, sc, W, b, C, h => by
    cases e <;> simp [chkE] at h
    exact s_tup h.1 (sL es _ C h.2)
  | .lst es, e, X, sc, W, b, C, h => by
    cases e <;> simp [chkE] at h
    exact s_lst h.1 (sL es _ C h.2)
  | .dct0 t, e, X, sc, W, b, C, h => by
    cases e <;> simp [chkE] at h
    rename_i ks vs _
    cases ks <;> cases vs <;> simp at h
    exact s_dct0
  | .dsp t p q, e, X, sc, W, b, C, h => by
    unfold chkE at h
    split at h <;> first | (cases h; done) | skip
    simp only [Bool.and_eq_true] at h
    obtain ⟨h1, h2⟩ := h
    cases t with
    | false => exact s_dspK (sE p _ C h1) (sE q _ C h2)
    | true => exact s_dspT C (sE p _ C h1) (sE q _ C h2)
  | .bin o p q, e, X, sc, W, b, C, h => by
    cases e <;> simp [chkE] at h
    obtain ⟨⟨rfl, h1⟩, h2⟩ := h
    exact s_bin (sE p _ C h1) (sE q _ C h2)
  | .neg p, e, X, sc, W, b, C, h => by
    cases e <;> simp [chkE] at h
    rename_i op _ _
    cases op <;> simp at h
    exact s_neg (sE p _ C h)
  | .cmp o p q, e, X, sc, W, b, C, h => by
    cases e <;> simp [chkE] at h
    rename_i x ops ys _
    rcases ops with _ | ⟨o1, _ | ⟨o2, _⟩⟩ <;> rcases ys with _ | ⟨y, _ | ⟨y2, _⟩⟩ <;> simp at h
    obtain ⟨⟨rfl, h1⟩, h2⟩ := h
    exact s_cmp C (chk_plain h2) (sE p _ C h1) (sE q _ C h2)
  | .chain o o' p q r, e, X, sc, W, b, C, h => by
    cases e <;> simp [chkE] at h
    rename_i x ops ys _
    rcases ops with _ | ⟨o1, _ | ⟨o2, _ | ⟨o3, _⟩⟩⟩ <;> rcases ys with _ | ⟨y, _ | ⟨y2, _ | ⟨y3, _⟩⟩⟩ <;> simp at h
    obtain ⟨⟨⟨⟨rfl, rfl⟩, h1⟩, h2⟩, h3⟩ := h
    exact s_chain C (chk_plain h3) (sE p _ C h1) (sE q _ C h2) (sE r _ C h3)
  | .and es, e, X, sc, W, b, C, h => by
    cases e <;> simp [chkE] at h
    rename_i op xs _
    cases op <;> simp at h
    refine tZ_weak (fr := false) (fun z => by cases z) ?_
    have q := sAnd es xs C h.2 (pos := by assumption)
    refine ⟨fun pins s σ H Q I ⟨F, H₀, ρ, S, h⟩ => q.run pins s σ H Q I ⟨F, H₀, ρ, S, ?_⟩⟩
    simp only [evE] at h
    exact h
  | .or es, e, X, sc, W, b, C, h => by
    cases e <;> simp [chkE] at h
    rename_i op xs _
    cases op <;> simp at h
    refine tZ_weak (fr := false) (fun z => by cases z) ?_
    have q := sOr es xs C h.2 (pos := by assumption)
    refine ⟨fun pins s σ H Q I ⟨F, H₀, ρ, S, h⟩ => q.run pins s σ H Q I ⟨F, H₀, ρ, S, ?_⟩⟩
    simp only [evE] at h
    exact h
  | .not p, e, X, sc, W, b, C, h => by
    cases e <;> simp [chkE] at h
    rename_i op _ _
    cases op <;> simp at h
    exact s_not (sE p _ C h.2)
  | .ife c p q, e, X, sc, W, b, C, h => by
    cases e <;> simp [chkE] at h
    refine s_ife (fa := true) (fb := true) (sT c _ C h.1.1.1 h.1.1.2) (tZ_weak ?_ (sE p _ C h.1.2)) (tZ_weak ?_ (sE q _ C h.2)) <;> simp [frE] <;> exact fun a b => by assumption
  | .idx p q, e, X, sc, W, b, C, h => by
    cases e <;> simp [chkE] at h
    exact s_idx C (chk_plain h.2) (sE p _ C h.1) (sE q _ C h.2)
  | .slc p lo hi, e, X, sc, W, b, C, h => by
    unfold chkE at h
    split at h
    · simp only [Bool.and_eq_true] at h
      exact s_slc (sE p _ C h.1.1) (sO lo _ C h.1.2) (sO hi _ C h.2)
    · cases h
  | .rev p, e, X, sc, W, b, C, h => by
    unfold chkE at h
    split at h <;> first | (cases h; done) | skip
    exact s_rev (sE p _ C h)
  | .call k fr es, e, X, sc, W, b, C, h => by
    simp only [chkE] at h
    split at h
    · cases h
    · rename_i fd hk
      split at h
      · rename_i x xs hc
        simp only [Bool.and_eq_true, beq_iff_eq] at h
        obtain ⟨p, pos, rfl, hg, hn⟩ := callOf_some hc
        obtain ⟨rfl, h⟩ := h
        exact s_call C hk hg hn h (sA es _ C h)
      · cases h
  | .bi bb es, e, X, sc, W, b, C, h => by
    rw [chkE] at h
    split at h
    · rename_i xs hc
      simp only [Bool.and_eq_true, decide_eq_true_eq] at h
      exact tZ_any (s_bi_all C hc h.1 h.2 (s1t es _ C h.2) (sL es _ C h.2))
    · cases h
  | .isi p t, e, X, sc, W, b, C, h => by
    simp only [chkE] at h
    split at h
    · rename_i x y pos hc
      simp only [Bool.and_eq_true, beq_iff_eq] at h
      obtain ⟨p1, pos, rfl, hg, hn⟩ := callOf_some hc
      obtain ⟨⟨⟨h1, rfl⟩, h2⟩, h3⟩ := h
      exact s_isi C hg h2 (chk_plain h1) (sE p _ C h1)
    · cases h
  | .get1 p q, e, X, sc, W, b, C, h => by
    rw [chkE] at h
    split at h
    · rename_i o x hc
      simp only [Bool.and_eq_true] at h
      obtain ⟨ap, cp, rfl, hl, hb⟩ := mthOf_some hc
      exact s_get1 C hb (chk_plain h.2) hl (sE p _ C h.1) (sE q _ C h.2)
    · cases h
  | .get2 p q r, e, X, sc, W, b, C, h => by
    rw [chkE] at h
    split at h
    · rename_i o x y hc
      simp only [Bool.and_eq_true] at h
      obtain ⟨ap, cp, rfl, hl, hb⟩ := mthOf_some hc
      exact s_get2 C hb (chk_plain h.1.2) (chk_plain h.2) hl (sE p _ C h.1.1) (sE q _ C h.1.2) (sE r _ C h.2)
    · cases h
  | .count p q, e, X, sc, W, b, C, h => by
    rw [chkE] at h
    split at h
    · rename_i o x hc
      simp only [Bool.and_eq_true] at h
      obtain ⟨ap, cp, rfl, hl, hb⟩ := mthOf_some hc
      exact s_count C hb (chk_plain h.2) hl (sE p _ C h.1) (sE q _ C h.2)
    · cases h
  | .index p q, e, X, sc, W, b, C, h => by
    rw [chkE] at h
    split at h
    · rename_i o x hc
      simp only [Bool.and_eq_true] at h
      obtain ⟨ap, cp, rfl, hl, hb⟩ := mthOf_some hc
      exact s_index C hb (chk_plain h.2) hl (sE p _ C h.1) (sE q _ C h.2)
    · cases h
  | .comp elt p s es c, e, X, sc, W, b, C, h => by
    unfold chkE at h
    split at h
    · split at h
      · rename_i xs hc
        simp only [Bool.and_eq_true, decide_eq_true_eq] at h
        obtain ⟨⟨⟨⟨⟨⟨⟨h0, h1⟩, h2⟩, h3⟩, hds⟩, h4⟩, h5⟩, h6⟩ := h
        rcases dv_cases s es hds with hnv | ⟨i, rfl, hk⟩
        · exact tZ_any (s_comp C (s_src C hc h3 h2 hds hnv (s1 es _ C h2) (sL es _ C h2)) (by rw [C.N, C.sc]; exact blkOk_by h4) ownN_snd (fun s H Ca cl fp => s_pat (N := N) (lc := locC _) C.N C.nd C.calm (fun x hx => blk_stn hx) h1)
            (fun s H Ca cl fp => sC c _ (C.blk s H _ Ca cl fp) h6) (fun s H Ca cl fp => sE elt _ (C.blk s H _ Ca cl fp) h5) (fold_plain h0 _))
        · exact tZ_any (s_compN C hk (s_srcN C hk hc h2) (by rw [C.N, C.sc]; exact blkOk_by h4) ownN_snd (fun s H Ca cl fp => s_pat (N := N) (lc := locC _) C.N C.nd C.calm (fun x hx => blk_stn hx) h1)
            (fun s H Ca cl fp => sC c _ (C.blk s H _ Ca cl fp) h6) (fun s H Ca cl fp => sE elt _ (C.blk s H _ Ca cl fp) h5) (fold_plain h0 _))
      · cases h
    · cases h
theorem sC : ∀ (c : Option E) (xs : List Expr) {X : Cx} {sc : Scope} {W : WX}, Cok P n X sc N W → chkC P N sc c xs = true → PTs X xs (tZB X W (evC (run P n) c))
  | none, xs, X, sc, W, C, h => by
    simp [chkC] at h
    subst h
    exact c_none
  | some ie, xs, X, sc, W, C, h => by
    rcases xs with _ | ⟨x, _ | ⟨y, r⟩⟩ <;> simp [chkC] at h
    exact c_some (sT ie _ C h.1 h.2)
theorem s1 : ∀ (es : List E) (xs : List Expr) {X : Cx} {sc : Scope} {W : WX}, Cok P n X sc N W → chkL P N sc es xs = true → ∀ ie r e r', es = ie :: r → xs = e :: r' → PE X e (tZ false (frE ie) X W (evE (run P n) false ie))
  | [], xs, X, sc, W, C, h, ie, r, e, r', h1, h2 => by cases h1
  | i :: is, xs, X, sc, W, C, h, ie, r, e, r', h1, h2 => by
    cases h1
    subst h2
    simp only [chkL, Bool.and_eq_true] at h
    exact sE i _ C h.1
theorem s1t : ∀ (es : List E) (xs : List Expr) {X : Cx} {sc : Scope} {W : WX}, Cok P n X sc N W → chkL P N sc es xs = true → ∀ ie r e r', es = ie :: r → xs = e :: r' → PE X e (tZ true (frE ie) X W (evE (run P n) true ie))
  | [], xs, X, sc, W, C, h, ie, r, e, r', h1, h2 => by cases h1
  | i :: is, xs, X, sc, W, C, h, ie, r, e, r', h1, h2 => by
    cases h1
    subst h2
    simp only [chkL, Bool.and_eq_true] at h
    exact sE i _ C h.1
theorem sL : ∀ (es : List E) (xs : List Expr) {X : Cx} {sc : Scope} {W : WX} {b : Bool}, Cok P n X sc N W → chkL P N sc es xs = true → PA X xs (tZL b X W (evL (run P n) b es))
  | [], xs, X, sc, W, b, C, h => by
    simp [chkL] at h
    subst h
    exact a_nil
  | ie :: ies, xs, X, sc, W, b, C, h => by
    cases xs <;> simp [chkL] at h
    exact a_cons (chk_plain h.1) (sE ie _ C h.1) (sL ies _ C h.2)
theorem sA : ∀ (es : List E) (xs : List Expr) {X : Cx} {sc : Scope} {W : WX}, Cok P n X sc N W → chkL P N sc es xs = true → PA X xs (tZA es X W (evA (run P n) es))
  | [], xs, X, sc, W, C, h => by
    simp [chkL] at h
    subst h
    exact A_nil
  | ie :: ies, xs, X, sc, W, C, h => by
    cases xs <;> simp [chkL] at h
    cases hv : isV ie with
    | false => exact A_cons (chk_plain h.1) hv (sE ie _ C h.1) (sA ies _ C h.2)
    | true =>
      cases ie <;> simp [isV] at hv
      rename_i x xs i
      obtain ⟨h1, h2⟩ := h
      cases x <;> simp [chkE] at h1
      exact A_var C h1.1.1 h1.1.2 h1.2 (sA ies _ C h2)
theorem sO : ∀ (es : Option E) (xs : Option Expr) {X : Cx} {sc : Scope} {W : WX}, Cok P n X sc N W → chkO P N sc es xs = true → PO X xs (tZO X W (evO (run P n) es))
  | none, xs, X, sc, W, C, h => by
    simp [chkO] at h
    subst h
    exact o_none
  | some ie, xs, X, sc, W, C, h => by
    cases xs <;> simp [chkO] at h
    exact o_some (sE ie _ C h)
theorem sAnd : ∀ (es : List E) (xs : List Expr) {X : Cx} {sc : Scope} {W : WX} {pos : Pos}, Cok P n X sc N W → chkL P N sc es xs = true → PE X (.BoolOp .And xs pos) (tZ false false X W (evAnd (run P n) es))
  | [], xs, X, sc, W, pos, C, h => by
    exact ⟨fun pins s σ H Q I ⟨F, H₀, ρ, S, h⟩ => by simp only [evAnd] at h; exact h.elim⟩
  | [ie], xs, X, sc, W, pos, C, h => by
    rcases xs with _ | ⟨x, _ | ⟨y, xs⟩⟩ <;> simp [chkL] at h
    have q := pe_one (op := .And) (pos := pos) (sE ie _ C h (b := false))
    have q := tZ_weak (b := false) (fr' := false) (fun z => nomatch z) q
    refine ⟨fun pins s σ H Q I ⟨F, H₀, ρ, S, h⟩ => q.run pins s σ H Q I ⟨F, H₀, ρ, S, ?_⟩⟩
    simp only [evAnd] at h
    exact h
  | ie :: ie2 :: ies, xs, X, sc, W, pos, C, h => by
    rcases xs with _ | ⟨x, _ | ⟨y, xs⟩⟩
    · simp [chkL] at h
    · simp [chkL] at h
    · rw [chkL, Bool.and_eq_true] at h
      exact s_and (sE ie _ C h.1) (sAnd (ie2 :: ies) _ C h.2)
theorem sOr : ∀ (es : List E) (xs : List Expr) {X : Cx} {sc : Scope} {W : WX} {pos : Pos}, Cok P n X sc N W → chkL P N sc es xs = true → PE X (.BoolOp .Or xs pos) (tZ false false X W (evOr (run P n) es))
  | [], xs, X, sc, W, pos, C, h => by
    exact ⟨fun pins s σ H Q I ⟨F, H₀, ρ, S, h⟩ => by simp only [evOr] at h; exact h.elim⟩
  | [ie], xs, X, sc, W, pos, C, h => by
    rcases xs with _ | ⟨x, _ | ⟨y, xs⟩⟩ <;> simp [chkL] at h
    have q := pe_one (op := .Or) (pos := pos) (sE ie _ C h (b := false))
    have q := tZ_weak (b := false) (fr' := false) (fun z => nomatch z) q
    refine ⟨fun pins s σ H Q I ⟨F, H₀, ρ, S, h⟩ => q.run pins s σ H Q I ⟨F, H₀, ρ, S, ?_⟩⟩
    simp only [evOr] at h
    exact h
  | ie :: ie2 :: ies, xs, X, sc, W, pos, C, h => by
    rcases xs with _ | ⟨x, _ | ⟨y, xs⟩⟩
    · simp [chkL] at h
    · simp [chkL] at h
    · rw [chkL, Bool.and_eq_true] at h
      exact s_or (sE ie _ C h.1) (sOr (ie2 :: ies) _ C h.2)
theorem sAndT : ∀ (es : List E) (xs : List Expr) {X : Cx} {sc : Scope} {W : WX} {pos : Pos}, Cok P n X sc N W → es.all tstOk = true → chkL P N sc es xs = true → PW X (.BoolOp .And xs pos) (tZT X W (evAnd (run P n) es))
  | [], xs, X, sc, W, pos, C, t, h => by
    exact ⟨fun wh pins s σ H Q I ⟨F, H₀, ρ, S, h⟩ => by simp only [evAnd] at h; exact h.elim⟩
  | [ie], xs, X, sc, W, pos, C, t, h => by
    rcases xs with _ | ⟨x, _ | ⟨y, xs⟩⟩ <;> simp [chkL] at h
    have q := pw_and1 (pos := pos) (sT ie _ C (by simpa using t) h)
    refine ⟨fun wh pins s σ H Q I ⟨F, H₀, ρ, S, h⟩ => q.run wh pins s σ H Q I ⟨F, H₀, ρ, S, ?_⟩⟩
    simp only [evAnd] at h
    exact h
  | ie :: ie2 :: ies, xs, X, sc, W, pos, C, t, h => by
    rcases xs with _ | ⟨x, _ | ⟨y, xs⟩⟩
    · simp [chkL] at h
    · simp [chkL] at h
    · rw [chkL, Bool.and_eq_true] at h
      rw [List.all_cons, Bool.and_eq_true] at t
      exact s_andT (sT ie _ C t.1 h.1) (sAndT (ie2 :: ies) _ C t.2 h.2)
theorem sOrT : ∀ (es : List E) (xs : List Expr) {X : Cx} {sc : Scope} {W : WX} {pos : Pos}, Cok P n X sc N W → es.all tstOk = true → chkL P N sc es xs = true → PW X (.BoolOp .Or xs pos) (tZT X W (evOr (run P n) es))
  | [], xs, X, sc, W, pos, C, t, h => by
    exact ⟨fun wh pins s σ H Q I ⟨F, H₀, ρ, S, h⟩ => by simp only [evOr] at h; exact h.elim⟩
  | [ie], xs, X, sc, W, pos, C, t, h => by
    rcases xs with _ | ⟨x, _ | ⟨y, xs⟩⟩ <;> simp [chkL] at h
    have q := pw_or1 (pos := pos) (sT ie _ C (by simpa using t) h)
    refine ⟨fun wh pins s σ H Q I ⟨F, H₀, ρ, S, h⟩ => q.run wh pins s σ H Q I ⟨F, H₀, ρ, S, ?_⟩⟩
    simp only [evOr] at h
    exact h
  | ie :: ie2 :: ies, xs, X, sc, W, pos, C, t, h => by
    rcases xs with _ | ⟨x, _ | ⟨y, xs⟩⟩
    · simp [chkL] at h
    · simp [chkL] at h
    · rw [chkL, Bool.and_eq_true] at h
      rw [List.all_cons, Bool.and_eq_true] at t
      exact s_orT (sT ie _ C t.1 h.1) (sOrT (ie2 :: ies) _ C t.2 h.2)

theorem sT : ∀ (ie : E) (e : Expr) {X : Cx} {sc : Scope} {W : WX}, Cok P n X sc N W → tstOk ie = true → chkE P N sc ie e = true → PT X e (tZT X W (evE (run P n) false ie))
  | .cmp o p q, e, X, sc, W, C, t, h => by
    cases e <;> simp [chkE] at h
    rename_i x ops ys _
    rcases ops with _ | ⟨o1, _ | ⟨o2, _⟩⟩ <;> rcases ys with _ | ⟨y, _ | ⟨y2, _⟩⟩ <;> simp at h
    obtain ⟨⟨rfl, h1⟩, h2⟩ := h
    exact s_cmpT C (chk_plain h2) (sE p _ C h1) (sE q _ C h2)
  | .chain o o' p q r, e, X, sc, W, C, t, h => by
    cases e <;> simp [chkE] at h
    rename_i x ops ys _
    rcases ops with _ | ⟨o1, _ | ⟨o2, _ | ⟨o3, _⟩⟩⟩ <;> rcases ys with _ | ⟨y, _ | ⟨y2, _ | ⟨y3, _⟩⟩⟩ <;> simp at h
    obtain ⟨⟨⟨⟨rfl, rfl⟩, h1⟩, h2⟩, h3⟩ := h
    exact s_chainT C (chk_plain h3) (sE p _ C h1) (sE q _ C h2) (sE r _ C h3)
  | .and es, e, X, sc, W, C, t, h => by
    cases e <;> simp [chkE] at h
    rename_i op xs _
    cases op <;> simp at h
    have q := (sAndT es xs C (by simpa using h.1) h.2 (pos := by assumption)).pt
    refine ⟨fun pins s σ H Q I ⟨F, H₀, ρ, S, h⟩ => q.run pins s σ H Q I ⟨F, H₀, ρ, S, ?_⟩⟩
    simp only [evE] at h
    exact h
  | .or es, e, X, sc, W, C, t, h => by
    cases e <;> simp [chkE] at h
    rename_i op xs _
    cases op <;> simp at h
    have q := (sOrT es xs C (by simpa using h.1) h.2 (pos := by assumption)).pt
    refine ⟨fun pins s σ H Q I ⟨F, H₀, ρ, S, h⟩ => q.run pins s σ H Q I ⟨F, H₀, ρ, S, ?_⟩⟩
    simp only [evE] at h
    exact h
  | .not p, e, X, sc, W, C, t, h => by
    cases e <;> simp [chkE] at h
    rename_i op _ _
    cases op <;> simp at h
    exact s_notT (sT p _ C h.1 h.2)
  | .var i, e, X, sc, W, C, t, h => by
    have q := sE (.var i) e C h (b := false)
    cases e <;> simp [chkE] at h
    exact t_val q fun _ => rfl
  | .bl i, e, X, sc, W, C, t, h => by
    have q := sE (.bl i) e C h (b := false)
    cases e <;> simp [chkE] at h
    exact t_val q fun _ => rfl
  | .call k fr es, e, X, sc, W, C, t, h => by
    have q := sE (.call k fr es) e C h (b := false)
    simp only [chkE] at h
    split at h
    · cases h
    · split at h
      · rename_i hc
        obtain ⟨p, pos, rfl, hg, hn⟩ := callOf_some hc
        exact t_val q fun _ => rfl
      · cases h
  | .isi p i, e, X, sc, W, C, t, h => by
    have q := sE (.isi p i) e C h (b := false)
    rw [chkE] at h
    split at h
    · rename_i hc
      obtain ⟨p, pos, rfl, hg, hn⟩ := callOf_some hc
      exact t_val q fun _ => rfl
    · cases h
  | .bi p i, e, X, sc, W, C, t, h => by
    have q := sE (.bi p i) e C h (b := false)
    rw [chkE] at h
    split at h
    · rename_i hc
      obtain ⟨_, _, _, _, rfl⟩ := biCall_some hc
      exact t_val q fun _ => rfl
    · cases h
  | .idx p i, e, X, sc, W, C, t, h => by
    have q := sE (.idx p i) e C h (b := false)
    cases e <;> simp [chkE] at h
    exact t_val q fun _ => rfl
  | .non, e, X, sc, W, C, t, h => by simp [tstOk] at t
  | .int _, e, X, sc, W, C, t, h => by simp [tstOk] at t
  | .str _, e, X, sc, W, C, t, h => by simp [tstOk] at t
  | .glb _ _, e, X, sc, W, C, t, h => by simp [tstOk] at t
  | .tup _, e, X, sc, W, C, t, h => by simp [tstOk] at t
  | .lst _, e, X, sc, W, C, t, h => by simp [tstOk] at t
  | .dct0 _, e, X, sc, W, C, t, h => by simp [tstOk] at t
  | .dsp _ _ _, e, X, sc, W, C, t, h => by simp [tstOk] at t
  | .bin _ _ _, e, X, sc, W, C, t, h => by simp [tstOk] at t
  | .neg _, e, X, sc, W, C, t, h => by simp [tstOk] at t
  | .ife _ _ _, e, X, sc, W, C, t, h => by simp [tstOk] at t
  | .slc _ _ _, e, X, sc, W, C, t, h => by simp [tstOk] at t
  | .rev _, e, X, sc, W, C, t, h => by simp [tstOk] at t
  | .get1 _ _, e, X, sc, W, C, t, h => by simp [tstOk] at t
  | .get2 _ _ _, e, X, sc, W, C, t, h => by simp [tstOk] at t
  | .count _ _, e, X, sc, W, C, t, h => by simp [tstOk] at t
  | .index _ _, e, X, sc, W, C, t, h => by simp [tstOk] at t
  | .comp _ _ _ _ _, e, X, sc, W, C, t, h => by simp [tstOk] at t
end
/-- a statement  name = e  -/
def swB (sc : Scope) (x : Str) (px : Pos) : Expr → Bool
  | .ListComp _ _ s pos => (sc.names.lookup x == some .local) && (px.line == pos.line) && !(s.names.any fun (n, k) => n == x && (k == .local || k == .cell))
  | _ => false
theorem chk_lc {sc : Scope} {ie : E} {x : Expr} {gs : List Comprehension} {s : Scope} {p : Pos} (h : chkE P N sc ie (.ListComp x gs s p) = true) : ∃ a b c d e, ie = .comp a b c d e := by
  cases ie <;> first | exact ⟨_, _, _, _, _, rfl⟩ | skip
  all_goals
    simp only [chkE] at h
    first | (cases h; done) | skip
  all_goals
    split at h <;> first | (cases h; done) | skip
  all_goals
    first
    | (rename_i hc; obtain ⟨_, _, _, _, z⟩ := biCall_some hc; cases z; done)
    | (rename_i hc; obtain ⟨_, _, _, _, z⟩ := callOf_is hc; cases z; done)
    | (split at h <;> first | (cases h; done) | (rename_i hc; obtain ⟨_, _, _, _, z⟩ := callOf_is hc; cases z; done))
theorem asg_e {ie : E} {e : Expr} {X : Cx} {sc : Scope} {W : WX} {i : Nat} {nm : Str} {p pos : Pos} (hk : X.env.scope.kind = .function) (C : Cok P n X sc N W) (hN : N[i]? = some nm) (hx : StN X nm) (h : chkE P N sc ie e = true) :
    PS X (.Assign [.Name nm p] e pos) (tAsg (tZ false (frE ie) X W (evE (run P n) false ie)) (gName i)) := by
  have plain : swapsWith e (some (.Name nm p)) pos.line X.env = pure false → PS X (.Assign [.Name nm p] e pos) (tAsg (tZ false (frE ie) X W (evE (run P n) false ie)) (gName i)) := fun hs =>
    ps_set (X := X) (i := i) (pos := pos) (pos' := p) C.nd (by rw [C.N]; exact hN) hx.1 (sE ie e C h) hs hx.2
  cases hsw : swB sc nm p e with
  | false =>
    refine plain ?_
    have hp := chk_plain h
    cases e <;> first | rfl | (simp [plainX] at hp; done) | skip
    rename_i elt gs s cpos
    have hb : X.env.blockKind = .function := by unfold Env.blockKind; rw [hk]; rfl
    have ky : X.env.kindOf nm = sc.names.lookup nm := by unfold Env.kindOf; rw [C.sc]
    unfold swB at hsw
    unfold swapsWith
    simp only [hb, ky, Expr.pos]
    simp only [beq_self_eq_true, Bool.true_and]
    first
      | rw [hsw]
      | (show pure _ = _
         congr 1)
  | true =>
    cases e <;> simp only [swB] at hsw <;> first | (cases hsw; done) | skip
    rename_i elt gs s cpos
    simp only [Bool.and_eq_true, Bool.not_eq_true', beq_iff_eq] at hsw
    obtain ⟨⟨s1, s2⟩, s3⟩ := hsw
    obtain ⟨ielt, ip, is, ies, ic, rfl⟩ := chk_lc h
    unfold chkE at h
    split at h
    · rename_i e2 tg iter ifs scope cp heq
      cases heq
      split at h
      · rename_i xs hc
        simp only [Bool.and_eq_true, decide_eq_true_eq] at h
        obtain ⟨⟨⟨⟨⟨⟨⟨h0, h1⟩, h2⟩, h3⟩, hds⟩, h4⟩, h5⟩, h6⟩ := h
        rcases dv_cases is ies hds with hnv | ⟨iv, rfl, hki⟩
        · exact ps_comp (X := X) (spos := pos) (py := p) C (by rw [C.N]; exact hN) (by rw [C.sc]; exact s1) (sw_true hk (by rw [C.sc]; exact s1) (by rw [s2]; simp) s3) (s_src C hc h3 h2 hds hnv (Z.s1 ies _ C h2) (sL ies _ C h2)) (by rw [C.N, C.sc]; exact blkOk_by h4) ownN_snd (fun s H Ca cl fp => s_pat (N := N) (lc := locC _) C.N C.nd C.calm (fun x hx => blk_stn hx) h1)
            (fun s H Ca cl fp => sC ic _ (C.blk s H _ Ca cl fp) h6) (fun s H Ca cl fp => sE ielt _ (C.blk s H _ Ca cl fp) h5) (fold_plain h0 _)
        · exact ps_compN (X := X) (spos := pos) (py := p) C hki (by rw [C.N]; exact hN) (by rw [C.sc]; exact s1) (sw_true hk (by rw [C.sc]; exact s1) (by rw [s2]; simp) s3) (s_srcN C hki hc h2) (by rw [C.N, C.sc]; exact blkOk_by h4) ownN_snd (fun s H Ca cl fp => s_pat (N := N) (lc := locC _) C.N C.nd C.calm (fun x hx => blk_stn hx) h1)
            (fun s H Ca cl fp => sC ic _ (C.blk s H _ Ca cl fp) h6) (fun s H Ca cl fp => sE ielt _ (C.blk s H _ Ca cl fp) h5) (fold_plain h0 _)
      · cases h
    · cases h
end
end Z
end

section
set_option maxHeartbeats 4000000
set_option maxRecDepth 100000
/-! Z, part 12: statements. -/
namespace Z
open PySem L2 PyProof.Rows
open Classical
section
variable {K : Frg} {F : Addr → Prop} {H₀ H : Hp} {ρ : Rho} {σ : St}
theorem SR.un1 (S : SR K F H₀ H ρ σ) (i : Nat) : SR K F H₀ H (unown1 ρ i) σ := by
  unfold unown1
  split
  · rename_i o d e
    have hlt : i < ρ.length := (List.getElem?_eq_some_iff.mp e).1
    have out : ∀ {j : Nat}, i ≠ j → (ρ.set i (some (false, d)))[j]? = ρ[j]? := fun {j} h => List.getElem?_set_ne h
    have inn : (ρ.set i (some (false, d)))[i]? = some (some (false, d)) := List.getElem?_set_self hlt
    have ownS : ∀ a, Own (ρ.set i (some (false, d))) σ a → Own ρ σ a := fun a ⟨j, f, h1, h2⟩ => by
      by_cases hj : i = j
      · subst hj; rw [inn] at h1; cases h1
      · rw [out hj] at h1; exact ⟨j, f, h1, h2⟩
    have hg : Le (Gz F ρ σ H) (Gz F (ρ.set i (some (false, d))) σ H) := sub_mono fun a x e n => ⟨e, fun z => n (z.elim .inl fun z => .inr (ownS a z))⟩
    refine ⟨by rw [List.length_set]; exact S.len, S.ext, S.fF, fun j f h => ?_, fun j f h => ?_, fun j k f g a h1 h2 h3 h4 => ?_⟩
    · by_cases hj : i = j
      · subst hj
        rw [inn] at h
        cases h
        cases o with
        | false =>
          obtain ⟨v, h1, h2⟩ := S.sl i d e
          exact ⟨v, h1, Den.mono hg _ _ h2⟩
        | true =>
          obtain ⟨a, h1, h2, h3, h4⟩ := S.ow i d e
          refine ⟨.ref a, h1, Cont.denW hg (fun x hx => ?_) h4⟩
          unfold Gz
          rw [sub_at]
          · exact hx
          · rintro (z | ⟨k, f, k1, k2⟩)
            · exact h3 z
            · by_cases hk : i = k
              · subst hk; rw [inn] at k1; cases k1
              · rw [out hk] at k1
                exact hk (S.inj i k d f a e k1 h1 k2)
      · rw [out hj] at h
        obtain ⟨v, h1, h2⟩ := S.sl j f h
        exact ⟨v, h1, Den.mono hg _ _ h2⟩
    · by_cases hj : i = j
      · subst hj; rw [inn] at h; cases h
      · rw [out hj] at h
        obtain ⟨a, h1, h2, h3, h4⟩ := S.ow j f h
        exact ⟨a, h1, h2, h3, h4.mono hg fun _ z => z⟩
    · by_cases hj : i = j
      · subst hj; rw [inn] at h1; cases h1
      · by_cases hk : i = k
        · subst hk; rw [inn] at h2; cases h2
        · rw [out hj] at h1
          rw [out hk] at h2
          exact S.inj j k f g a h1 h2 h3 h4
  · exact S
theorem SR.un (S : SR K F H₀ H ρ σ) : ∀ is : List Nat, ∀ {ρ : Rho}, SR K F H₀ H ρ σ → SR K F H₀ H (unown is ρ) σ
  | [], _, T => T
  | i :: is, _, T => SR.un S is (T.un1 i)
/-- a name's own object is changed -/
theorem SR.updOwn (S : SR K F H₀ H ρ σ) {i : Nat} {d d' : D} {a : Addr} {o : HO} (h : ρ[i]? = some (some (true, d))) (hs : σ[i]? = some (some (.ref a))) (c : Cont K (upd H a o) (Gz F ρ σ H) d' a) : SR K F H₀ (upd H a o) (setR ρ i true d') σ := by
  obtain ⟨b, h1, h2, h3, h4⟩ := S.ow i d h
  rw [hs] at h1; cases h1
  have e : σ.set i (some (.ref a)) = σ := by
    apply List.ext_getElem?
    intro j
    by_cases hj : i = j
    · subst hj
      rw [List.getElem?_set_self (List.getElem?_eq_some_iff.mp hs).1, hs]
    · rw [List.getElem?_set_ne hj]
  have hlt : i < ρ.length := (List.getElem?_eq_some_iff.mp h).1
  have ownS : ∀ x, Own (setR ρ i true d') σ x → Own ρ σ x := fun x ⟨j, f, k1, k2⟩ => by
    by_cases hj : i = j
    · subst hj; exact ⟨i, d, h, k2⟩
    · unfold setR at k1; rw [List.getElem?_set_ne hj] at k1; exact ⟨j, f, k1, k2⟩
  have hg : Le (Gz F ρ σ H) (Gz F (setR ρ i true d') σ (upd H a o)) := sub_mono fun x y e n => ⟨by rw [upd_ne (fun z => n (.inr ⟨i, d, h, by rw [z]; exact hs⟩))]; exact e, fun z => n (z.elim .inl fun z => .inr (ownS x z))⟩
  have := S.setOwn (i := i) (d := d') (a := a) (H' := upd H a o) h2 h3 (fun j f hj k1 k2 => hj (S.inj j i f d a k1 h k2 hs)) (by rw [e]; exact hg) (fun x y e => by rw [upd_ne (ne_of_none e h2)]; exact S.ext _ _ e)
    (fun x z => by
      obtain ⟨y, e, ny⟩ := S.fF x z
      exact ⟨y, by rw [upd_ne (fun q => h3 (by rw [← q]; exact z))]; exact e, ny⟩) (fun j f b hj k1 k2 y hy => by
      rw [upd_ne (fun q => hj (S.inj j i f d a k1 h (by rw [← q]; exact k2) hs))]; exact hy) (by rw [e]; exact c.mono hg fun _ z => z)
  rw [e] at this
  exact this
end
def PostS (fr : Bool) (X : Cx) (F : Addr → Prop) (H₀ : Hp) (W : WX) (Dn : Ends) : R Out → Prop
  | .ok (.nx ρ') => ∀ σ' H', SR X.K F H₀ H' ρ' σ' → Dn.nx σ' H'
  | .ok (.rt d) => ∀ v H', Le H₀ H' → ResD fr X.K H₀ H' (sub H' F) d v → Dn.rt v H'
  | .exc c fs => ∀ cls dd σ' H', Le H₀ H' → ExcD X.mg H' c fs cls dd → W cls dd σ' H'
  | .bad => False
def tZS (fr : Bool) (X : Cx) (W : WX) (r : Rho → R Out) : TS := fun Dn σ H => ∃ F H₀ ρ, SR X.K F H₀ H ρ σ ∧ PostS fr X F H₀ W Dn (r ρ)
section
variable {P : Prg} {n : Nat} {N : List Str} {X : Cx} {sc : Scope} {W : WX} {fr : Bool} {F : Addr → Prop} {H₀ : Hp} {Dn : Ends}
theorem stepS {b' fr' : Bool} {ρ : Rho} {σ : St} {H : Hp} {r : R D} {f : D → R Out} {K : VK} (S : SR X.K F H₀ H ρ σ) (h : PostS fr X F H₀ W Dn (r >>= f)) (k : ∀ d v H1, r = .ok d → Le H H1 → ResE b' fr' X.K H H1 (Gz F ρ σ H1) d v → PostS fr X F H₀ W Dn (f d) → K v H1) : PostE b' fr' X F ρ σ W H K r := by
  cases r with
  | ok d => exact fun v H1 l t => k d v H1 rfl l t h
  | exc c fs => exact fun cls dd H' l e => h cls dd σ H' (S.ext.trans l) e
  | bad => exact h
theorem stepST {ρ : Rho} {σ : St} {H : Hp} {r : R D} {f : D → R Out} {K : Bool → Hp → Prop} (S : SR X.K F H₀ H ρ σ) (hf : ∀ d, (∀ k, d ≠ .bl k) → f d = .bad) (h : PostS fr X F H₀ W Dn (r >>= f)) (k : ∀ c H1, Le H H1 → PostS fr X F H₀ W Dn (f (.bl c)) → K c H1) : PostT X σ W H K r := by
  cases r with
  | ok d => cases d <;> first | exact fun H1 l => k _ H1 l h | (have h : PostS fr X F H₀ W Dn (f _) := h; rw [hf _ (fun _ z => by cases z)] at h; exact h.elim)
  | exc c fs => exact fun cls dd H' l e => h cls dd σ H' (S.ext.trans l) e
  | bad => exact h
theorem stepSL {b : Bool} {ρ : Rho} {σ : St} {H : Hp} {r : R (List D)} {f : List D → R Out} {K : List V → Hp → Prop} (S : SR X.K F H₀ H ρ σ) (h : PostS fr X F H₀ W Dn (r >>= f)) (k : ∀ ds vs H1, Le H H1 → (if b = true then TopL X.K H1 (Gz F ρ σ H1) ds vs else DenL X.K (Gz F ρ σ H1) ds vs) → PostS fr X F H₀ W Dn (f ds) → K vs H1) : PostL b X F ρ σ W H K r := by
  cases r with
  | ok d => exact fun v H1 l t => k d v H1 l t h
  | exc c fs => exact fun cls dd H' l e => h cls dd σ H' (S.ext.trans l) e
  | bad => exact h
theorem stepSI {ρ : Rho} {σ : St} {H : Hp} {r : R (List D)} {f : List D → R Out} {K : It → Hp → Prop} (S : SR X.K F H₀ H ρ σ) (h : PostS fr X F H₀ W Dn (r >>= f)) (k : ∀ xs J H1, Le H H1 → Srv X.K J (Gz F ρ σ H1) xs → PostS fr X F H₀ W Dn (f xs) → K J H1) : PostI X F ρ σ W H K r := by
  cases r with
  | ok d => exact fun v H1 l t => k d v H1 l t h
  | exc c fs => exact fun cls dd H' l e => h cls dd σ H' (S.ext.trans l) e
  | bad => exact h
theorem prS {α : Type} {r : R α} {f : α → R Out} (h : PostS fr X F H₀ W Dn (pr r >>= f)) : ∃ a, r = .ok a ∧ PostS fr X F H₀ W Dn (f a) := by
  cases r with
  | ok d => exact ⟨d, rfl, h⟩
  | exc c fs => exact h.elim
  | bad => exact h.elim
theorem gdS {c : Prop} [Decidable c] {r : R Out} (h : PostS fr X F H₀ W Dn (gd c r)) : c ∧ PostS fr X F H₀ W Dn r := by
  unfold gd at h
  split at h
  · rename_i q; exact ⟨q, h⟩
  · exact h.elim
/-! blocks -/
theorem l_nil : PSs X [] (tZS fr X W (exL (run P n) fr [])) := by
  refine ⟨fun pins s σ H Dn I ⟨F, H₀, ρ, S, h⟩ => pss_nil.run pins s σ H Dn I ?_⟩
  simp only [exL] at h
  exact h σ H S
theorem l_cons {st : Stmt} {sts : List Stmt} {is : S} {iss : List S} (h1 : PS X st (tZS fr X W (exS (run P n) fr is))) (h2 : PSs X sts (tZS fr X W (exL (run P n) fr iss))) : PSs X (st :: sts) (tZS fr X W (exL (run P n) fr (is :: iss))) := by
  refine ⟨fun pins s σ H Dn I ⟨F, H₀, ρ, S, h⟩ => (pss_cons h1 h2).run pins s σ H Dn I ?_⟩
  simp only [exL] at h
  refine ⟨F, H₀, ρ, S, ?_⟩
  cases hr : exS (run P n) fr is ρ with
  | ok o =>
    rw [hr] at h
    cases o with
    | nx ρ' => exact fun σ' H' S' => ⟨F, H₀, ρ', S', h⟩
    | rt d => exact h
  | exc c fs => rw [hr] at h; exact h
  | bad => rw [hr] at h; exact h
theorem s_if {c : Expr} {a b : List Stmt} {ic : E} {ia ib : List S} {pos : Pos} (hc : PT X c (tZT X W (evE (run P n) false ic))) (ha : PSs X a (tZS fr X W (exL (run P n) fr ia))) (hb : PSs X b (tZS fr X W (exL (run P n) fr ib))) :
    PS X (.If c a b pos) (tZS fr X W (exS (run P n) fr (.iff ic ia ib))) := by
  refine ⟨fun pins s σ H Dn I ⟨F, H₀, ρ, S, h⟩ => (ps_if hc ha hb).run pins s σ H Dn I ?_⟩
  simp only [exS] at h
  refine ⟨F, H₀, ρ, S, stepST S (fun d hd => by cases d <;> first | rfl | exact (hd _ rfl).elim) h fun k H1 l h1 => ?_⟩
  cases k with
  | true => exact ⟨F, H₀, ρ, S.grow l, h1⟩
  | false => exact ⟨F, H₀, ρ, S.grow l, h1⟩
/-- a test that walks rows of its own: it is lent to the test alone -/
theorem s_ifu {c : Expr} {a b : List Stmt} {ic : E} {ia ib : List S} {un : List Nat} {pos : Pos} (hc : PT X c (tZT X W (evE (run P n) false ic))) (ha : PSs X a (tZS fr X W (exL (run P n) fr ia))) (hb : PSs X b (tZS fr X W (exL (run P n) fr ib))) :
    PS X (.If c a b pos) (tZS fr X W (exS (run P n) fr (.iffu un ic ia ib))) := by
  refine ⟨fun pins s σ H Dn I ⟨F, H₀, ρ, S, h⟩ => (ps_if hc ha hb).run pins s σ H Dn I ?_⟩
  simp only [exS] at h
  refine ⟨F, H₀, _, S.un un S, stepST (S.un un S) (fun d hd => by cases d <;> first | rfl | exact (hd _ rfl).elim) h fun k H1 l h1 => ?_⟩
  cases k with
  | true => exact ⟨F, H₀, ρ, S.grow l, h1⟩
  | false => exact ⟨F, H₀, ρ, S.grow l, h1⟩
theorem s_never {st : Stmt} : PS X st (tZS fr X W (exS (run P n) fr .never)) := by
  refine ⟨fun pins s σ H Dn I ⟨F, H₀, ρ, S, h⟩ => ?_⟩
  simp only [exS] at h
  exact h.elim
theorem s_ret {e : Expr} {ie : E} {un : List Nat} {pos : Pos} (he : PE X e (tZ false (frE ie) X W (evE (run P n) false ie))) : PS X (.Return (some e) pos) (tZS fr X W (exS (run P n) fr (.ret ie un))) := by
  refine ⟨fun pins s σ H Dn I ⟨F, H₀, ρ, S, h⟩ => (ps_ret he).run pins s σ H Dn I ?_⟩
  simp only [exS] at h
  have S := S.un un S
  refine ⟨F, H₀, _, S, stepS S h fun d v H1 _ l t h1 => ?_⟩
  obtain ⟨hc, h2⟩ := gdS h1
  refine h2 v H1 (S.ext.trans l) ⟨Den.mono Gz_F _ _ t.1, fun hf hi => ?_⟩
  have hfe : frE ie = true := by
    rcases hc with hc | hc | hc
    · rw [hf] at hc; cases hc
    · exact hc
    · rw [hi] at hc; cases hc
  obtain ⟨a, rfl, h3, h4⟩ := t.2 hfe hi
  exact ⟨a, rfl, S.ext.none h3, h4.mono (sub_mono fun b o e n => ⟨Gz_F _ _ e, n⟩) fun _ z => z⟩
theorem s_ret0 {pos : Pos} : PS X (.Return none pos) (tZS fr X W (exS (run P n) fr .ret0)) := by
  refine ⟨fun pins s σ H Dn I ⟨F, H₀, ρ, S, h⟩ => ps_retN.run pins s σ H Dn I ?_⟩
  simp only [exS] at h
  exact h .non H S.ext ⟨by simp [Den], fun _ z => by cases z⟩
theorem s_retv {i : Nat} {nm : Str} {p pos : Pos} (C : Cok P n X sc N W) (hN : N[i]? = some nm) (hv : visC sc nm = true) (hn : nmOk nm = true) : PS X (.Return (some (.Name nm p)) pos) (tZS fr X W (exS (run P n) fr (.retv i))) := by
  obtain ⟨n1, n2, n3⟩ := nmOk_ne hn
  have q := pe_var (X := X) (i := i) (pos := p) (by rw [C.N]; exact hN) (by rw [C.sc]; exact visC_vis hv) n1 n2
  refine ⟨fun pins s σ H Dn I ⟨F, H₀, ρ, S, h⟩ => (ps_ret q).run pins s σ H Dn I ?_⟩
  simp only [exS] at h
  cases hr : rget ρ i with
  | exc c fs =>
    unfold rget at hr
    split at hr <;> cases hr
  | bad => rw [hr] at h; exact h.elim
  | ok p =>
    rw [hr] at h
    obtain ⟨hc, h⟩ := gdS h
    obtain ⟨v, h1, h2, h3⟩ := S.var (rget_ok hr)
    cases ho : p.1 with
    | false =>
      refine ⟨v, h1, h v H S.ext ⟨Den.mono Gz_F _ _ (h3 ho), fun hf hi => ?_⟩⟩
      rcases hc with hc | hc | hc
      · rw [hf] at hc; cases hc
      · rw [ho] at hc; cases hc
      · rw [hi] at hc; cases hc
    | true =>
      obtain ⟨a, e1, e2, e3, e4⟩ := S.ow i p.2 (by rw [rget_ok hr, ← ho])
      refine ⟨.ref a, e1, h _ H S.ext ⟨Cont.denW Gz_F (fun o e => by rw [sub_at e3]; exact e) e4, fun hf hi => ⟨a, rfl, e2, Cont.mono (sub_mono fun b o e n => ⟨?_, ?_⟩) (fun _ z => z) e4⟩⟩⟩
      · rw [sub_at (fun z => n (.inl z))]; exact e
      · rintro rfl
        exact n (.inr ⟨i, p.2, by rw [rget_ok hr, ← ho], e1⟩)
theorem s_xpr {e : Expr} {ie : E} {un : List Nat} {pos : Pos} (hs : swapsWith e none pos.line X.env = pure false) (he : PE X e (tZ false (frE ie) X W (evE (run P n) false ie))) : PS X (.Expr e pos) (tZS fr X W (exS (run P n) fr (.xpr ie un))) := by
  refine ⟨fun pins s σ H Dn I ⟨F, H₀, ρ, S, h⟩ => (ps_expr he hs).run pins s σ H Dn I ?_⟩
  simp only [exS] at h
  have S := S.un un S
  exact ⟨F, H₀, _, S, stepS S h fun d v H1 _ l t h1 => h1 σ H1 (S.grow l)⟩
/-- how a store of a reckoned value ends -/
theorem asg_end {ie : E} {i : Nat} {own : Bool} {un : List Nat} {ρ : Rho} {σ : St} {H : Hp} (S : SR X.K F H₀ H ρ σ) (h : PostS fr X F H₀ W Dn (exS (run P n) fr (.asg i own ie un) ρ)) : tZ false (frE ie) X W (evE (run P n) false ie) σ H fun v H1 => Dn.nx (σ.set i (some v)) H1 := by
  simp only [exS] at h
  have S := S.un un S
  refine ⟨F, H₀, _, S, stepS S h fun d v H1 _ l t h1 => ?_⟩
  obtain ⟨hc, h2⟩ := gdS h1
  have t : ResD (frE ie) X.K H H1 (Gz F (Z.unown un ρ) σ H1) d v := t
  refine h2 _ _ ?_
  cases own with
  | false => exact (S.grow l).set t.1
  | true =>
    obtain ⟨hf, hi⟩ := hc.resolve_left (by simp)
    obtain ⟨a, rfl, h3, h4⟩ := t.2 hf hi
    have hnF : ¬ F a := fun z => by obtain ⟨o, e, _⟩ := S.fF a z; rw [h3] at e; cases e
    have hout : ∀ (j : Nat) (e : D), j ≠ i → (Z.unown un ρ)[j]? = some (some (true, e)) → σ[j]? ≠ some (some (V.ref a)) := fun j e _ k1 k2 => by
      obtain ⟨b, q1, q2, q3, q4⟩ := S.ow j e k1
      rw [k2] at q1; cases q1
      obtain ⟨o, ho, _⟩ := q4.some
      rw [h3] at ho; cases ho
    have own' : ∀ b, Own (setR (Z.unown un ρ) i true d) (σ.set i (some (V.ref a))) b → b = a ∨ Own (Z.unown un ρ) σ b := fun b ⟨j, e, k1, k2⟩ => by
      by_cases hj : i = j
      · subst hj
        by_cases hl : i < σ.length
        · rw [List.getElem?_set_self hl] at k2; cases k2; exact .inl rfl
        · rw [List.getElem?_eq_none (by simpa using hl)] at k2; cases k2
      · unfold setR at k1
        rw [List.getElem?_set_ne hj] at k1 k2
        exact .inr ⟨j, e, k1, k2⟩
    refine S.setOwn (S.ext.none h3) hnF hout (sub_mono fun b o e n => ⟨l _ _ e, ?_⟩) (S.ext.trans l) (fun b z => let ⟨o, e, nx⟩ := S.fF b z; ⟨o, l _ _ e, nx⟩) (fun j e b hj k1 k2 o ho => l _ _ ho) (h4.mono (fun b o e => ?_) fun _ z => z)
    · rintro (z | z)
      · exact n (.inl z)
      · rcases own' b z with rfl | z
        · rw [h3] at e; cases e
        · exact n (.inr z)
    · obtain ⟨e1, e2⟩ := sub_some e
      obtain ⟨e3, e4⟩ := sub_some e1
      unfold Gz
      rw [sub_at]
      · exact e3
      · rintro (z | z)
        · exact e4 (.inl z)
        · rcases own' b z with rfl | z
          · exact e2 rfl
          · exact e4 (.inr z)
theorem s_asg {e : Expr} {ie : E} {i : Nat} {own : Bool} {un : List Nat} {nm : Str} {p pos : Pos} (C : Cok P n X sc N W) (hN : N[i]? = some nm) (hx : StN X nm) (he : PE X e (tZ false (frE ie) X W (evE (run P n) false ie))) (hs : swapsWith e (some (.Name nm p)) pos.line X.env = pure false) :
    PS X (.Assign [.Name nm p] e pos) (tZS fr X W (exS (run P n) fr (.asg i own ie un))) := by
  have q := ps_set (X := X) (i := i) (pos := pos) (pos' := p) C.nd (by rw [C.N]; exact hN) hx.1 he hs hx.2
  exact ⟨fun pins s σ H Dn I ⟨F, H₀, ρ, S, h⟩ => q.run pins s σ H Dn I (asg_end S h)⟩
end
end Z
end

section
set_option maxHeartbeats 4000000
set_option maxRecDepth 100000
/-! Z, hot 2: the def that tells an exception's kind by isinstance. -/
namespace Z
open PySem PySem.Spec PyProof.Rows L2 L2H
open Classical
def nF : Str := Str.ofString "found"
def isiC (sc : Scope) (c : String) : Expr → Bool
  | .Call (.Name f _) [.Name e _, .Name x _] [] _ => (f == Str.ofString "isinstance") && (e == nE) && (x == Str.ofString c) && glC sc f && glC sc x && nmOk x
  | _ => false
def isiL (sc : Scope) : List String → List Expr → Bool
  | [], es => es.isEmpty
  | c :: cs, e :: es => isiC sc c e && isiL sc cs es
  | _, _ => false
def isFnd : Expr → Bool
  | .Name x _ => x == nF
  | _ => false
/-- found.m(True) -/
def fndM (m : String) : Expr → Bool
  | .Call (.Attribute o x ap) [.Constant (.bool true) _ _] [] cp => isFnd o && (x == Str.ofString m) && (ap.endLine == cp.line)
  | _ => false
def kTail (sc : Scope) : List Stmt → Bool
  | [.If (.BoolOp .Or [.UnaryOp .Not v _, .Compare m [.NotEq] [.Constant (.int 1) _ _] _] _) [_] [] _, .Return (some r) _] => isiC sc "ValueError" v && fndM "count" m && fndM "index" r
  | _ => false
def kRows (sc : Scope) : List (List String) → List Stmt → Bool
  | [], sts => kTail sc sts
  | l :: ls, .Assign [.Name n _] (.BinOp m .Add (.List es _) _) _ :: sts => (n == nF) && isFnd m && isiL sc l es && kRows sc ls sts
  | _, _ => false
def kBody (sc : Scope) : List (List String) → List Stmt → Bool
  | l :: ls, .Assign [.Name n _] (.List es _) _ :: sts => (n == nF) && isiL sc l es && kRows sc ls sts
  | _, _ => false
def isLoc (sc : Scope) (x : Str) : Bool := match sc.names.lookup x with
  | some .local => true
  | _ => false
def kSc (sc : Scope) : Bool := isLoc sc nE && isLoc sc nF
/-- what the context says -/
structure HotX (X : Cx) (S : Addr) (all : List String) (a : Addr) (c : String) (C : Addr) (d : Option Addr) (oe : Obj) : Prop where
  kc : Kcls X.K X.mg S all
  mem : c ∈ all
  g : X.mg (Str.ofString c) = some (.ref C)
  T : ExcT X.K S c C
  pn : (a, oe) ∈ X.pn
  hz : Zc (.ref C) d oe
  hf : ∃ vs, oe.data = .fields vs
  N : X.N = [nE, nF]
  sc : kSc X.env.scope = true
  fn : ∀ x, X.fn x = true
  hu : X.A.units + 100 < cLine
section
variable {X : Cx} {S a C : Addr} {all : List String} {c : String} {d : Option Addr} {oe : Obj} {e : Expr} {es : List Expr}
def Got (σ : St) (H : Hp) (a : Addr) (d : Option Addr) : Prop := σ[0]? = some (some (.ref a)) ∧ ∀ dd, d = some dd → H dd ≠ none
theorem isLoc_is {sc : Scope} {x : Str} (h : isLoc sc x = true) : sc.names.lookup x = some .local := by
  unfold isLoc at h
  split at h
  · assumption
  · cases h
theorem HotX.l0 (h : HotX X S all a c C d oe) : X.env.scope.names.lookup nE = some .local := by
  have := h.sc
  unfold kSc at this
  rw [Bool.and_eq_true] at this
  exact isLoc_is this.1
theorem HotX.l1 (h : HotX X S all a c C d oe) : X.env.scope.names.lookup nF = some .local := by
  have := h.sc
  unfold kSc at this
  rw [Bool.and_eq_true] at this
  exact isLoc_is this.2
theorem HotX.var0 (h : HotX X S all a c C d oe) {p : Pos} : PE X (.Name nE p) (tVar 0) :=
  pe_var (by rw [h.N]; rfl) (.inl h.l0) (by decide +kernel) (by decide +kernel)
theorem HotX.var1 (h : HotX X S all a c C d oe) {p : Pos} : PE X (.Name nF p) (tVar 1) :=
  pe_var (by rw [h.N]; rfl) (.inl h.l1) (by decide +kernel) (by decide +kernel)
theorem HotX.same (h : HotX X S all a c C d oe) {c' : String} {C' : Addr} (hm : c' ∈ all) (g : X.mg (Str.ofString c') = some (.ref C')) (T' : ExcT X.K S c' C') : (C = C') ↔ c = c' := by
  constructor
  · intro e
    subst e
    obtain ⟨cd, h1, h2, _⟩ := h.T.cl
    obtain ⟨cd', h3, h4, _⟩ := T'.cl
    rw [h1] at h3
    cases h3
    exact h.kc.inj c h.mem c' hm (h2.symm.trans h4)
  · intro e
    subst e
    have := h.g.symm.trans g
    cases this
    rfl
theorem glE {sc : Scope} {x : Str} (hs : X.env.scope = sc) (h : glC sc x = true) : Gl X x := glC_gl hs h
/-- isinstance(e, c') -/
theorem pe_isC (h : HotX X S all a c C d oe) {c' : String} (hm : c' ∈ all) (he : isiC X.env.scope c' e = true) : PE X e (fun σ H Q => Got σ H a d ∧ Q (.bl (decide (c' = c))) H) := by
  unfold isiC at he
  split at he
  · rename_i f p1 y p2 x p3 pos
    simp only [Bool.and_eq_true, beq_iff_eq] at he
    obtain ⟨⟨⟨⟨⟨rfl, rfl⟩, rfl⟩, g1⟩, g2⟩, g3⟩ := he
    obtain ⟨C', m', T', nS⟩ := h.kc.ex c' hm
    obtain ⟨n1, n2, n3⟩ := nmOk_ne g3
    have q := pe_callB (p := p1) (pos := pos) (call_isG h.T h.kc.hn h.kc.ht h.pn h.hz h.hf) (glC_gl rfl g1) h.kc.b1 (by decide +kernel) (pa_cons (h.var0 (p := p2)) (pa_cons (pe_glob (v := .ref C') (pos := p3) (glC_gl rfl g2) m' rfl n1) pa_nil rfl) rfl) (by decide) (by decide) rfl rfl
    refine ⟨fun pins s σ H Q I ⟨⟨e0, hd⟩, hq⟩ => q.run pins s σ H Q I ⟨_, e0, .ref C', .ref C', decide (c' = c), rfl, fun u r => r, ?_, hd, hq⟩⟩
    rw [h.T.kit T' nS]
    congr 1
    have := h.same hm m' T'
    by_cases z : c = c'
    · rw [decide_eq_true (this.mpr z), decide_eq_true z.symm]
    · rw [decide_eq_false (fun y => z (this.mp y)), decide_eq_false (fun y => z y.symm)]
  · cases he
theorem pe_isV (h : HotX X S all a c C d oe) (he : isiC X.env.scope "ValueError" e = true) : PE X e (fun σ H Q => Got σ H a d ∧ Q (.bl true) H) := by
  unfold isiC at he
  split at he
  · rename_i f p1 y p2 x p3 pos
    simp only [Bool.and_eq_true, beq_iff_eq] at he
    obtain ⟨⟨⟨⟨⟨rfl, rfl⟩, rfl⟩, g1⟩, g2⟩, g3⟩ := he
    obtain ⟨n1, n2, n3⟩ := nmOk_ne g3
    have q := pe_callB (p := p1) (pos := pos) (call_isG h.T h.kc.hn h.kc.ht h.pn h.hz h.hf) (glC_gl rfl g1) h.kc.b1 (by decide +kernel) (pa_cons (h.var0 (p := p2)) (pa_cons (pe_bltn (v := .ty "ValueError") (pos := p3) (glC_gl rfl g2) h.kc.b2 (by decide +kernel) rfl n3 n1) pa_nil rfl) rfl) (by decide) (by decide) rfl rfl
    exact ⟨fun pins s σ H Q I ⟨⟨e0, hd⟩, hq⟩ => q.run pins s σ H Q I ⟨_, e0, .ty "ValueError", .type "ValueError", true, rfl, fun u r => r, h.T.kitV, hd, hq⟩⟩
  · cases he
theorem isi_plain {sc : Scope} {c : String} {e : Expr} (he : isiC sc c e = true) : plainX e = true := by
  cases e <;> first | rfl | cases he
theorem pa_isL (h : HotX X S all a c C d oe) : ∀ {cs : List String} {es : List Expr}, (∀ x ∈ cs, x ∈ all) → isiL X.env.scope cs es = true → PA X es (fun σ H Q => Got σ H a d ∧ Q (cs.map fun c' => .bl (decide (c' = c))) H)
  | [], es, _, he => by
    cases es with
    | nil => exact ⟨fun pos pins s σ H Q I hq => pa_nil.run pos pins s σ H Q I hq.2⟩
    | cons x r => cases he
  | c' :: cs, [], _, he => by cases he
  | c' :: cs, e :: es, hm, he => by
    unfold isiL at he
    rw [Bool.and_eq_true] at he
    have q := pa_cons (pe_isC h (hm c' (by simp)) he.1) (pa_isL h (cs := cs) (es := es) (fun x hx => hm x (by simp [hx])) he.2) (plain_star (isi_plain he.1))
    exact ⟨fun pos pins s σ H Q I ⟨g, hq⟩ => q.run pos pins s σ H Q I ⟨g, g, hq⟩⟩
theorem bools_den {K : Frg} {G : Hp} : ∀ bs : List Bool, DenL K G (bs.map D.bl) (bs.map V.bl)
  | [] => rfl
  | b :: bs => by
    simp only [List.map_cons, DenL]
    exact ⟨_, _, rfl, rfl, bools_den bs⟩
theorem den_bools {K : Frg} {G : Hp} : ∀ {bs : List Bool} {vs : List V}, DenL K G (bs.map D.bl) vs → vs = bs.map V.bl
  | [], vs, h => by simpa [DenL] using h
  | b :: bs, vs, h => by
    simp only [List.map_cons, DenL] at h
    obtain ⟨v, r, e, hv, hr⟩ := h
    simp only [Den] at hv
    rw [e, hv, den_bools hr]
    rfl
def noF : Addr → Prop := fun _ => False
theorem noF_kn {H : Hp} : Kn H noF := fun a z => z.elim
theorem noF_sub {H : Hp} : sub H noF = H := by funext x; exact sub_at (fun z => z)
theorem top_bools {K : Frg} {H : Hp} {p : Addr} {bs : List Bool} (h : H p = some (.lst (bs.map V.bl))) : Top K H (sub H noF) (.lst (bs.map D.bl)) (.ref p) := ⟨p, _, rfl, h, bools_den bs⟩
/-- the state between the rows -/
def KSt (a : Addr) (d : Option Addr) (bs : List Bool) (σ : St) (H : Hp) : Prop := Got σ H a d ∧ σ.length = 2 ∧ ∃ p, σ[1]? = some (some (.ref p)) ∧ H p = some (.lst (bs.map V.bl))
theorem plD_bools (n : Nat) (bs : List Bool) : plL n (bs.map D.bl) = true := by
  induction bs with
  | nil => simp [plL]
  | cons b bs ih => cases n <;> simp [plL, plD, ih]
theorem idx_bools : ∀ (bs : List Bool) (k : Nat), true ∈ bs → indexL (.bl true) (bs.map D.bl) k = some (k + bs.findIdx id)
  | [], k, h => by cases h
  | true :: bs, k, h => by simp [indexL, eqD, List.findIdx_cons]
  | false :: bs, k, h => by
    have h : true ∈ bs := by simpa using h
    rw [List.map_cons]
    unfold indexL
    rw [if_neg (by simp [eqD]), idx_bools bs (k + 1) h, List.findIdx_cons]
    simp
    omega
theorem cnt_bools : ∀ (bs : List Bool), ((bs.map D.bl).filter fun z => eqD z (.bl true)).length = (bs.filter id).length
  | [] => rfl
  | b :: bs => by
    have := cnt_bools bs
    cases b <;> simp [eqD, this]
theorem fnd_pe (h : HotX X S all a c C d oe) {bs : List Bool} {m id : String} {g : D → D → R D} {e : Expr} {r : Int} (hm : MtR X id (RM X.K g)) (slot : Slot "list" (Str.ofString m) id) (hty : typeOf (.builtin id) = pure (.type "method_descriptor")) (he : fndM m e = true) (hg : g (.lst (bs.map D.bl)) (.bl true) = .ok (.int r)) :
    PE X e (fun σ H Q => KSt a d bs σ H ∧ Q (.int r) H) := by
  unfold fndM at he
  split at he
  · rename_i o x ap kk p1 cp
    simp only [Bool.and_eq_true, beq_iff_eq] at he
    obtain ⟨⟨h1, rfl⟩, h2⟩ := he
    unfold isFnd at h1
    split at h1
    · rename_i y p2
      simp only [beq_iff_eq] at h1
      subst h1
      have q := pe_bm (apos := ap) (cpos := cp) PySem.F.plainAttrs_list slot hty hm (h.var1 (p := p2)) (pa_cons (e := .Constant (.bool true) kk p1) (pe_bl (X := X) (b := true)) pa_nil rfl) rfl rfl (by simpa using h2) rfl rfl
      refine ⟨fun pins s σ H Q I ⟨⟨_, _, p, e1, e2⟩, hq⟩ => q.run pins s σ H Q I ?_⟩
      refine ⟨_, e1, .inl ⟨rfl, _, .inl (.inl e2)⟩, noF, _, _, _, _, noF_kn, top_bools e2, rfl, by simp only [Top, Den], hg, fun v dv _ => ?_⟩
      simp only [Den] at dv
      rw [dv]
      exact hq
    · cases h1
  · cases he
/-- the name found, stored -/
theorem HotX.set1 (h : HotX X S all a c C d oe) {e : Expr} {te : TE} {p pos : Pos} (he : PE X e te) (hs : swapsWith e (some (.Name nF p)) pos.line X.env = pure false) : PS X (.Assign [.Name nF p] e pos) (tAsg te (gName 1)) :=
  ps_set (by rw [h.N]; decide +kernel) (by rw [h.N]; rfl) (.inl h.l1) he hs (.inl (h.fn _))
theorem isiL_len {sc : Scope} : ∀ {cs : List String} {es : List Expr}, isiL sc cs es = true → es.length = cs.length
  | [], es, h => by cases es <;> first | rfl | cases h
  | c :: cs, [], h => by cases h
  | c :: cs, e :: es, h => by
    unfold isiL at h
    rw [Bool.and_eq_true] at h
    rw [List.length_cons, List.length_cons, isiL_len h.2]
theorem KSt.put {bs : List Bool} {σ : St} {H H' : Hp} {p : Addr} (k : KSt a d bs σ H) {cs : List Bool} (l : Le H H') (hp : H' p = some (.lst (cs.map V.bl))) : KSt a d cs (σ.set 1 (some (.ref p))) H' := by
  obtain ⟨⟨e0, hd⟩, hl, _⟩ := k
  refine ⟨⟨?_, fun dd e z => ?_⟩, by rw [List.length_set]; exact hl, p, ?_, hp⟩
  · rw [List.getElem?_set_ne (by decide)]; exact e0
  · cases q : H dd with
    | none => exact hd dd e q
    | some o => rw [l _ _ q] at z; cases z
  · rw [List.getElem?_set_self (by omega)]
theorem ps_tail (h : HotX X S all a c C d oe) {bs : List Bool} {r : Int} (hr : kindAt bs = some r) {sts : List Stmt} (he : kTail X.env.scope sts = true) : PSs X sts (fun D σ H => KSt a d bs σ H ∧ D.rt (.int r) H) := by
  unfold kindAt at hr
  split at hr
  · rename_i h1
    cases hr
    have hm : true ∈ bs := by
      cases q : bs.filter id with
      | nil => rw [q] at h1; cases h1
      | cons x y =>
        have : x ∈ bs.filter id := by rw [q]; simp
        obtain ⟨h3, h4⟩ := List.mem_filter.mp this
        simp at h4
        rw [h4] at h3
        exact h3
    unfold kTail at he
    split at he
    · rename_i v p1 m k1 p2 p3 p4 st p5 r0 p6
      simp only [Bool.and_eq_true] at he
      obtain ⟨⟨e1, e2⟩, e3⟩ := he
      have c1 : countD (.lst (bs.map D.bl)) (.bl true) = .ok (.int 1) := by
        show gd _ _ = _
        rw [gd_pos (c := plD 20 (D.bl true) = true ∧ plL 19 (bs.map D.bl) = true) ⟨by decide, plD_bools _ _⟩, cnt_bools, h1]
        rfl
      have i1 : indexD (.lst (bs.map D.bl)) (.bl true) = .ok (.int (bs.findIdx id : Nat)) := by
        show gd _ _ = _
        rw [gd_pos (c := plD 20 (D.bl true) = true ∧ plL 19 (bs.map D.bl) = true) ⟨by decide, plD_bools _ _⟩, idx_bools _ _ hm]
        simp
      have q1 := fnd_pe h (mt_count h.hu) PySem.F.slot_list_count PySem.F.type_list_count e2 c1
      have q2 := fnd_pe h (mt_index h.hu) PySem.F.slot_list_index PySem.F.type_list_index e3 i1
      have t1 := pt_not (pos := p1) (pt_val (pe_isV h e1) (fun w => by have := isi_plain e1; cases v <;> first | rfl | simp [isiC] at e1))
      have t2 := pt_cmpR (pos := p3) (opc (X := X) h.hu .ne) q1 (pe_int (X := X) (i := 1) (j := k1) (pos := p2)) (by rfl)
      have t3 := ps_if (pos := p5) (PW.pt (pw_or (pos := p4) t1 (pw_or1 t2))) (pss_cons (s_never (P := ⟨fun _ => none, [], [], []⟩) (n := 0) (W := fun _ _ _ _ => False) (fr := false) (st := st)) pss_nil) pss_nil
      have t4 := pss_cons t3 (pss_cons (ps_ret (pos := p6) q2) pss_nil)
      refine ⟨fun pins s σ H Dn I ⟨k, hq⟩ => t4.run pins s σ H Dn I ?_⟩
      refine ⟨k.1, true, rfl, k, noF, .int 1, .int 1, false, noF_kn, by simp [Top, Den], by simp [Top, Den], by simp [cmpD, eqR, gd, plD, eqD], false, rfl, k, hq⟩
    · cases he
  · cases hr
theorem ps_rows (h : HotX X S all a c C d oe) {r : Int} : ∀ {ls : List (List String)} {sts : List Stmt} {bs : List Bool}, (∀ l ∈ ls, ∀ x ∈ l, x ∈ all) → (bs.length + ls.flatten.length ≤ 1000) → kindAt (bs ++ ls.flatten.map fun c' => decide (c' = c)) = some r → kRows X.env.scope ls sts = true →
    PSs X sts (fun D σ H => KSt a d bs σ H ∧ ∀ H', Le H H' → D.rt (.int r) H')
  | [], sts, bs, _, _, hr, he => by
    rw [List.flatten_nil, List.map_nil, List.append_nil] at hr
    have q := ps_tail h hr (sts := sts) (by unfold kRows at he; exact he)
    exact ⟨fun pins s σ H Dn I ⟨k, hq⟩ => q.run pins s σ H Dn I ⟨k, hq H (Le.refl H)⟩⟩
  | l :: ls, sts, bs, hm, hl, hr, he => by
    unfold kRows at he
    split at he
    · cases ‹_ :: _ = []›
    · rename_i l' ls' n0 pn m es pe po pa rest heq
      cases heq
      simp only [Bool.and_eq_true, beq_iff_eq] at he
      obtain ⟨⟨⟨rfl, h1⟩, h2⟩, h3⟩ := he
      unfold isFnd at h1
      split at h1
      · rename_i y py
        simp only [beq_iff_eq] at h1
        subst h1
        have ll : l.length ≤ 1000 := by rw [List.flatten_cons, List.length_append] at hl; omega
        have q1 := h.set1 (p := pn) (pos := pa) (pe_op (pos := po) (opz (X := X) .add) (h.var1 (p := py)) (pe_lst (pos := pe) (pa_isL h (hm l (by simp)) h2))) rfl
        have q2 := ps_rows h (ls := ls) (sts := rest) (bs := bs ++ l.map fun c' => decide (c' = c)) (fun x hx => hm x (by simp [hx])) (by rw [List.length_append, List.length_map]; rw [List.flatten_cons, List.length_append] at hl; omega) (by rw [List.flatten_cons, List.map_append, ← List.append_assoc] at hr; exact hr) h3
        refine ⟨fun pins s σ H Dn I ⟨k, hq⟩ => (pss_cons q1 q2).run pins s σ H Dn I ?_⟩
        obtain ⟨p, e1, e2⟩ := k.2.2
        refine ⟨_, e1, k.1, by rw [List.length_map, sizeLine_eq]; omega, fun p2 hp2 => ?_⟩
        have hne : p ≠ p2 := fun z => by rw [z, hp2] at e2; cases e2
        refine ⟨noF, .lst (bs.map D.bl), .lst ((l.map fun c' => decide (c' = c)).map D.bl), .lst ((bs ++ l.map fun c' => decide (c' = c)).map D.bl), noF_kn, top_bools (by rw [upd_ne hne]; exact e2), top_bools (by rw [upd_same]; simp [List.map_map, Function.comp_def]), ?_, fun v H' le rd => ?_⟩
        · show gd _ _ = _
          rw [gd_pos, List.map_append]
          simp only [List.length_map, szL]
          rw [List.flatten_cons, List.length_append] at hl
          omega
        · obtain ⟨b, rfl, _, vs, e3, dl⟩ := rd.2 rfl rfl
          have := den_bools dl
          subst this
          have le2 : Le H H' := (Le.upd hp2).trans le
          exact ⟨k.put le2 e3, fun H'' l'' => hq H'' (le2.trans l'')⟩
      · cases h1
    · cases he
theorem ps_body (h : HotX X S all a c C d oe) {r : Int} {ls : List (List String)} {sts : List Stmt} (hm : ∀ l ∈ ls, ∀ x ∈ l, x ∈ all) (hl : ls.flatten.length ≤ 1000) (hr : kindAt (ls.flatten.map fun c' => decide (c' = c)) = some r) (he : kBody X.env.scope ls sts = true) :
    PSs X sts (fun D σ H => Got σ H a d ∧ σ.length = 2 ∧ ∀ H', Le H H' → D.rt (.int r) H') := by
  unfold kBody at he
  split at he
  · rename_i l ls' n0 pn es pe pa rest
    simp only [Bool.and_eq_true, beq_iff_eq] at he
    obtain ⟨⟨rfl, h2⟩, h3⟩ := he
    have ll : l.length ≤ 1000 := by rw [List.flatten_cons, List.length_append] at hl; omega
    have q1 := h.set1 (p := pn) (pos := pa) (pe_lst (pos := pe) (pa_isL h (hm l (by simp)) h2)) rfl
    have q2 := ps_rows h (ls := ls') (sts := rest) (bs := l.map fun c' => decide (c' = c)) (r := r) (fun x hx => hm x (by simp [hx])) (by rw [List.length_map]; rw [List.flatten_cons, List.length_append] at hl; omega) (by rw [List.flatten_cons, List.map_append] at hr; exact hr) h3
    refine ⟨fun pins s σ H Dn I ⟨g, hl2, hq⟩ => (pss_cons q1 q2).run pins s σ H Dn I ?_⟩
    refine ⟨g, by rw [List.length_map, sizeLine_eq]; omega, fun p2 hp2 => ⟨⟨⟨?_, fun dd e z => ?_⟩, by rw [List.length_set]; exact hl2, p2, by rw [List.getElem?_set_self (by omega)], by rw [upd_same]; simp [List.map_map, Function.comp_def]⟩, fun H' l' => hq H' ((Le.upd hp2).trans l')⟩⟩
    · rw [List.getElem?_set_ne (by decide)]; exact g.1
    · cases q : H dd with
      | none => exact g.2 dd e q
      | some o => rw [upd_ne (ne_of_none q hp2), q] at z; cases z
  · cases he
end
/-- the def of the text st tells the kinds of the classes ls -/
def chkK (ls : List (List String)) (st : Stmt) : Bool := scopeK (defScope st) && kSc (defScope st) && kBody (defScope st) ls (defBody st)
where scopeK (sc : Scope) : Bool := (match sc.kind with | .function => true | _ => false) && (sc.isCoroutine == false) && (sc.isGenerator == false) && (sc.names.all fun y => match y.2 with | .free => false | _ => true)
theorem chkK_scope {ls : List (List String)} {st : Stmt} (h : chkK ls st = true) : FnScope [nE, nF] [nE] (defScope st) ∧ kSc (defScope st) = true ∧ kBody (defScope st) ls (defBody st) = true := by
  unfold chkK at h
  simp only [Bool.and_eq_true] at h
  obtain ⟨⟨h1, h2⟩, h3⟩ := h
  refine ⟨?_, h2, h3⟩
  unfold chkK.scopeK at h1
  simp only [Bool.and_eq_true, beq_iff_eq, List.all_eq_true] at h1
  obtain ⟨⟨⟨k1, k2⟩, k3⟩, k4⟩ := h1
  refine ⟨?_, k2, k3, by decide +kernel, rfl, fun x hx => ?_, fun y hy e => ?_⟩
  · split at k1
    · assumption
    · cases k1
  · unfold kSc at h2
    rw [Bool.and_eq_true] at h2
    have hx : x = nE := by simpa using hx
    subst hx
    exact .inl (isLoc_is h2.1)
  · have := k4 y hy
    rw [e] at this
    cases this
theorem kinds_ok {prog : Program} {w : World} {K : Frg} {mg : Str → Option Value} {base : Heap} {S f : Addr} {ls : List (List String)} {nm : Str} {st : Stmt} {fd : FuncData} (kc : Kcls K mg S ls.flatten) (hl : ls.flatten.length ≤ 1000) (F : Fun K nm nm st f fd) (hc : chkK ls st = true) :
    FnG prog w K mg base (L2.CX prog w) 1 f fd [nE] (spK K mg S ls) := by
  obtain ⟨oc, od, kV, doc, pm, an, cdv, ct, osl, rfl, lk, hcd⟩ := F.ex
  obtain ⟨fs, h2, h3⟩ := chkK_scope hc
  refine fn_ofG (k := 0) lk hcd fs (fun p vs H Q E h => ?_) fun A outer s H vs Q E p hr h => ?_
  · obtain ⟨_, _, _, _, rfl, _⟩ := h
    rfl
  · obtain ⟨c, C, d, r, rfl, hm, g, T, hz, hf, hd, hk, hq⟩ := h
    have hx : HotX (cxH (L2.CX prog w) prog w K mg base [nE, nF] nm (defScope st) f cdv A outer s H E p) S ls.flatten p.1 c C d p.2 := {
      kc := kc, mem := hm, g := g, T := T, pn := by show p ∈ [p]; simp, hz := hz, hf := hf, N := rfl, sc := h2, fn := fun _ => rfl
      hu := by have := hr.un; show (A.deeper _).units + 100 < cLine; omega }
    exact ⟨_, ps_body hx (fun l hl x hx => List.mem_flatten.mpr ⟨l, hl, hx⟩) hl hk h3, ⟨rfl, hd⟩, rfl, hq⟩
end Z
end

section
set_option maxHeartbeats 4000000
set_option maxRecDepth 100000
/-! Z, part 13: statements that change an object. -/
namespace Z
open PySem L2 PyProof.Rows
open Classical
theorem DenK.put {K : Frg} {G : Hp} {k d : D} {q : Key} {v : V} (hk : kD k = some q) (hd : Den K G d v) {kvs : List (D × D)} {ks : List (Key × V)} (h : DenK K G kvs ks) : DenK K G (dput kvs k d) (putK ks q v) := by
  have any : ∀ {kvs : List (D × D)} {ks : List (Key × V)}, DenK K G kvs ks → (kvs.any fun p => eqD p.1 k) = ks.any fun kv => decide (kv.1 = q) := by
    intro kvs
    induction kvs with
    | nil => intro ks h; simp only [DenK] at h; subst h; rfl
    | cons p r ih =>
      intro ks h
      obtain ⟨a, e⟩ := p
      simp only [DenK] at h
      obtain ⟨q', w, rs, rfl, hp, _, l⟩ := h
      rw [List.any_cons, List.any_cons, ih l, eqD_kD hp hk]
  have mp : ∀ {kvs : List (D × D)} {ks : List (Key × V)}, DenK K G kvs ks → DenK K G (kvs.map fun p => if eqD p.1 k = true then (p.1, d) else p) (ks.map fun kv => if kv.1 = q then (kv.1, v) else kv) := by
    intro kvs
    induction kvs with
    | nil => intro ks h; simp only [DenK] at h; subst h; simp [DenK]
    | cons p r ih =>
      intro ks h
      obtain ⟨a, e⟩ := p
      simp only [DenK] at h
      obtain ⟨q', w, rs, rfl, hp, he, l⟩ := h
      rw [List.map_cons, List.map_cons]
      simp only [eqD_kD hp hk]
      by_cases z : q' = q
      · simp only [z, decide_true, if_true, DenK]
        exact ⟨q, v, _, rfl, by rw [hp, z], hd, ih l⟩
      · simp only [z, decide_false, Bool.false_eq_true, if_false, DenK]
        exact ⟨q', w, _, rfl, hp, he, ih l⟩
  have app : ∀ {kvs : List (D × D)} {ks : List (Key × V)}, DenK K G kvs ks → DenK K G (kvs ++ [(k, d)]) (ks ++ [(q, v)]) := by
    intro kvs
    induction kvs with
    | nil => intro ks h; simp only [DenK] at h; subst h; simp only [List.nil_append, DenK]; exact ⟨q, v, [], rfl, hk, hd, rfl⟩
    | cons p r ih =>
      intro ks h
      obtain ⟨a, e⟩ := p
      simp only [DenK] at h
      obtain ⟨q', w, rs, rfl, hp, he, l⟩ := h
      rw [List.cons_append, List.cons_append]
      simp only [DenK]
      exact ⟨q', w, _, rfl, hp, he, ih l⟩
  unfold dput putK
  rw [any h]
  split
  · exact mp h
  · exact app h
theorem DenT.put {K : Frg} {G : Hp} {k d : D} {q : List Key} {v : V} (hk : tkD k = some q) (hd : Den K G d v) {kvs : List (D × D)} {ks : List (List Key × V)} (h : DenT K G kvs ks) : DenT K G (dput kvs k d) (putK ks q v) := by
  have any : ∀ {kvs : List (D × D)} {ks : List (List Key × V)}, DenT K G kvs ks → (kvs.any fun p => eqD p.1 k) = ks.any fun kv => decide (kv.1 = q) := by
    intro kvs
    induction kvs with
    | nil => intro ks h; simp only [DenT] at h; subst h; rfl
    | cons p r ih =>
      intro ks h
      obtain ⟨a, e⟩ := p
      simp only [DenT] at h
      obtain ⟨q', w, rs, rfl, hp, _, l⟩ := h
      rw [List.any_cons, List.any_cons, ih l, eqD_tkD hp hk]
  have mp : ∀ {kvs : List (D × D)} {ks : List (List Key × V)}, DenT K G kvs ks → DenT K G (kvs.map fun p => if eqD p.1 k = true then (p.1, d) else p) (ks.map fun kv => if kv.1 = q then (kv.1, v) else kv) := by
    intro kvs
    induction kvs with
    | nil => intro ks h; simp only [DenT] at h; subst h; simp [DenT]
    | cons p r ih =>
      intro ks h
      obtain ⟨a, e⟩ := p
      simp only [DenT] at h
      obtain ⟨q', w, rs, rfl, hp, he, l⟩ := h
      rw [List.map_cons, List.map_cons]
      simp only [eqD_tkD hp hk]
      by_cases z : q' = q
      · simp only [z, decide_true, if_true, DenT]
        exact ⟨q, v, _, rfl, by rw [hp, z], hd, ih l⟩
      · simp only [z, decide_false, Bool.false_eq_true, if_false, DenT]
        exact ⟨q', w, _, rfl, hp, he, ih l⟩
  have app : ∀ {kvs : List (D × D)} {ks : List (List Key × V)}, DenT K G kvs ks → DenT K G (kvs ++ [(k, d)]) (ks ++ [(q, v)]) := by
    intro kvs
    induction kvs with
    | nil => intro ks h; simp only [DenT] at h; subst h; simp only [List.nil_append, DenT]; exact ⟨q, v, [], rfl, hk, hd, rfl⟩
    | cons p r ih =>
      intro ks h
      obtain ⟨a, e⟩ := p
      simp only [DenT] at h
      obtain ⟨q', w, rs, rfl, hp, he, l⟩ := h
      rw [List.cons_append, List.cons_append]
      simp only [DenT]
      exact ⟨q', w, _, rfl, hp, he, ih l⟩
  unfold dput putK
  rw [any h]
  split
  · exact mp h
  · exact app h
theorem PSet.or {X : Cx} {t u : TSet} (h : PSet X t) (h' : PSet X u) : PSet X fun o i v H Q => t o i v H Q ∨ u o i v H Q := by
  intro pins s σ H o i v ov iv uv Q I r1 r2 r3 q
  rcases q with q | q
  · exact h pins s σ H o i v ov iv uv Q I r1 r2 r3 q
  · exact h' pins s σ H o i v ov iv uv Q I r1 r2 r3 q
/-- o[i] = v by data -/
def rSet : TSet := fun o i v H Q => rSetL o i v H Q ∨ rSetD o i v H Q
theorem set_z {X : Cx} (hu : X.A.units + 100 < cLine) : PSet X rSet := PSet.or set_list (set_dict (by omega))
section
variable {K : Frg} {F : Addr → Prop} {H₀ H : Hp} {ρ : Rho} {σ : St}
theorem updI_ok {i : Nat} {f : D → R D} {ρ' : Rho} (h : updI ρ i f = .ok ρ') : ∃ d d', ρ[i]? = some (some (true, d)) ∧ f d = .ok d' ∧ ρ' = setR ρ i true d' := by
  unfold updI at h
  obtain ⟨p, h1, h⟩ := bind_some h
  obtain ⟨ho, h⟩ := gd_ok h
  obtain ⟨d', h2, h⟩ := bind_some h
  cases h
  exact ⟨p.2, d', by rw [rget_ok h1, ← ho], h2, rfl⟩
/-- the store of a value at a key -/
theorem seti_run (S : SR K F H₀ H ρ σ) {i : Nat} {k v : D} {y x : V} {ρ' : Rho} {Q : Hp → Prop} (h : updI ρ i (setiD k v) = .ok ρ') (hk : Top K H (Gz F ρ σ H) k y) (hv : Den K (Gz F ρ σ H) v x) (q : ∀ H', SR K F H₀ H' ρ' σ → Q H') :
    ∃ a, σ[i]? = some (some (.ref a)) ∧ rSet (.ref a) y x H Q := by
  obtain ⟨d, d', h1, h2, rfl⟩ := updI_ok h
  obtain ⟨a, e1, e2, e3, e4⟩ := S.ow i d h1
  refine ⟨a, e1, ?_⟩
  cases d <;> simp only [setiD] at h2 <;> first | (cases h2; done) | skip
  · rename_i xs
    cases k <;> simp only at h2 <;> first | (cases h2; done) | skip
    rename_i j
    split at h2
    · rename_i m hm
      cases h2
      obtain ⟨vs, g, l⟩ := e4
      simp only [Top, Den] at hk
      subst hk
      have hm' : L2.ixN vs.length j = some m := by rw [l.length]; exact hm
      exact .inl ⟨a, vs, j, m, rfl, rfl, g, hm', q _ (S.updOwn h1 e1 ⟨_, upd_same, l.set hv m⟩)⟩
    · cases h2
  · rename_i t kvs
    obtain ⟨⟨hf, hl⟩, e⟩ := gd_ok h2
    cases e
    have hl := szL_lt hl
    cases t with
    | false =>
      obtain ⟨ks, g, l⟩ := e4
      obtain ⟨qk, hq⟩ := keyFit_k hf
      have hy : y = kV qk := kD_V hq (hk.den Gz_le)
      exact .inr ⟨a, _, rfl, .inl ⟨ks, qk, g, hy, by rw [l.length]; exact hl, rfl⟩, q _ (S.updOwn h1 e1 ⟨_, upd_same, l.put hq hv⟩)⟩
    | true =>
      obtain ⟨ks, g, l⟩ := e4
      obtain ⟨qk, hq⟩ := keyFit_t hf
      obtain ⟨b, rfl, hb⟩ := tkD_V hq (hk.den Gz_le)
      exact .inr ⟨a, _, rfl, .inr ⟨ks, qk, b, g, rfl, hb, by rw [l.length]; exact hl, rfl⟩, q _ (S.updOwn h1 e1 ⟨_, upd_same, l.put hq hv⟩)⟩
end
section
variable {P : Prg} {n : Nat} {N : List Str} {X : Cx} {sc : Scope} {W : WX} {fr : Bool}
theorem pvar {i : Nat} {nm : Str} {p : Pos} (C : Cok P n X sc N W) (hN : N[i]? = some nm) (hv : visC sc nm = true) (hn : nmOk nm = true) : PE X (.Name nm p) (tVar i) := by
  obtain ⟨n1, n2, n3⟩ := nmOk_ne hn
  exact pe_var (by rw [C.N]; exact hN) (by rw [C.sc]; exact visC_vis hv) n1 n2
theorem own_get {ρ : Rho} {i : Nat} (h : owned ρ i = true) : ∃ d, ρ[i]? = some (some (true, d)) := by
  unfold owned at h
  split at h
  · rename_i o d e; exact ⟨d, by rw [e, h]⟩
  · cases h
theorem own_tv {K : Frg} {F : Addr → Prop} {H₀ H : Hp} {ρ : Rho} {σ : St} (S : SR K F H₀ H ρ σ) {i : Nat} (h : owned ρ i = true) : ∃ a d, ρ[i]? = some (some (true, d)) ∧ σ[i]? = some (some (.ref a)) ∧ Cont K H (Gz F ρ σ H) d a := by
  obtain ⟨d, e⟩ := own_get h
  obtain ⟨a, e1, _, _, e4⟩ := S.ow i d e
  exact ⟨a, d, e, e1, e4⟩
theorem s_seti {ek ev : Expr} {ik iv : E} {i : Nat} {un : List Nat} {nm : Str} {p tp pos : Pos} (C : Cok P n X sc N W) (hN : N[i]? = some nm) (hv : visC sc nm = true) (hn : nmOk nm = true) (hk : plainX ek = true) (hev : plainX ev = true)
    (he : PE X ev (tZ false (frE iv) X W (evE (run P n) false iv))) (hi : PE X ek (tZ true (frE ik) X W (evE (run P n) true ik))) :
    PS X (.Assign [.Subscript (.Name nm p) ek tp] ev pos) (tZS fr X W (exS (run P n) fr (.seti i ik iv un))) := by
  have g := pg_sub (pos := tp) (pvar (p := p) C hN hv hn) hi (set_z C.hu) (by intro v; cases ek <;> first | rfl | simp [plainX] at hk)
  have q := ps_asg (pos := pos) he g (by cases ev <;> rfl) (by cases ev <;> rfl) rfl
  refine ⟨fun pins s σ H Dn I ⟨F, H₀, ρ, S, h⟩ => q.run pins s σ H Dn I ?_⟩
  simp only [exS] at h
  obtain ⟨ho, h⟩ := gdS h
  have S := S.un un S
  refine ⟨F, H₀, _, S, stepS S h fun d v H1 _ l t h1 => ?_⟩
  have t : Den X.K (Gz F (unown un ρ) σ H1) d v := t.1
  have S1 := S.grow l
  obtain ⟨a, _, _, ea, _⟩ := own_tv S1 ho
  refine ⟨_, ea, F, H₀, _, S1, stepS S1 h1 fun dk vk H2 _ l2 t2 h2 => ?_⟩
  have S2 := S1.grow l2
  obtain ⟨ρ', hu, h3⟩ := prS (f := fun ρ' => pure (Out.nx ρ')) h2
  obtain ⟨a', ea', hr⟩ := seti_run (Q := fun H' => Dn.nx σ H') S2 hu (t2.top Gz_le) (Den.mono (Gz_mono l2) _ _ t) fun H' S' => h3 σ H' S'
  rw [ea] at ea'; cases ea'
  exact hr
/-- a method of an own list -/
theorem s_meth {m id : String} {r : V → List V → Hp → VK → Prop} {e : Expr} {es : List Expr} {ta : TA} {i : Nat} {nm : Str} {p ap cp pos : Pos} (C : Cok P n X sc N W) (hN : N[i]? = some nm) (hv : visC sc nm = true) (hn : nmOk nm = true)
    (slot : Slot "list" (Str.ofString m) id) (hty : typeOf (.builtin id) = pure (.type "method_descriptor")) (hm : MtR X id r) (ha : PA X (e :: es) ta) (hp : ∀ x ∈ e :: es, plainX x = true) (hl : (e :: es).length < 20) (hline : (ap.endLine == cp.line) = true) :
    PS X (.Expr (.Call (.Attribute (.Name nm p) (Str.ofString m) ap) (e :: es) [] cp) pos) (tDrop (tBM X.K "list" r (tVar i) ta)) := by
  have st : ∀ {l : List Expr}, (∀ x ∈ l, plainX x = true) → starEach l X.env = l.map fun x => (false, eval x X.env) := by
    intro l
    induction l with
    | nil => intro _; rfl
    | cons a b ih => intro h; rw [plain_star (h a (by simp)), ih fun x hx => h x (by simp [hx])]; rfl
  have hfew : ((backTo cp (starEach (e :: es) X.env)).all (fun x => !x.1) && (backToKw cp (keywordEach [] X.env)).all (fun x => x.1.isSome) && decide ((e :: es).length + ([] : List Keyword).length + (if ([] : List Keyword).isEmpty then 0 else 1) < 30)) = true := by
    rw [st hp]
    have h1 : ((backTo cp ((e :: es).map fun x => (false, eval x X.env))).all fun x => !x.1) = true := by
      unfold backTo
      simp [List.all_map]
    rw [h1]
    have h2 : (backToKw cp (keywordEach [] X.env)).all (fun x => x.1.isSome) = true := rfl
    rw [h2]
    simp only [Bool.true_and, decide_eq_true_eq]
    show (e :: es).length + 0 + 0 < 30
    omega
  refine ps_expr (pe_bm PySem.F.plainAttrs_list slot hty hm (pvar C hN hv hn) ha rfl hfew hline (plain_star (hp e (by simp))) ?_) rfl
  rw [st fun x hx => hp x (by simp [hx])]
  unfold backTo
  simp [List.any_map]
theorem tyv_list {K : Frg} {H : Hp} {a : Addr} {vs : List V} (h : H a = some (.lst vs)) : tyV K "list" (.ref a) H := .inl ⟨rfl, vs, .inl (.inl h)⟩
/-- the own list at a slot, when the change is one of lists -/
theorem lst_get {K : Frg} {F : Addr → Prop} {H₀ H : Hp} {ρ : Rho} {σ : St} (S : SR K F H₀ H ρ σ) {i : Nat} {f : D → R D} {ρ' : Rho} (hf : ∀ d d', f d = .ok d' → ∃ xs, d = .lst xs) (h : updI ρ i f = .ok ρ') :
    ∃ a xs d' vs, ρ[i]? = some (some (true, .lst xs)) ∧ σ[i]? = some (some (.ref a)) ∧ H a = some (.lst vs) ∧ DenL K (Gz F ρ σ H) xs vs ∧ f (.lst xs) = .ok d' ∧ ρ' = setR ρ i true d' := by
  obtain ⟨d, d', h1, h2, h3⟩ := updI_ok h
  obtain ⟨xs, rfl⟩ := hf d d' h2
  obtain ⟨a, e1, _, _, vs, g, l⟩ := S.ow i _ h1
  exact ⟨a, xs, d', vs, h1, e1, g, l, h2, h3⟩
theorem app_l {v d d' : D} (h : appD v d = .ok d') : ∃ xs, d = .lst xs ∧ xs.length < szL ∧ d' = .lst (xs ++ [v]) := by
  cases d <;> simp only [appD] at h <;> first | (cases h; done) | skip
  obtain ⟨h1, h2⟩ := gd_ok h
  cases h2
  exact ⟨_, rfl, h1, rfl⟩
theorem ext_l {v d d' : D} (h : extD v d = .ok d') : ∃ xs ys, d = .lst xs ∧ v = .lst ys ∧ xs.length + ys.length ≤ szL ∧ d' = .lst (xs ++ ys) := by
  cases d <;> simp only [extD] at h <;> first | (cases h; done) | skip
  cases v <;> simp only at h <;> first | (cases h; done) | skip
  obtain ⟨h1, h2⟩ := gd_ok h
  cases h2
  exact ⟨_, _, rfl, rfl, h1, rfl⟩
theorem ins_l {k v d d' : D} (h : insD k v d = .ok d') : ∃ xs j, d = .lst xs ∧ k = .int j ∧ 0 ≤ j ∧ j ≤ xs.length ∧ xs.length < szL ∧ d' = .lst (xs.take j.toNat ++ v :: xs.drop j.toNat) := by
  cases d <;> simp only [insD] at h <;> first | (cases h; done) | skip
  cases k <;> simp only at h <;> first | (cases h; done) | skip
  obtain ⟨h1, h2⟩ := gd_ok h
  cases h2
  exact ⟨_, _, rfl, rfl, h1.1, h1.2.1, h1.2.2, rfl⟩
theorem ol_tv {K : Frg} {F : Addr → Prop} {H₀ H : Hp} {ρ : Rho} {σ : St} (S : SR K F H₀ H ρ σ) {i : Nat} (h : ownedL ρ i = true) : ∃ a vs, σ[i]? = some (some (.ref a)) ∧ H a = some (.lst vs) := by
  unfold ownedL at h
  split at h
  · rename_i xs e
    obtain ⟨a, e1, _, _, vs, g, _⟩ := S.ow i _ e
    exact ⟨a, vs, e1, g⟩
  · cases h
theorem s_app {e : Expr} {ie : E} {i : Nat} {un : List Nat} {nm : Str} {p ap cp pos : Pos} (C : Cok P n X sc N W) (hN : N[i]? = some nm) (hv : visC sc nm = true) (hn : nmOk nm = true) (hp : plainX e = true) (hline : (ap.endLine == cp.line) = true)
    (he : PE X e (tZ false (frE ie) X W (evE (run P n) false ie))) : PS X (.Expr (.Call (.Attribute (.Name nm p) (Str.ofString "append") ap) [e] [] cp) pos) (tZS fr X W (exS (run P n) fr (.app i ie un))) := by
  have q := s_meth (m := "append") (pos := pos) (p := p) (ap := ap) (cp := cp) C hN hv hn PySem.F.slot_list_append PySem.F.type_list_append mt_append (pa_cons he pa_nil (plain_star hp)) (by simpa using hp) (by simp) hline
  refine ⟨fun pins s σ H Dn I ⟨F, H₀, ρ, S, h⟩ => q.run pins s σ H Dn I ?_⟩
  simp only [exS] at h
  obtain ⟨ho, h⟩ := gdS h
  have S := S.un un S
  obtain ⟨a, vs0, ea, g0⟩ := ol_tv S ho
  refine ⟨_, ea, tyv_list g0, F, H₀, _, S, stepS S h fun d v H1 _ l t h1 => ?_⟩
  have t : Den X.K (Gz F (unown un ρ) σ H1) d v := t.1
  have S1 := S.grow l
  obtain ⟨ρ', hu, h2⟩ := prS (f := fun ρ' => pure (Out.nx ρ')) h1
  obtain ⟨a', xs, d', vs, k1, k2, g, dl, k3, rfl⟩ := lst_get S1 (fun d d' z => let ⟨xs, e, _⟩ := app_l z; ⟨xs, e⟩) hu
  rw [ea] at k2; cases k2
  obtain ⟨xs', e, hl, rfl⟩ := app_l k3
  cases e
  exact ⟨a, vs, v, rfl, rfl, g, by rw [dl.length]; exact szL_lt hl, h2 _ _ (S1.updOwn k1 ea ⟨_, upd_same, dl.append (DenL.one t)⟩)⟩
theorem s_ext {e : Expr} {ie : E} {i : Nat} {nm : Str} {p ap cp pos : Pos} (C : Cok P n X sc N W) (hN : N[i]? = some nm) (hv : visC sc nm = true) (hn : nmOk nm = true) (hp : plainX e = true) (hline : (ap.endLine == cp.line) = true)
    (he : PE X e (tZ true (frE ie) X W (evE (run P n) true ie))) : PS X (.Expr (.Call (.Attribute (.Name nm p) (Str.ofString "extend") ap) [e] [] cp) pos) (tZS fr X W (exS (run P n) fr (.ext i ie))) := by
  have q := s_meth (m := "extend") (pos := pos) (p := p) (ap := ap) (cp := cp) C hN hv hn PySem.F.slot_list_extend PySem.F.type_list_extend mt_extend (pa_cons he pa_nil (plain_star hp)) (by simpa using hp) (by simp) hline
  refine ⟨fun pins s σ H Dn I ⟨F, H₀, ρ, S, h⟩ => q.run pins s σ H Dn I ?_⟩
  simp only [exS] at h
  obtain ⟨ho, h⟩ := gdS h
  obtain ⟨a, vs0, ea, g0⟩ := ol_tv S ho
  refine ⟨_, ea, tyv_list g0, F, H₀, _, S, stepS S h fun d v H1 _ l t h1 => ?_⟩
  have t := t.top Gz_le
  have S1 := S.grow l
  obtain ⟨ρ', hu, h2⟩ := prS (f := fun ρ' => pure (Out.nx ρ')) h1
  obtain ⟨a', xs, d', vs, k1, k2, g, dl, k3, rfl⟩ := lst_get S1 (fun d d' z => let ⟨xs, ys, e, _⟩ := ext_l z; ⟨xs, e⟩) hu
  rw [ea] at k2; cases k2
  obtain ⟨xs', ys, e, rfl, hl, rfl⟩ := ext_l k3
  cases e
  obtain ⟨b, us, rfl, gb, dm⟩ := t
  exact ⟨a, b, vs, us, rfl, rfl, g, gb, by rw [dl.length, dm.length]; exact szL_le hl, h2 _ _ (S1.updOwn k1 ea ⟨_, upd_same, dl.append dm⟩)⟩
theorem s_ins {ek e : Expr} {ik ie : E} {i : Nat} {un : List Nat} {nm : Str} {p ap cp pos : Pos} (C : Cok P n X sc N W) (hN : N[i]? = some nm) (hv : visC sc nm = true) (hn : nmOk nm = true) (hk : plainX ek = true) (hp : plainX e = true) (hline : (ap.endLine == cp.line) = true)
    (hi : PE X ek (tZ false (frE ik) X W (evE (run P n) false ik))) (he : PE X e (tZ false (frE ie) X W (evE (run P n) false ie))) : PS X (.Expr (.Call (.Attribute (.Name nm p) (Str.ofString "insert") ap) [ek, e] [] cp) pos) (tZS fr X W (exS (run P n) fr (.inse i ik ie un))) := by
  have q := s_meth (m := "insert") (pos := pos) (p := p) (ap := ap) (cp := cp) C hN hv hn PySem.F.slot_list_insert PySem.F.type_list_insert mt_insert (pa_cons hi (pa_cons he pa_nil (plain_star hp)) (plain_star hk)) (by intro x hx; simp at hx; rcases hx with rfl | rfl <;> assumption) (by simp) hline
  refine ⟨fun pins s σ H Dn I ⟨F, H₀, ρ, S, h⟩ => q.run pins s σ H Dn I ?_⟩
  simp only [exS] at h
  obtain ⟨ho, h⟩ := gdS h
  have S := S.un un S
  obtain ⟨a, vs0, ea, g0⟩ := ol_tv S ho
  refine ⟨_, ea, tyv_list g0, F, H₀, _, S, stepS S h fun dk vk H1 _ l tk h1 => ?_⟩
  have S1 := S.grow l
  refine ⟨F, H₀, _, S1, stepS S1 h1 fun d v H2 _ l2 t h2 => ?_⟩
  have t : Den X.K (Gz F (unown un ρ) σ H2) d v := t.1
  have tk : Den X.K (Gz F (unown un ρ) σ H1) dk vk := tk.1
  have S2 := S1.grow l2
  obtain ⟨ρ', hu, h3⟩ := prS (f := fun ρ' => pure (Out.nx ρ')) h2
  obtain ⟨a', xs, d', vs, k1, k2, g, dl, k3, rfl⟩ := lst_get S2 (fun d d' z => let ⟨xs, _, e, _⟩ := ins_l z; ⟨xs, e⟩) hu
  rw [ea] at k2; cases k2
  obtain ⟨xs', j, e, rfl, h0, hj, hl, rfl⟩ := ins_l k3
  cases e
  simp only [Den] at tk
  subst tk
  have hlen := dl.length
  refine ⟨a, vs, j, v, rfl, rfl, g, by rw [hlen]; exact szL_lt hl, h0, ?_, h3 _ _ (S2.updOwn k1 ea ⟨_, upd_same, ?_⟩)⟩
  · unfold szL at hl; omega
  · rw [List.append_assoc]
    exact (dl.take _).append ((DenL.one t).append (dl.drop _))
/-! ### stores of several names, loops -/
theorem s_asgt {tg e : Expr} {ie : E} {is : List Nat} {un : List Nat} {pos : Pos} (C : Cok P n X sc N W) (hg : PG X tg (tZG X (.tup is))) (ht : isTup tg = true) (hne : isTup e = false) (he : PE X e (tZ false (frE ie) X W (evE (run P n) false ie))) :
    PS X (.Assign [tg] e pos) (tZS fr X W (exS (run P n) fr (.asgt is ie un))) := by
  cases tg <;> simp [isTup] at ht
  have q := ps_asg (pos := pos) he hg (by cases e <;> rfl) (by cases e <;> first | rfl | simp [isTup] at hne) rfl
  refine ⟨fun pins s σ H Dn I ⟨F, H₀, ρ, S, h⟩ => q.run pins s σ H Dn I ?_⟩
  simp only [exS] at h
  have S := S.un un S
  refine ⟨F, H₀, _, S, stepS S h fun d v H1 _ l t h1 => ?_⟩
  have t : Den X.K (Gz F (unown un ρ) σ H1) d v := t.1
  obtain ⟨ρ', hu, h2⟩ := prS (f := fun ρ' => pure (Out.nx ρ')) h1
  exact ⟨F, H₀, _, d, ρ', S.grow l, t, hu, fun σ' S' _ _ => h2 σ' H1 S'⟩
theorem s_whl {c : Expr} {body : List Stmt} {ic : E} {ib : List S} {L : Nat} {pos : Pos} (hp : PassesOwn (model X.prog X.w) X.A X.env X.xe) (hc : PT X c (tZT X W (evE (run P n) false ic))) (hb : PSs X body (tZS fr X W (exL (run P n) fr ib))) :
    PS X (.While c body [] pos) (tZS fr X W (exS (run P n) fr (.whl L ic ib))) := by
  have q := ps_while (pos := pos) hp hc hb
  refine ⟨fun pins s σ H Dn I ⟨F, H₀, ρ, S, h⟩ => q.run pins s σ H Dn I ?_⟩
  simp only [exS] at h
  refine ⟨fun m σ H => ∃ ρ, SR X.K F H₀ H ρ σ ∧ PostS fr X F H₀ W Dn (loopW (fun ρ' => evE (run P n) false ic ρ') (fun ρ' => exL (run P n) fr ib ρ') m ρ), ⟨L, ρ, S, h⟩, ?_⟩
  rintro m σ H ⟨ρ, S, h⟩
  cases m with
  | zero => simp only [loopW] at h; exact h.elim
  | succ m =>
    simp only [loopW] at h
    refine ⟨F, H₀, ρ, S, stepST S (fun d hd => by cases d <;> first | rfl | exact (hd _ rfl).elim) h fun k H1 l h1 => ?_⟩
    cases k with
    | false => exact h1 σ H1 (S.grow l)
    | true =>
      refine ⟨_, fun σ' H' w => ⟨m, Nat.lt_succ_self m, w⟩, F, H₀, ρ, S.grow l, ?_⟩
      have h1 : PostS fr X F H₀ W Dn (exL (run P n) fr ib ρ >>= fun o => match o with
        | .nx ρ' => loopW (fun ρ' => evE (run P n) false ic ρ') (fun ρ' => exL (run P n) fr ib ρ') m ρ'
        | .rt d => R.ok (Out.rt d)) := h1
      cases hr : exL (run P n) fr ib ρ with
      | ok o =>
        rw [hr] at h1
        cases o with
        | nx ρ' => exact fun σ' H' S' => ⟨ρ', S', h1⟩
        | rt d => exact h1
      | exc c fs => rw [hr] at h1; exact h1
      | bad => rw [hr] at h1; exact h1
theorem PostS.unbase {F : Addr → Prop} {H₀ H₁ : Hp} {Dn : Ends} {r : R Out} (l : Le H₀ H₁) (h : PostS fr X F H₀ W Dn r) : PostS fr X F H₁ W Dn r := by
  cases r with
  | ok o =>
    cases o with
    | nx ρ' => exact fun σ' H' S' => h σ' H' (S'.unbase l)
    | rt d => exact fun v H' l' t => h v H' (l.trans l') (t.early l)
  | exc c fs => exact fun cls dd σ' H' l' e => h cls dd σ' H' (l.trans l') e
  | bad => exact h
theorem PostS.undict {F : Addr → Prop} {H₀ : Hp} {Dn : Ends} {s : Src} {r : R Out} (h : PostS fr X F H₀ W Dn (dictX s r)) : PostS fr X F H₀ W Dn r := by
  unfold dictX at h
  split at h
  · cases r with
    | ok o => exact h
    | exc c fs => exact h.elim
    | bad => exact h
  · exact h
theorem s_forZ {tg iter : Expr} {body : List Stmt} {p : Pat} {s : Src} {es : List E} {un : List Nat} {ib : List S} {pos : Pos} (Z : St → Hp → Prop) (hp : PassesOwn (model X.prog X.w) X.A X.env X.xe) (C : Cok P n X sc N W) (hi : PI X tg iter (fun σ H Q => Z σ H ∧ tZI X W (srcR (run P n) s es) σ H Q)) (hg : PG X tg (tZG X p))
    (hb : PSs X body (tZS fr X W (exL (run P n) fr ib))) (hs : ∀ x, foldedSetIterable iter X.env x = pure x) : PS X (.For tg iter body [] pos) (fun Dn σ H => Z σ H ∧ tZS fr X W (fun ρ => exS (run P n) fr (.for_ p s es un ib) ρ) Dn σ H) := by
  have q := ps_for (pos := pos) hp C.calm hi hg hb hs
  refine ⟨fun pins s' σ H Dn I ⟨zz, F, H₀, ρ, S, h⟩ => q.run pins s' σ H Dn I ?_⟩
  have S := S.un un S
  have h : PostS fr X F H₀ W Dn (srcR (run P n) s es (unown un ρ) >>= fun xs => dictX s (loopF (fun d ρ' => do
      let ρ'' ← pr (asgP p d ρ')
      exL (run P n) fr ib ρ'') xs (unown un ρ))) := by
    simp only [exS] at h
    unfold srcR
    rw [bind_assocR]
    exact h
  generalize unown un ρ = ρ at S h
  refine ⟨zz, F, H₀, ρ, S, stepSI S h fun xs J H1 l1 srv h1 => ?_⟩
  have h1 := h1.undict
  have S1 := S.grow l1
  have h1 := h1.unbase S1.base_le
  have Sb := S1.rebase
  let H₁ := sub H1 (Own ρ σ)
  let step : D → Rho → R Out := fun d ρ' => do
      let ρ'' ← pr (asgP p d ρ')
      exL (run P n) fr ib ρ''
  let Wv : Nat → Nat → St → Hp → Prop := fun i m σ' H' => m = xs.length - i ∧ i ≤ xs.length ∧ ∃ ρ', SR X.K F H₁ H' ρ' σ' ∧ PostS fr X F H₁ W Dn (loopF step (xs.drop i) ρ')
  refine ⟨Wv, ⟨xs.length, rfl, Nat.zero_le _, ρ, Sb, h1⟩, ?_⟩
  rintro i m σ2 H2 ⟨rfl, hi', ρ2, S2, h2⟩
  have lb : Le (Gz F ρ σ H1) (sub H2 fun a => F a ∨ Own ρ2 σ2 a) := fun a o e => by
    obtain ⟨e1, e2⟩ := sub_some e
    have e3 : H₁ a = some o := by show sub H1 (Own ρ σ) a = some o; rw [sub_at (fun z => e2 (.inr z))]; exact e1
    rw [sub_at]
    · exact S2.ext _ _ e3
    · rintro (z | ⟨j, d, k1, k2⟩)
      · exact e2 (.inl z)
      · obtain ⟨b, q1, q2, _⟩ := S2.ow j d k1
        rw [k2] at q1; cases q1
        rw [e3] at q2; cases q2
  obtain ⟨sv1, sv2⟩ := srv i H2 _ S2.kn lb
  by_cases hlt : i < xs.length
  · obtain ⟨go, yl⟩ := sv1 _ (List.getElem?_eq_getElem hlt)
    refine .inr ⟨go, Wv (i + 1) (xs.length - (i + 1)), fun σ' H' w => ⟨_, by omega, w⟩, fun v H3 y => ?_⟩
    obtain ⟨l3, dv⟩ := yl v H3 y
    have h2 : PostS fr X F H₁ W Dn (loopF step (xs.drop i) ρ2) := h2
    rw [List.drop_eq_getElem_cons hlt] at h2
    simp only [loopF] at h2
    have h2 : PostS fr X F H₁ W Dn ((pr (asgP p xs[i] ρ2) >>= fun ρ'' => exL (run P n) fr ib ρ'') >>= fun o => match o with
        | .nx ρ' => loopF step (xs.drop (i + 1)) ρ'
        | .rt d => R.ok (Out.rt d)) := h2
    rw [bind_assocR] at h2
    obtain ⟨ρ3, ha, h3⟩ := prS h2
    refine ⟨F, H₁, ρ2, xs[i], ρ3, S2.grow l3, dv, ha, fun σ3 S3 _ _ => ⟨F, H₁, ρ3, S3, ?_⟩⟩
    cases hr : exL (run P n) fr ib ρ3 with
    | ok o =>
      rw [hr] at h3
      cases o with
      | nx ρ4 => exact fun σ4 H4 S4 => ⟨rfl, hlt, ρ4, S4, h3⟩
      | rt d => exact h3
    | exc c fs => rw [hr] at h3; exact h3
    | bad => rw [hr] at h3; exact h3
  · have e : i = xs.length := by omega
    subst e
    have h2 : PostS fr X F H₁ W Dn (loopF step (xs.drop xs.length) ρ2) := h2
    rw [List.drop_length] at h2
    exact .inl ⟨sv2 (Nat.le_refl _), h2 σ2 H2 S2⟩
theorem s_for {tg iter : Expr} {body : List Stmt} {p : Pat} {s : Src} {es : List E} {un : List Nat} {ib : List S} {pos : Pos} (hp : PassesOwn (model X.prog X.w) X.A X.env X.xe) (C : Cok P n X sc N W) (hi : PI X tg iter (tZI X W (srcR (run P n) s es))) (hg : PG X tg (tZG X p))
    (hb : PSs X body (tZS fr X W (exL (run P n) fr ib))) (hs : ∀ x, foldedSetIterable iter X.env x = pure x) : PS X (.For tg iter body [] pos) (tZS fr X W (exS (run P n) fr (.for_ p s es un ib))) := by
  have q := s_forZ (un := un) (pos := pos) (fun _ _ => True) hp C ⟨fun pins s σ H R I h => hi.run pins s σ H R I h.2⟩ hg hb hs
  exact ⟨fun pins s' σ H Dn I h => q.run pins s' σ H Dn I ⟨trivial, h⟩⟩
/-- the end of a statement within which a dict was locked -/
theorem PostS.thaw {F : Addr → Prop} {H₁ : Hp} {Dn : Ends} {r : R Out} (hx : ∀ c fs, r ≠ .exc c fs) {a : Addr} {u : HO} (hu : isDO u = true) (ha : H₁ a = some u) (h : PostS fr X F H₁ W Dn r) (od : Obj) :
    PostS fr X F (upd H₁ a (.frz od u)) W ⟨fun σ' H' => H' a = some (.frz od u) ∧ Dn.nx σ' (upd H' a u), fun v H' => H' a = some (.frz od u) ∧ Dn.rt v (upd H' a u), fun σ' H' => H' a = some (.frz od u) ∧ Dn.bk σ' (upd H' a u), fun σ' H' => H' a = some (.frz od u) ∧ Dn.ct σ' (upd H' a u)⟩ r := by
  have le : ∀ {H' : Hp}, Le (upd H₁ a (.frz od u)) H' → Le H₁ (upd H' a u) := fun {H'} l b o e => by
    by_cases hb : b = a
    · subst hb
      rw [ha] at e; cases e
      exact upd_same
    · rw [upd_ne hb]
      exact l _ _ (by rw [upd_ne hb]; exact e)
  cases r with
  | bad => exact h.elim
  | exc c fs => exact (hx c fs rfl).elim
  | ok o =>
    cases o with
    | nx ρ' =>
      intro σ' H' S'
      have e1 : H' a = some (.frz od u) := S'.ext _ _ upd_same
      refine ⟨e1, h σ' _ (S'.re (leR_free hu e1) (fun b o z e => ?_) (fun b z => ?_) (le S'.ext) fun b z => ?_)⟩
      · obtain ⟨i, d, k1, k2⟩ := z
        obtain ⟨b', q1, q2, _⟩ := S'.ow i d k1
        rw [k2] at q1; cases q1
        have hb : b ≠ a := fun q => by rw [q, upd_same] at q2; cases q2
        rw [upd_ne hb]; exact e
      · by_cases hb : b = a
        · subst hb; exact ⟨u, upd_same, isDO_nT hu⟩
        · obtain ⟨o, e, n⟩ := S'.fF b z
          exact ⟨o, by rw [upd_ne hb]; exact e, n⟩
      · obtain ⟨i, d, k1, k2⟩ := z
        obtain ⟨b', q1, q2, _⟩ := S'.ow i d k1
        rw [k2] at q1; cases q1
        have hb : b ≠ a := fun q => by rw [q, upd_same] at q2; cases q2
        rw [upd_ne hb] at q2; exact q2
    | rt d =>
      intro v H' l t
      have e1 : H' a = some (.frz od u) := l _ _ upd_same
      refine ⟨e1, h v _ (le l) ⟨Den.monoR ((leR_free hu e1).sub fun _ z => z) _ _ t.1, fun z c => ?_⟩⟩
      obtain ⟨b, rfl, h1, h2⟩ := t.2 z c
      have hb : b ≠ a := fun q => by rw [q, upd_same] at h1; cases h1
      rw [upd_ne hb] at h1
      exact ⟨b, rfl, h1, h2.monoR (((leR_free hu e1).sub fun _ z => z).sub fun _ z => z) fun o e => by rw [upd_ne hb]; exact e⟩
theorem dictX_noexc {s : Src} {r : R Out} (hk : isKI s = true) (c : String) (fs : List D) : dictX s r ≠ .exc c fs := by
  intro h
  cases s <;> simp only [isKI] at hk <;> first | (cases hk; done) | skip
  all_goals
    simp only [dictX, isDS, if_true] at h
    cases r <;> cases h
/-- a loop over a name's dict -/
theorem s_forN {tg iter : Expr} {body : List Stmt} {p : Pat} {s : Src} {i : Nat} {un : List Nat} {ib : List S} {pos : Pos} (hk : isKI s = true) (hp : PassesOwn (model X.prog X.w) X.A X.env X.xe) (C : Cok P n X sc N W) (hi : PI X tg iter (tZIf i X W (srcR (run P n) s [.var i]))) (hg : PG X tg (tZG X p))
    (hb : PSs X body (tZS fr X W (exL (run P n) fr ib))) (hs : ∀ x, foldedSetIterable iter X.env x = pure x) : PS X (.For tg iter body [] pos) (tZS fr X W (exS (run P n) fr (.for_ p s [.var i] un ib))) := by
  have q0 := s_forZ (un := []) (pos := pos) (FZ i) hp C hi hg hb hs
  have q1 := ps_lock q0
  refine ⟨fun pins s' σ H Dn I ⟨F, H₀, ρ, S, h⟩ => ?_⟩
  have S := S.un un S
  have h : PostS fr X F H₀ W Dn (exS (run P n) fr (.for_ p s [.var i] [] ib) (unown un ρ)) := by
    simp only [exS] at h ⊢
    exact h
  generalize unown un ρ = ρ at S h
  -- the dict
  have hd : exS (run P n) fr (.for_ p s [.var i] [] ib) ρ = .bad ∨ ∃ t kvs, ρ[i]? = some (some (false, .dic t kvs)) := by
    cases hr : evE (run P n) false (.var i) ρ with
    | exc c fs => simp only [evE, rget] at hr; split at hr <;> first | (cases hr; done) | (simp only [bind_ok, gd] at hr; split at hr <;> cases hr)
    | bad =>
      left
      simp only [exS, evL, unown, hr, bind_bad]
    | ok d =>
      cases hx : srcD s [d] with
      | exc c fs => left; simp only [exS, evL, unown, hr, bind_ok, pure_R, hx]; rfl
      | bad => left; simp only [exS, evL, unown, hr, bind_ok, pure_R, hx]; rfl
      | ok xs =>
        obtain ⟨t, kvs, rfl⟩ := src_dic hk hx
        exact .inr ⟨t, kvs, rget_none hr⟩
  rcases hd with hd | ⟨t, kvs, hd⟩
  · rw [hd] at h; exact h.elim
  · rcases lock_cases S hd with fz | ⟨a, u, f1, f2, f3⟩
    · exact q0.run pins s' σ H Dn I ⟨fz, F, H₀, ρ, S, h⟩
    · refine q1.run pins s' σ H Dn I ⟨a, u, (gz_none f3).2.2, isDO_mut f2, fun od => ⟨⟨a, od, u, f1, upd_same, f2⟩, F, _, ρ, S.lock f2 f3, ?_⟩⟩
      have h1 := h.unbase S.base_le
      have hn := (gz_none f3).2.1
      have e1 : Z.sub H (Own ρ σ) a = some u := by rw [sub_at hn]; exact (gz_none f3).2.2
      have h2 := h1.thaw (fun c fs e => ?_) f2 e1 od
      · have e2 : upd (Z.sub H (Own ρ σ)) a (.frz od u) = Z.sub (upd H a (.frz od u)) (Own ρ σ) := by
          funext b
          by_cases hb : b = a
          · subst hb
            rw [upd_same, sub_at hn, upd_same]
          · rw [upd_ne hb]
            unfold Z.sub
            split
            · rfl
            · rw [upd_ne hb]
        rw [← e2]
        exact h2
      · simp only [exS, unown] at e
        cases hq : evL (run P n) false [E.var i] ρ with
        | exc c fs =>
          simp only [evL, evE, rget] at hq
          rw [hd] at hq
          cases hq
        | bad => rw [hq] at e; cases e
        | ok ds =>
          rw [hq] at e
          simp only [bind_ok] at e
          cases hx : srcD s ds with
          | exc c fs => rw [hx] at e; cases e
          | bad => rw [hx] at e; cases e
          | ok xs =>
            rw [hx] at e
            simp only [pr_ok, bind_ok] at e
            exact dictX_noexc hk _ _ e
/-! a loop over a dict that is an item of a name's list -/
def FZi (i : Nat) (j : Int) : St → Hp → Prop := fun σ H => ∃ b vs a o u, σ[i]? = some (some (V.ref b)) ∧ H b = some (.lst vs) ∧ L2.atI vs j = some (.ref a) ∧ H a = some (.frz o u) ∧ isDO u = true
def tZIx (i : Nat) (j : Int) (X : Cx) (W : WX) (r : Rho → R (List D)) : TI := fun σ H Q => FZi i (-j) σ H ∧ tZI X W r σ H Q
theorem idx_of {C : Calls} {i : Nat} {j : Int} {ρ : Rho} {d : D} (h : evE C false (ixE i j) ρ = .ok d) : ∃ o x, ρ[i]? = some (some (o, x)) ∧ idxD x (.int (-j)) = .ok d := by
  simp only [ixE, evE] at h
  obtain ⟨x, h1, h2⟩ := bind_some h
  obtain ⟨p, h3, h4⟩ := bind_some h1
  obtain ⟨_, h5⟩ := gd_ok h4
  cases h5
  obtain ⟨y, h6, h7⟩ := bind_some h2
  cases h6
  refine ⟨p.1, p.2, ?_, pr_some h7⟩
  unfold rget at h3
  split at h3
  · rename_i q e; cases h3; exact e
  · cases h3
theorem item_of {K : Frg} {F : Addr → Prop} {H₀ H : Hp} {ρ : Rho} {σ : St} (S : SR K F H₀ H ρ σ) {i : Nat} {j : Int} {o t : Bool} {ds : List D} {kvs : List (D × D)} (h : ρ[i]? = some (some (o, .lst ds))) (hj : L2.atI ds j = some (.dic t kvs)) :
    ∃ b vs a u, σ[i]? = some (some (V.ref b)) ∧ H b = some (.lst vs) ∧ L2.atI vs j = some (.ref a) ∧ isDO u = true ∧ Rd (Gz F ρ σ H) a u ∧
      ((t = false ∧ ∃ ks, u = .dK ks ∧ DenK K (Gz F ρ σ H) kvs ks) ∨ (t = true ∧ ∃ ks, u = .dT ks ∧ DenT K (Gz F ρ σ H) kvs ks)) := by
  obtain ⟨v, h1, h2, _⟩ := S.var h
  simp only [Top] at h2
  obtain ⟨b, vs, rfl, g, l⟩ := h2
  obtain ⟨w, e1, e2⟩ := l.at hj
  cases t with
  | false =>
    simp only [Den] at e2
    obtain ⟨a, ks, rfl, g2, l2⟩ := e2
    exact ⟨b, vs, a, _, h1, g, e1, rfl, g2, .inl ⟨rfl, ks, rfl, l2⟩⟩
  | true =>
    simp only [Den] at e2
    obtain ⟨a, ks, rfl, g2, l2⟩ := e2
    exact ⟨b, vs, a, _, h1, g, e1, rfl, g2, .inr ⟨rfl, ks, rfl, l2⟩⟩
theorem atI_rel {xs : List V} {us us' : List Value} {ys : List V} (r : Vals xs us) (r' : Vals ys us) {j : Int} {a b : Addr} (h : L2.atI xs j = some (.ref a)) (h' : L2.atI ys j = some (.ref b)) : a = b := by
  have hl : xs.length = ys.length := by rw [r.length, r'.length]
  obtain ⟨k, q1, q2, _⟩ := atI_get h
  obtain ⟨k', q3, q4, _⟩ := atI_get h'
  rw [hl] at q1
  rw [q1] at q3
  cases q3
  obtain ⟨u, e1, e2⟩ := r.get q2
  obtain ⟨u', e3, e4⟩ := r'.get q4
  rw [e1] at e3
  cases e3
  cases e2
  cases e4
  rfl
/-- the item that is walked, as a value -/
theorem item_at {F : Addr → Prop} {H₀ H : Hp} {ρ : Rho} {σ : St} {pins : List (Addr × Obj)} {s : Shared} (I : L2.Inv X pins σ H s) (S : SR X.K F H₀ H ρ σ) {i : Nat} {j : Int} {o t : Bool} {x : D} {kvs : List (D × D)} {b a : Addr} {vs : List V} (h : ρ[i]? = some (some (o, x))) (hx : idxD x (.int j) = .ok (.dic t kvs))
    (e1 : σ[i]? = some (some (V.ref b))) (e2 : H b = some (.lst vs)) (e3 : L2.atI vs j = some (.ref a)) : Den X.K (Gz F ρ σ H) (.dic t kvs) (.ref a) := by
  obtain ⟨v, k1, k2, _⟩ := S.var h
  rw [e1] at k1
  cases k1
  obtain ⟨its, r, pl, _⟩ := I.list (.inl (.inl e2))
  have key : ∀ {ds : List D} {vs' : List V}, SqL X.K H b vs' → DenL X.K (Gz F ρ σ H) ds vs' → atI ds j = some (.dic t kvs) → Den X.K (Gz F ρ σ H) (.dic t kvs) (.ref a) := by
    intro ds vs' sq dl hat
    obtain ⟨w, w1, w2⟩ := dl.at hat
    obtain ⟨its', r', pl', _⟩ := I.list sq
    have hw : ∃ a', w = .ref a' := by
      cases t <;> simp only [Den] at w2 <;> obtain ⟨a', ks, z, _⟩ := w2 <;> exact ⟨a', z⟩
    obtain ⟨a', rfl⟩ := hw
    have hi : its = its' := by
      obtain ⟨o1, n1, y1, _, _, y2⟩ := pl
      obtain ⟨o2, n2, y3, _, _, y4⟩ := pl'
      rw [y1] at y3
      cases y3
      rw [y2] at y4
      have := (Data.seq.inj y4).1
      simpa using this
    subst hi
    rw [atI_rel (us' := []) r r' e3 w1]
    exact w2
  cases x <;> simp only [idxD] at hx <;> first | (cases hx; done) | skip
  · simp only [Top, Den] at k2
    obtain ⟨b', vs', z1, z2, z3⟩ := k2
    cases z1
    have := Gz_le _ _ z2
    rw [e2] at this
    cases this
  · simp only [Top] at k2
    obtain ⟨b', vs', z1, z2, z3⟩ := k2
    cases z1
    exact key (.inl (.inl z2)) z3 (oR_ok hx)
  · have no : ∀ t2 kv2, ¬ Top X.K H (Gz F ρ σ H) (.dic t2 kv2) (.ref b) := fun t2 kv2 k2 => by
      cases t2 <;> simp only [Top] at k2 <;> obtain ⟨b', ks, z1, z2, _⟩ := k2 <;> cases z1 <;> rcases z2 with z2 | ⟨_, z2⟩ <;> rw [e2] at z2 <;> cases z2
    exact (no _ _ k2).elim
  · simp only [Top, Den] at k2
    obtain ⟨b', vs', z1, z2, z3⟩ := k2
    cases z1
    exact key (Gz_le.sqL z2) z3 (oR_ok hx)
theorem ixE_noexc {C : Calls} {i : Nat} {j : Int} {ρ : Rho} (c : String) (fs : List D) : evE C false (ixE i j) ρ ≠ .exc c fs := by
  intro hr
  simp only [ixE, evE] at hr
  cases h1 : rget ρ i with
  | exc c fs => unfold rget at h1; split at h1 <;> cases h1
  | bad => rw [h1] at hr; cases hr
  | ok p =>
    rw [h1] at hr
    simp only [bind_ok, pure_R] at hr
    rw [gd_pos (by simp)] at hr
    simp only [bind_ok] at hr
    cases hx : idxD p.2 (.int (-j)) <;> rw [hx] at hr <;> cases hr
theorem i_keysX {tg : Expr} {i : Nat} {j : Int} {nm : Str} {kk : Nat} {p p1 p2 p3 : Pos} (C : Cok P n X sc N W) (hN : N[i]? = some nm) (hv : visC sc nm = true) (hn : nmOk nm = true) : PI X tg (.Subscript (.Name nm p) (.UnaryOp .USub (.Constant (.int j) kk p1) p2) p3) (fun σ H Q => FZi i (-j) σ H ∧ tZI X W (srcR (run P n) .keys [ixE i j]) σ H Q) := by
  obtain ⟨n1, n2, n3⟩ := nmOk_ne hn
  have q := pi_keys (tg := tg) (pe_ix (X := X) (pos := p3) ix_list (pe_var (X := X) (i := i) (pos := p) (by rw [C.N]; exact hN) (by rw [C.sc]; exact visC_vis hv) n1 n2) (pe_un (pos := p2) un_neg (pe_int (X := X) (i := j) (j := kk) (pos := p1))) (fun _ _ => rfl))
  refine ⟨fun pins s σ H Q I ⟨fz, F, H₀, ρ, S, h⟩ => q.run pins s σ H Q I ?_⟩
  simp only [srcR, evL] at h
  obtain ⟨b, vs, a, o, u, e1, e2, e3, e4, hu⟩ := fz
  refine ⟨.ref b, e1, j, rfl, b, vs, -j, .ref a, rfl, rfl, .inl (.inl e2), e3, ?_⟩
  cases hr : evE (run P n) false (ixE i j) ρ with
  | exc c fs => exact (ixE_noexc _ _ hr).elim
  | bad => rw [hr] at h; exact h.elim
  | ok d =>
    rw [hr] at h
    obtain ⟨xs, hx, h⟩ := prI h
    cases d <;> simp only [srcD] at hx <;> first | (cases hx; done) | skip
    rename_i t' kvs
    cases hx
    obtain ⟨oo, x, g1, g2⟩ := idx_of hr
    have w := item_at I S g1 g2 e1 e2 e3
    refine ⟨a, o, rfl, ?_⟩
    cases t' with
    | false =>
      simp only [Den] at w
      obtain ⟨a', ks, z, f5, dk⟩ := w
      cases z
      obtain ⟨rfl, f7⟩ := rd_frz Gz_le f5 rfl e4
      exact .inl ⟨ks, e4, h _ _ (Le.refl _) (srv_keys f7 dk)⟩
    | true =>
      simp only [Den] at w
      obtain ⟨a', ks, z, f5, dk⟩ := w
      cases z
      obtain ⟨rfl, f7⟩ := rd_frz Gz_le f5 rfl e4
      exact .inr ⟨ks, e4, h _ _ (Le.refl _) (srv_keysT f7 dk)⟩
theorem s_forX {tg iter : Expr} {body : List Stmt} {p : Pat} {i : Nat} {j : Int} {un : List Nat} {ib : List S} {pos : Pos} (hp : PassesOwn (model X.prog X.w) X.A X.env X.xe) (C : Cok P n X sc N W) (hi : PI X tg iter (fun σ H Q => FZi i (-j) σ H ∧ tZI X W (srcR (run P n) .keys [ixE i j]) σ H Q)) (hg : PG X tg (tZG X p))
    (hb : PSs X body (tZS fr X W (exL (run P n) fr ib))) (hs : ∀ x, foldedSetIterable iter X.env x = pure x) : PS X (.For tg iter body [] pos) (tZS fr X W (exS (run P n) fr (.forx p i j un ib))) := by
  have q0 := s_forZ (un := []) (pos := pos) (FZi i (-j)) hp C hi hg hb hs
  have q1 := ps_lock q0
  refine ⟨fun pins s' σ H Dn I ⟨F, H₀, ρ, S, h⟩ => ?_⟩
  have S := S.un un S
  simp only [exS] at h
  obtain ⟨hlst, h⟩ := gdS h
  have h : PostS fr X F H₀ W Dn (exS (run P n) fr (.for_ p .keys [ixE i j] [] ib) (unown un ρ)) := by
    simp only [exS]
    exact h
  generalize unown un ρ = ρ at S h hlst
  have hd : exS (run P n) fr (.for_ p .keys [ixE i j] [] ib) ρ = .bad ∨ ∃ o x t kvs, ρ[i]? = some (some (o, x)) ∧ idxD x (.int (-j)) = .ok (.dic t kvs) := by
    cases hr : evE (run P n) false (ixE i j) ρ with
    | exc c fs => exact (ixE_noexc _ _ hr).elim
    | bad =>
      left
      simp only [exS, evL, unown, hr, bind_bad]
    | ok d =>
      cases hx : srcD .keys [d] with
      | exc c fs => left; simp only [exS, evL, unown, hr, bind_ok, pure_R, hx]; rfl
      | bad => left; simp only [exS, evL, unown, hr, bind_ok, pure_R, hx]; rfl
      | ok xs =>
        obtain ⟨t, kvs, rfl⟩ := src_dic (s := .keys) rfl hx
        obtain ⟨o, x, g1, g2⟩ := idx_of hr
        exact .inr ⟨o, x, t, kvs, g1, g2⟩
  rcases hd with hd | ⟨o, x, t, kvs, g1, g2⟩
  · rw [hd] at h; exact h.elim
  · -- where the dict stands
    have wh : FZi i (-j) σ H ∨ ∃ b vs a u, σ[i]? = some (some (V.ref b)) ∧ H b = some (.lst vs) ∧ L2.atI vs (-j) = some (.ref a) ∧ isDO u = true ∧ Gz F ρ σ H a = some u := by
      unfold lstAt at hlst
      split at hlst
      · rename_i o' ds e
        rw [g1] at e
        cases e
        simp only [idxD] at g2
        obtain ⟨b, vs, a, u, w1, w2, w3, w4, w5, _⟩ := item_of S g1 (oR_ok g2)
        rcases w5 with w5 | ⟨od, w5⟩
        · exact .inr ⟨b, vs, a, u, w1, w2, w3, w4, w5⟩
        · exact .inl ⟨b, vs, a, od, u, w1, w2, w3, Gz_le _ _ w5, w4⟩
      · cases hlst
    rcases wh with fz | ⟨b, vs, a, u, w1, w2, w3, f2, f3⟩
    · exact q0.run pins s' σ H Dn I ⟨fz, F, H₀, ρ, S, h⟩
    · have hba : b ≠ a := fun z => by
        have := (gz_none f3).2.2
        rw [← z, w2] at this
        cases this
        cases f2
      refine q1.run pins s' σ H Dn I ⟨a, u, (gz_none f3).2.2, isDO_mut f2, fun od => ⟨⟨b, vs, a, od, u, w1, by rw [upd_ne hba]; exact w2, w3, upd_same, f2⟩, F, _, ρ, S.lock f2 f3, ?_⟩⟩
      have h1 := h.unbase S.base_le
      have hn := (gz_none f3).2.1
      have e1 : Z.sub H (Own ρ σ) a = some u := by rw [sub_at hn]; exact (gz_none f3).2.2
      have h2 := h1.thaw (fun c fs e => ?_) f2 e1 od
      · have e2 : upd (Z.sub H (Own ρ σ)) a (.frz od u) = Z.sub (upd H a (.frz od u)) (Own ρ σ) := by
          funext b
          by_cases hb : b = a
          · subst hb
            rw [upd_same, sub_at hn, upd_same]
          · rw [upd_ne hb]
            unfold Z.sub
            split
            · rfl
            · rw [upd_ne hb]
        rw [← e2]
        exact h2
      · simp only [exS, unown] at e
        cases hq : evE (run P n) false (ixE i j) ρ with
        | exc c fs => exact ixE_noexc _ _ hq
        | bad =>
          simp only [evL, hq] at e
          cases e
        | ok d =>
          simp only [evL, hq, bind_ok, pure_R] at e
          cases hx : srcD .keys [d] with
          | exc c fs => rw [hx] at e; cases e
          | bad => rw [hx] at e; cases e
          | ok xs =>
            rw [hx] at e
            simp only [pr_ok, bind_ok] at e
            exact dictX_noexc (s := .keys) rfl _ _ e
theorem aug_l {o : Bin} {x z u : D} (h : augD o x z = .ok u) : ∃ i j, x = .int i ∧ z = .int j ∧ ((o = .add ∧ u = .int (i + j)) ∨ (o = .sub ∧ u = .int (i - j))) := by
  cases o <;> cases x <;> simp only [augD] at h <;> first | (cases h; done) | skip
  all_goals
    cases z <;> simp only at h <;> first | (cases h; done) | skip
    cases h
  · exact ⟨_, _, rfl, rfl, .inl ⟨rfl, rfl⟩⟩
  · exact ⟨_, _, rfl, rfl, .inr ⟨rfl, rfl⟩⟩
def augI : Bin → Int → Int → Int
  | .sub, i, j => i - j
  | _, i, j => i + j
theorem ip_z {o : Bin} (ho : o = .add ∨ o = .sub) : PIp X (bop o) (ipI (augI o)) := by
  rcases ho with rfl | rfl
  · exact ip_add
  · exact ip_sub
theorem s_aug {e : Expr} {ie : E} {o : Bin} {i : Nat} {nm : Str} {p pos : Pos} (C : Cok P n X sc N W) (hN : N[i]? = some nm) (hx : StN X nm) (ho : o = .add ∨ o = .sub) (he : PE X e (tZ true (frE ie) X W (evE (run P n) true ie))) :
    PS X (.AugAssign (.Name nm p) (bop o) e pos) (tZS fr X W (exS (run P n) fr (.aug i o ie))) := by
  have q := ps_aug (X := X) (i := i) (pos := pos) (pos' := p) C.nd (by rw [C.N]; exact hN) hx.1 he (ip_z ho) hx.2
  refine ⟨fun pins s σ H Dn I ⟨F, H₀, ρ, S, h⟩ => q.run pins s σ H Dn I ?_⟩
  simp only [exS] at h
  cases hr : rget ρ i with
  | exc c fs =>
    unfold rget at hr
    split at hr <;> cases hr
  | bad => rw [hr] at h; exact h.elim
  | ok pp =>
    rw [hr] at h
    simp only [bind_ok] at h
    obtain ⟨v, h1, h2, h3⟩ := S.var (rget_ok hr)
    refine ⟨v, h1, F, H₀, ρ, S, stepS S h fun d w H1 _ l t hh => ?_⟩
    obtain ⟨u, hu, h4⟩ := prS (f := fun u => pure (Out.nx (setR ρ i false u))) hh
    obtain ⟨a, b, e1, rfl, h5⟩ := aug_l hu
    have t := t.top Gz_le
    rw [e1] at h2
    simp only [Top, Den] at h2 t
    refine ⟨a, b, h2, t, h4 _ _ ((S.grow l).set ?_)⟩
    rcases h5 with ⟨rfl, rfl⟩ | ⟨rfl, rfl⟩ <;> simp [Den, augI]
end
end Z
end

section
set_option maxHeartbeats 4000000
set_option maxRecDepth 100000
/-! Z, part 14: more statements. -/
namespace Z
open PySem L2 PyProof.Rows
open Classical
section
variable {P : Prg} {n : Nat} {N : List Str} {X : Cx} {sc : Scope} {W : WX} {fr : Bool}
def rGetL (K : Frg) : V → V → Hp → VK → Prop := fun x y H Q => ∃ (p : Addr) (xs : List V) (i : Int) (z : V), x = .ref p ∧ y = .int i ∧ SqL K H p xs ∧ L2.atI xs i = some z ∧ Q z H
theorem get_l : PGet X (rGetL X.K) := by
  intro pins s σ H x y v u Q I rx ry h
  obtain ⟨p, xs, i, z, rfl, rfl, hq, he, q⟩ := h
  cases rx
  obtain ⟨t, rfl⟩ := ry
  obtain ⟨its, r, pl, hz⟩ := I.list hq
  obtain ⟨j, h1, h2, h3, h4, h5⟩ := atI_get he
  obtain ⟨w, ew, rw'⟩ := r.get h2
  have hl := r.length
  have hn := line63
  have fin : EP X pins σ Q w s := ⟨z, H, I, rw', q⟩
  by_cases h0 : 0 ≤ i
  · have hj : i.toNat = j := by
      rw [seqIndex_of h0 h5] at h1
      exact Option.some.inj h1
    exact wpAny_getItem_list pl.isList h0 (by omega) (by rw [hj]; simpa using ew) fin
  · have hj : (i + (its.toArray.size : Int)).toNat = j := by
      rw [seqIndex_neg (by omega) h4] at h1
      rw [List.size_toArray, ← hl]
      exact Option.some.inj h1
    exact wpAny_getItem_list_neg pl.isList (by omega) (by rw [List.size_toArray] <;> omega) (by omega) (by rw [hj]; simpa using ew) fin
def rGetD : V → V → Hp → VK → Prop := fun x y H Q => ∃ a z, x = .ref a ∧ DGet H a y (some z) ∧ Q z H
theorem get_d (hu : X.A.units + 1 < cLine) : PGet X rGetD := by
  intro pins s σ H x y v u Q I rx ry h
  obtain ⟨a, z, rfl, g, q⟩ := h
  cases rx
  exact d_getItem hu I g ry fun w' s3 I3 rw' => ⟨z, H, I3, rw', q⟩
theorem get_z (hu : X.A.units + 1 < cLine) : PGet X fun x y H Q => rGetL X.K x y H Q ∨ rGetD x y H Q := by
  intro pins s σ H x y v u Q I rx ry h
  rcases h with h | h
  · exact get_l pins s σ H x y v u Q I rx ry h
  · exact get_d hu pins s σ H x y v u Q I rx ry h
theorem s_augi {ek ev : Expr} {ik iv : E} {o : Bin} {i : Nat} {nm : Str} {p tp pos : Pos} (C : Cok P n X sc N W) (hN : N[i]? = some nm) (hv : visC sc nm = true) (hn : nmOk nm = true) (ho : o = .add ∨ o = .sub) (hk : plainX ek = true)
    (hi : PE X ek (tZ true (frE ik) X W (evE (run P n) true ik))) (he : PE X ev (tZ true (frE iv) X W (evE (run P n) true iv))) :
    PS X (.AugAssign (.Subscript (.Name nm p) ek tp) (bop o) ev pos) (tZS fr X W (exS (run P n) fr (.augi i o ik iv))) := by
  have q := ps_augS (pos := pos) (tpos := tp) (pvar (p := p) C hN hv hn) hi (get_z (X := X) (by have := C.hu; omega)) he (ip_z ho) (set_z C.hu) (by intro a b c; cases ek <;> first | rfl | simp [plainX] at hk)
  refine ⟨fun pins s σ H Dn I ⟨F, H₀, ρ, S, h⟩ => q.run pins s σ H Dn I ?_⟩
  simp only [exS] at h
  obtain ⟨how, h⟩ := gdS h
  obtain ⟨a, d0, e0, ea, c0⟩ := own_tv S how
  refine ⟨_, ea, F, H₀, ρ, S, stepS S h fun dk vk H1 _ l t h1 => ?_⟩
  have S1 := S.grow l
  have t := t.top Gz_le
  have hr : rget ρ i = .ok (true, d0) := by unfold rget; rw [e0]
  have h1 : PostS fr X F H₀ W Dn (do
      let x ← pr (idxD d0 dk)
      let z ← evE (run P n) true iv ρ
      let u ← pr (augD o x z)
      let ρ' ← pr (updI ρ i (setiD dk u))
      return .nx ρ') := by rw [hr] at h1; exact h1
  obtain ⟨x, hx, h2⟩ := prS h1
  obtain ⟨a', ea1, _, _, c1⟩ := S1.ow i d0 e0
  rw [ea] at ea1; cases ea1
  -- what is read
  have rd : ∀ {Q : VK}, (∀ w, Den X.K (Gz F ρ σ H1) x w → Q w H1) → rGetL X.K (.ref a) vk H1 Q ∨ rGetD (.ref a) vk H1 Q := fun {Q} k => by
    cases d0 <;> simp only [idxD] at hx <;> first | (cases hx; done) | skip
    · exact c1.elim
    · cases dk <;> simp only at hx <;> first | (cases hx; done) | skip
      obtain ⟨vs, g, dl⟩ := c1
      simp only [Top, Den] at t
      subst t
      obtain ⟨w, e1, e2⟩ := dl.at (oR_ok hx)
      exact .inl ⟨a, vs, _, w, rfl, rfl, .inl (.inl g), e1, k w e2⟩
    · obtain ⟨hf, hx⟩ := gd_ok hx
      obtain ⟨a2, oo, e1, e2, e3, _⟩ := dlook Gz_le (Top.ofC c1) hf (t.den Gz_le)
      cases e1
      rw [oR_ok hx] at e3
      obtain ⟨w, e4, e5⟩ := e3
      rw [e4] at e2
      exact .inr ⟨a, w, rfl, e2, k w e5⟩
    · exact c1.elim
  refine rd fun w dw => ⟨F, H₀, ρ, S1, stepS S1 h2 fun dz vz H2 _ l2 tz h3 => ?_⟩
  have S2 := S1.grow l2
  obtain ⟨u, hu, h4⟩ := prS h3
  obtain ⟨ii, jj, rfl, rfl, h5⟩ := aug_l hu
  have tz := tz.top Gz_le
  simp only [Top, Den] at dw tz
  refine ⟨ii, jj, dw, tz, ?_⟩
  obtain ⟨ρ', hup, h6⟩ := prS (f := fun ρ' => pure (Out.nx ρ')) h4
  have du : Den X.K (Gz F ρ σ H2) u (.int (augI o ii jj)) := by rcases h5 with ⟨rfl, rfl⟩ | ⟨rfl, rfl⟩ <;> simp [Den, augI]
  obtain ⟨a', ea', hr'⟩ := seti_run (Q := fun H' => Dn.nx σ H') S2 hup (t.mono (Gz_mono l2) l2) du fun H' S' => h6 σ H' S'
  rw [ea] at ea'; cases ea'
  exact hr'
end
/-! ### a, b = x, y, stored from the right -/
theorem swapped2 {x y : Str} {px py pt pt2 : Pos} {kt k2 : Nat} {a b : Expr} {env : Env} (hk : env.blockKind = .function) (hx : env.scope.names.lookup x = some .local) (hy : env.scope.names.lookup y = some .local) (hl : (py.line == px.line) = true) (hxy : x ≠ y)
    (ha : plainX a = true) (hb : plainX b = true) (hf : ([a, b].all (foldedForSure 8)) = false) (hc : ([a, b].all (constantsAlone 8)) = false) :
    swappedStores [.Tuple [.Name x px, .Name y py] kt pt] (.Tuple [a, b] k2 pt2) env = pure (some [x, y]) := by
  have hs : ([a, b].any fun | .Starred .. => true | _ => false) = false := by
    have p1 : (match (generalizing := false) a with | .Starred .. => true | _ => false) = false := by cases a <;> first | rfl | simp [plainX] at ha
    have p2 : (match (generalizing := false) b with | .Starred .. => true | _ => false) = false := by cases b <;> first | rfl | simp [plainX] at hb
    simp only [List.any_cons, List.any_nil, Bool.or_false]
    rw [Bool.or_eq_false_iff]
    exact ⟨p1, p2⟩
  unfold swappedStores
  have hk1 : (env.kindOf x == some NameKind.local) = true := by
    unfold Env.kindOf; rw [hx]; rfl
  have hk2 : (env.kindOf y == some NameKind.local) = true := by
    unfold Env.kindOf; rw [hy]; rfl
  have hd : ([x, y].eraseDups.length != 2) = false := by
    have : (y == x) = false := by simpa using fun z => hxy z.symm
    simp [List.eraseDups_cons, this]
  have hn : ([Expr.Name x px, Expr.Name y py].filterMap fun
    | .Name id pos => if env.kindOf id == some .local && pos.line == px.line then some id else none
    | _ => none) = [x, y] := by
    simp only [List.filterMap_cons, List.filterMap_nil, hk1, hk2, hl, beq_self_eq_true, Bool.and_self, if_true]
  show (do
    if !([Expr.Name x px, Expr.Name y py].length == 2 || [Expr.Name x px, Expr.Name y py].length == 3) || [a, b].length != [Expr.Name x px, Expr.Name y py].length || env.blockKind != .function then return none
    if ([a, b].any fun | .Starred .. => true | _ => false) then return none
    if ([Expr.Name x px, Expr.Name y py].filterMap fun
    | .Name id pos => if env.kindOf id == some .local && pos.line == px.line then some id else none
    | _ => none).length != [Expr.Name x px, Expr.Name y py].length || ([Expr.Name x px, Expr.Name y py].filterMap fun
    | .Name id pos => if env.kindOf id == some .local && pos.line == px.line then some id else none
    | _ => none).eraseDups.length != ([Expr.Name x px, Expr.Name y py].filterMap fun
    | .Name id pos => if env.kindOf id == some .local && pos.line == px.line then some id else none
    | _ => none).length then return none
    if [a, b].all (foldedForSure 8) then return none
    if [a, b].all (constantsAlone 8) then unsupported "assign.tuple-of-constant-expressions:order-of-the-stores"
    return some ([Expr.Name x px, Expr.Name y py].filterMap fun
    | .Name id pos => if env.kindOf id == some .local && pos.line == px.line then some id else none
    | _ => none) : Sem (Option (List Str))) = _
  rw [hn, hs, hf, hc, hk]
  have c1 : (!([Expr.Name x px, Expr.Name y py].length == 2 || [Expr.Name x px, Expr.Name y py].length == 3) || [a, b].length != [Expr.Name x px, Expr.Name y py].length || ScopeKind.function != ScopeKind.function) = false := rfl
  have c2 : ([x, y].length != [Expr.Name x px, Expr.Name y py].length || [x, y].eraseDups.length != [x, y].length) = false := by
    show (false || ([x, y].eraseDups.length != 2)) = false
    rw [hd]; rfl
  rw [c1, c2]
  rfl
section
variable {P : Prg} {n : Nat} {N : List Str} {X : Cx} {sc : Scope} {W : WX} {fr : Bool}
theorem s_par2 {i j : Nat} {x y : Str} {px py pt pt2 pos : Pos} {kt k2 : Nat} {a b : Expr} {ia ib : E} (C : Cok P n X sc N W) (hk : X.env.scope.kind = .function) (hi : N[i]? = some x) (hj : N[j]? = some y) (hij : i ≠ j)
    (hx : sc.names.lookup x = some .local) (hy : sc.names.lookup y = some .local) (hl : (py.line == px.line) = true) (hf : ([a, b].all (foldedForSure 8)) = false) (hc : ([a, b].all (constantsAlone 8)) = false)
    (hpa : plainX a = true) (hpb : plainX b = true) (ha : PA X [a, b] (tZL false X W (evL (run P n) false [ia, ib]))) :
    PS X (.Assign [.Tuple [.Name x px, .Name y py] kt pt] (.Tuple [a, b] k2 pt2) pos) (tZS fr X W (exS (run P n) fr (.par [i, j] [ia, ib]))) := by
  have hxy : x ≠ y := by
    rintro rfl
    have nd := C.nd
    rw [C.N] at nd
    have h1 := (List.getElem?_eq_some_iff.mp hi).1
    exact hij ((List.getElem?_inj h1 nd).mp (by rw [hi, hj]))
  have hb : X.env.blockKind = .function := by
    unfold Env.blockKind
    rw [hk]; rfl
  have q := ps_par (pos := pos) (kt := kt) (k2 := k2) (pt := pt) (pt2 := pt2) (px := px) (py := py) C.calm C.nd (by rw [C.N]; exact hi) (by rw [C.N]; exact hj) hij (by rw [C.sc]; exact hx) (by rw [C.sc]; exact hy) ha
    (swapped2 hb (by rw [C.sc]; exact hx) (by rw [C.sc]; exact hy) hl hxy hpa hpb hf hc)
  refine ⟨fun pins s σ H Dn I ⟨F, H₀, ρ, S, h⟩ => q.run pins s σ H Dn I ?_⟩
  rw [exS] at h
  refine ⟨F, H₀, ρ, S, stepSL S h fun ds vs H1 l t h1 => ?_⟩
  have t : DenL X.K (Gz F ρ σ H1) ds vs := t
  obtain ⟨ρ', hu, h2⟩ := prS (f := fun ρ' => pure (Out.nx ρ')) h1
  match ds, hu with
  | [], hu => simp [setAll] at hu
  | [d], hu => simp [setAll] at hu
  | d :: e :: f :: r, hu => simp [setAll] at hu
  | [d, e], hu =>
    have hu : ρ' = setR (setR ρ i false d) j false e := by simp only [setAll] at hu; injection hu with z; exact z.symm
    subst hu
    simp only [DenL] at t
    obtain ⟨v, vs, rfl, tv, w, vs, rfl, tw, rfl⟩ := t
    have S1 := S.grow l
    have gm : Le (Gz F ρ σ H1) (Gz F (setR ρ i false d) (σ.set i (some v)) H1) := sub_mono fun a o e n => ⟨e, fun z => n (z.elim .inl fun z => .inr (own_set_false S.len a z))⟩
    exact ⟨v, w, rfl, h2 _ _ ((S1.set tv).set (Den.mono gm _ _ tw))⟩
/-! ### l.remove(x), y = l.pop(), what is forgotten -/
theorem DenL.erase {K : Frg} {H : Hp} {ds : List D} {vs : List V} (j : Nat) (h : DenL K H ds vs) : DenL K H (ds.eraseIdx j) (vs.eraseIdx j) := by
  rw [List.eraseIdx_eq_take_drop_succ, List.eraseIdx_eq_take_drop_succ]
  exact (h.take j).append (h.drop (j + 1))
theorem rem_l {v d d' : D} (h : remD v d = .ok d') : ∃ xs r, d = .lst xs ∧ plD 20 v = true ∧ plL 19 xs = true ∧ remL v xs = some r ∧ d' = .lst r := by
  cases d <;> simp only [remD] at h <;> first | (cases h; done) | skip
  obtain ⟨⟨h1, h2⟩, h⟩ := gd_ok h
  split at h <;> first | (cases h; done) | skip
  rename_i r hr
  cases h
  exact ⟨_, r, rfl, h1, h2, hr, rfl⟩
theorem s_rem {e : Expr} {ie : E} {i : Nat} {nm : Str} {p ap cp pos : Pos} (C : Cok P n X sc N W) (hN : N[i]? = some nm) (hv : visC sc nm = true) (hn : nmOk nm = true) (hp : plainX e = true) (hline : (ap.endLine == cp.line) = true)
    (he : PE X e (tZ true (frE ie) X W (evE (run P n) true ie))) : PS X (.Expr (.Call (.Attribute (.Name nm p) (Str.ofString "remove") ap) [e] [] cp) pos) (tZS fr X W (exS (run P n) fr (.rem i ie))) := by
  have q := s_meth (m := "remove") (pos := pos) (p := p) (ap := ap) (cp := cp) C hN hv hn PySem.F.slot_list_remove PySem.F.type_list_remove (mt_remove C.hu) (pa_cons he pa_nil (plain_star hp)) (by simpa using hp) (by simp) hline
  refine ⟨fun pins s σ H Dn I ⟨F, H₀, ρ, S, h⟩ => q.run pins s σ H Dn I ?_⟩
  simp only [exS] at h
  obtain ⟨ho, h⟩ := gdS h
  obtain ⟨a, vs0, ea, g0⟩ := ol_tv S ho
  refine ⟨_, ea, tyv_list g0, F, H₀, _, S, stepS S h fun d v H1 _ l t h1 => ?_⟩
  have t := t.top Gz_le
  have S1 := S.grow l
  obtain ⟨ρ', hu, h2⟩ := prS (f := fun ρ' => pure (Out.nx ρ')) h1
  obtain ⟨a', xs, d', vs, k1, k2, g, dl, k3, rfl⟩ := lst_get S1 (fun d d' z => let ⟨xs, _, e, _⟩ := rem_l z; ⟨xs, e⟩) hu
  rw [ea] at k2; cases k2
  obtain ⟨xs', r, e, p1, p2, hr, rfl⟩ := rem_l k3
  cases e
  rw [dpAll_rem p1 p2] at hr
  obtain ⟨j, hj, rfl⟩ := Option.map_eq_some_iff.mp hr
  exact ⟨_, a, xs, vs, d, v, j, S1.kn, rfl, g, dl, rfl, t, ⟨p1, p2⟩, hj, h2 _ _ (S1.updOwn k1 ea ⟨_, upd_same, dl.erase j⟩)⟩
theorem s_pop {i j : Nat} {nm x : Str} {p px ap cp pos : Pos} (C : Cok P n X sc N W) (hN : N[i]? = some nm) (hv : visC sc nm = true) (hn : nmOk nm = true) (hj : N[j]? = some x) (hx : StN X x) (hline : (ap.endLine == cp.line) = true) :
    PS X (.Assign [.Name x px] (.Call (.Attribute (.Name nm p) (Str.ofString "pop") ap) [] [] cp) pos) (tZS fr X W (exS (run P n) fr (.pop j i))) := by
  have q := ps_set (X := X) (i := j) (pos := pos) (pos' := px) C.nd (by rw [C.N]; exact hj) hx.1 (pe_bm0 (apos := ap) (cpos := cp) PySem.F.plainAttrs_list PySem.F.slot_list_pop PySem.F.type_list_pop mt_pop (pvar (p := p) C hN hv hn) rfl hline) rfl hx.2
  refine ⟨fun pins s σ H Dn I ⟨F, H₀, ρ, S, h⟩ => q.run pins s σ H Dn I ?_⟩
  simp only [exS] at h
  cases hr : rget ρ i with
  | exc c fs =>
    unfold rget at hr
    split at hr <;> cases hr
  | bad => rw [hr] at h; exact h.elim
  | ok pp =>
    rw [hr] at h
    simp only [bind_ok] at h
    obtain ⟨ho, h⟩ := gdS h
    obtain ⟨o, d0⟩ := pp
    have ho : o = true := ho
    subst ho
    cases d0 <;> simp only at h <;> first | exact h.elim | skip
    rename_i xs hold
    clear hold
    obtain ⟨q1, hq, h2⟩ := prS h
    obtain ⟨a, e1, e2, e3, vs, g, dl⟩ := S.ow i _ (rget_ok hr)
    cases xs with
    | nil => simp [popD] at hq
    | cons y r =>
      simp only [popD] at hq
      cases hq
      have hlen := dl.length
      have hi : vs.length - 1 < vs.length := by rw [hlen]; simp
      obtain ⟨dz, hz, dz2⟩ := dl.getV (List.getElem?_eq_getElem hi)
      have ez : dz = (y :: r).getLast (List.cons_ne_nil _ _) := by
        rw [hlen, ← List.getLast?_eq_getElem?, List.getLast?_eq_some_getLast (List.cons_ne_nil _ _)] at hz
        exact (Option.some.inj hz).symm
      subst ez
      refine ⟨.ref a, e1, tyv_list g, a, vs, _, rfl, rfl, g, List.getElem?_eq_getElem hi, ?_⟩
      have hd : DenL X.K (Gz F ρ σ H) (y :: r).dropLast vs.dropLast := by
        rw [List.dropLast_eq_take, List.dropLast_eq_take, hlen]
        exact dl.take _
      have S2 := S.updOwn (rget_ok hr) e1 (d' := .lst (y :: r).dropLast) (o := .lst vs.dropLast) ⟨_, upd_same, hd⟩
      refine h2 _ _ (S2.set (Den.mono (sub_mono fun b o e nn => ?_) _ _ dz2))
      have hb : b ≠ a := fun z => nn (.inr ⟨i, _, rget_ok hr, by rw [z]; exact e1⟩)
      refine ⟨by rw [upd_ne hb]; exact e, fun z => nn (z.elim .inl fun ⟨k, f, k1, k2⟩ => .inr ?_)⟩
      by_cases hk : i = k
      · subst hk
        exact ⟨i, _, rget_ok hr, k2⟩
      · unfold setR at k1
        rw [List.getElem?_set_ne hk] at k1
        exact ⟨k, f, k1, k2⟩
/-- a name is forgotten -/
theorem SR.forget1 {K : Frg} {F : Addr → Prop} {H₀ H : Hp} {ρ : Rho} {σ : St} (S : SR K F H₀ H ρ σ) (i : Nat) : SR K F H₀ H (ρ.set i none) σ := by
  have out : ∀ {j : Nat} {p : Bool × D}, (ρ.set i none)[j]? = some (some p) → ρ[j]? = some (some p) := fun {j p} h => by
    by_cases hj : i = j
    · subst hj
      by_cases hl : i < ρ.length
      · rw [List.getElem?_set_self hl] at h; cases h
      · rw [List.getElem?_eq_none (by simpa using hl)] at h; cases h
    · rw [List.getElem?_set_ne hj] at h; exact h
  have own : ∀ a, Own (ρ.set i none) σ a → Own ρ σ a := fun a ⟨j, d, h1, h2⟩ => ⟨j, d, out h1, h2⟩
  have hg : Le (Gz F ρ σ H) (Gz F (ρ.set i none) σ H) := sub_mono fun a o e n => ⟨e, fun z => n (z.elim .inl fun z => .inr (own a z))⟩
  exact ⟨by rw [List.length_set]; exact S.len, S.ext, S.fF, fun j d h => let ⟨v, h1, h2⟩ := S.sl j d (out h); ⟨v, h1, Den.mono hg _ _ h2⟩,
    fun j d h => let ⟨a, h1, h2, h3, h4⟩ := S.ow j d (out h); ⟨a, h1, h2, h3, h4.mono hg fun _ z => z⟩, fun j k d e a h1 h2 h3 h4 => S.inj j k d e a (out h1) (out h2) h3 h4⟩
theorem SR.forget {K : Frg} {F : Addr → Prop} {H₀ H : Hp} {σ : St} : ∀ (is : List Nat) {ρ : Rho}, SR K F H₀ H ρ σ → SR K F H₀ H (wipeR ρ is) σ
  | [], _, S => S
  | i :: is, _, S => (SR.forget is S).forget1 i
theorem l_wipe {sts : List Stmt} {is : List Nat} {iss : List S} (h : PSs X sts (tZS fr X W (exL (run P n) fr iss))) : PSs X sts (tZS fr X W (exL (run P n) fr (.wipe is :: iss))) := by
  refine ⟨fun pins s σ H Dn I ⟨F, H₀, ρ, S, q⟩ => h.run pins s σ H Dn I ⟨F, H₀, _, SR.forget is (S.un is S), ?_⟩⟩
  rw [exL] at q
  simp only [exS, bind_ok] at q
  exact q
end
end Z
end

section
set_option maxHeartbeats 4000000
set_option maxRecDepth 100000
/-! Z, part 14b: raise, try. -/
namespace Z
open PySem PySem.Spec PyProof.Rows L2 L2H
open Classical
/-- X() -/
theorem pmk_own0 {X : Cx} {C : Addr} {bmB : List Value} {B newId initId : String} {x : Str} {p pos : Pos} (F : ExcBaseFacts B newId initId bmB) (q : PySem.W.excIn X.K C bmB newId = true) (gC : X.mg x = some (.ref C)) (kC : PySem.W.keepIn X.K (.ref C) = true) (r : Raises X (.ref C)) (hg : Gl X x)
    (hdb : (x == ("__debug__" : Str)) = false := by decide) : PMk X (.Call (.Name x p) [] [] pos) (fun _ H Q => Q (.ref C) none H) := by
  intro pins s σ H Q I h
  refine wpAny_Call_Name_kw (ld_glob I hg gC ?_ hdb)
  refine PySem.W.callWith_K0 (K := X.K) I.kIn kC ?_
  show wpAny _ _ (call (.ref C) []) _ _ _
  obtain ⟨bm, N, nm, qn, bs, hdct, sn, sub, ab, col, dd, k0, k1, k2, k3, k5, mN, hC, hN, hni, T⟩ := exc_obj I.kIn q
  refine wpAny_call_exc_subT F T hC hN hni (fun h' e hm => ?_) (by show 0 ≤ sizeLine; exact Nat.zero_le _)
  exact mk_of I hm r h (I.hok.gone hm.new)
/-! ### __init__ -/
def fldStC (sc : Scope) (f : String) : Stmt → Bool
  | .Assign [.Attribute (.Name s _) g _] (.Name y _) _ => (s == nSelf) && (g == Str.ofString f) && (y == Str.ofString f) && isLoc sc s && isLoc sc y && nmOk s && nmOk y
  | _ => false
def fldsC (sc : Scope) : List String → List Stmt → Bool
  | [], sts => sts.isEmpty
  | f :: fs, st :: sts => fldStC sc f st && fldsC sc fs sts
  | _, _ => false
def iN (c : String) : List Str := nSelf :: (fldsOf c).map Str.ofString
def scopeI (N ps : List Str) (sc : Scope) : Bool := (match sc.kind with | .function => true | _ => false) && (sc.isCoroutine == false) && (sc.isGenerator == false) && decide N.Nodup && decide (N.take ps.length = ps) &&
  (ps.all fun x => match sc.names.lookup x with | some .local => true | some .cell => true | _ => false) && (sc.names.all fun y => match y.2 with | .free => false | _ => true)
theorem scopeI_is {N ps : List Str} {sc : Scope} (h : scopeI N ps sc = true) : FnScope N ps sc := by
  unfold scopeI at h
  simp only [Bool.and_eq_true, decide_eq_true_eq, List.all_eq_true, beq_iff_eq] at h
  obtain ⟨⟨⟨⟨⟨⟨h1, h2⟩, h3⟩, h4⟩, h5⟩, h6⟩, h7⟩ := h
  refine ⟨?_, h2, h3, h4, h5, fun x hx => ?_, fun y hy e => ?_⟩
  · split at h1
    · assumption
    · cases h1
  · have := h6 x hx
    split at this
    · exact .inl (by assumption)
    · exact .inr (by assumption)
    · cases this
  · have := h7 y hy
    rw [e] at this
    cases this
def chkI (c : String) (st : Stmt) : Bool := scopeI (iN c) (iN c) (defScope st) && fldsC (defScope st) (fldsOf c) (defBody st) && decide ((fldsOf c).length ≤ 2)
/-- what __init__ leans on -/
structure InX (X : Cx) (C : Addr) (fs : List String) : Prop where
  T : OexC X.K C
  nf : ∀ f ∈ fs, PySem.W.findIn X.K (.ref C) (Str.ofString f) = some none
  N : X.N = nSelf :: fs.map Str.ofString
section
variable {X : Cx} {C : Addr} {fs : List String}
theorem fld_ps (h : InX X C fs) {i : Nat} {f : String} (hi : fs[i]? = some f) {st : Stmt} (hc : fldStC X.env.scope f st = true) :
    PS X st (tOst X.K (Str.ofString f) (tVar 0) (tVar (i + 1))) := by
  unfold fldStC at hc
  split at hc
  · rename_i s p1 g p2 y p3 pos
    simp only [Bool.and_eq_true, beq_iff_eq] at hc
    obtain ⟨⟨⟨⟨⟨⟨rfl, rfl⟩, rfl⟩, l1⟩, l2⟩, n1⟩, n2⟩ := hc
    obtain ⟨a1, a2, _⟩ := nmOk_ne n1
    obtain ⟨b1, b2, _⟩ := nmOk_ne n2
    exact ps_ost (pe_var (i := 0) (by rw [h.N]; rfl) (.inl (isLoc_is l1)) a1 a2) (pe_var (i := i + 1) (by rw [h.N]; simp [hi]) (.inl (isLoc_is l2)) b1 b2) rfl
  · cases hc
theorem init_ps (h : InX X C fs) (hl : fs.length ≤ 2) (hne : fs ≠ []) {sts : List Stmt} (hc : fldsC X.env.scope fs sts = true) : ∃ t, PSs X sts t ∧ ∀ (D : Ends) (a : Addr) (ws : List V) (H : Hp), ws.length = fs.length → H a = some (exo a C none) →
    (∀ d H', H d = none → d ≠ a → H' a = some (exo a C (some d)) → H' d = some (exd d ((fs.map Str.ofString).zip ws).reverse) → (∀ b, b ≠ a → b ≠ d → H' b = H b) → D.nx (some (.ref a) :: ws.map some) H') → t D (some (.ref a) :: ws.map some) H := by
  rcases fs with _ | ⟨f1, _ | ⟨f2, _ | ⟨f3, r⟩⟩⟩
  · exact (hne rfl).elim
  · rcases sts with _ | ⟨s1, _ | ⟨s2, r2⟩⟩
    · cases hc
    · simp only [fldsC, Bool.and_eq_true] at hc
      refine ⟨_, pss_cons (fld_ps h (i := 0) rfl hc.1) pss_nil, fun D a ws H hw ha hq => ?_⟩
      rcases ws with _ | ⟨w1, _ | ⟨w2, r3⟩⟩ <;> simp at hw
      refine ⟨w1, rfl, .ref a, rfl, a, C, rfl, h.T, h.nf f1 (by simp), .inl ⟨ha, fun d hd hne => ?_⟩⟩
      exact hq d _ hd hne upd_same (by rw [upd_ne hne, upd_same]; rfl) fun b h1 h2 => by rw [upd_ne h1, upd_ne h2]
    · simp [fldsC] at hc
  · rcases sts with _ | ⟨s1, _ | ⟨s2, _ | ⟨s3, r2⟩⟩⟩
    · cases hc
    · simp [fldsC] at hc
    · simp only [fldsC, Bool.and_eq_true] at hc
      refine ⟨_, pss_cons (fld_ps h (i := 0) rfl hc.1) (pss_cons (fld_ps h (i := 1) rfl hc.2.1) pss_nil), fun D a ws H hw ha hq => ?_⟩
      rcases ws with _ | ⟨w1, _ | ⟨w2, _ | ⟨w3, r3⟩⟩⟩ <;> simp at hw
      refine ⟨w1, rfl, .ref a, rfl, a, C, rfl, h.T, h.nf f1 (by simp), .inl ⟨ha, fun d hd hne => ?_⟩⟩
      refine ⟨w2, rfl, .ref a, rfl, a, C, rfl, h.T, h.nf f2 (by simp), .inr ⟨d, [(Str.ofString f1, w1)], upd_same, by rw [upd_ne hne, upd_same], by simp, ?_⟩⟩
      exact hq d _ hd hne (by rw [upd_ne (Ne.symm hne), upd_same]) (by rw [upd_same]; rfl) fun b h1 h2 => by rw [upd_ne h2, upd_ne h1, upd_ne h2]
    · simp [fldsC] at hc
  · simp at hl
end
theorem init_ok {prog : Program} {w : World} {K : Frg} {mg : Str → Option Value} {base : Heap} {c : String} {C f : Addr} {x qual : Str} {st : Stmt} {fd : FuncData} (T : OexC K C) (nf : ∀ f ∈ fldsOf c, PySem.W.findIn K (.ref C) (Str.ofString f) = some none) (hne : fldsOf c ≠ []) (F : Fun K x qual st f fd) (hc : chkI c st = true) :
    FnOk prog w K mg base (L2.CX prog w) 1 f fd (nSelf :: (fldsOf c).map Str.ofString) (spI K c C) := by
  unfold chkI at hc
  simp only [Bool.and_eq_true, decide_eq_true_eq] at hc
  obtain ⟨⟨h1, h2⟩, h3⟩ := hc
  have fs := scopeI_is h1
  refine F.okX (k := 0) (N := iN c) (ps := iN c) fs (fun vs H Q E h => ?_) fun cdv A outer s H vs Q E hr h => ?_
  · obtain ⟨a, ws, rfl, hl, _⟩ := h
    simp [iN, hl]
  · obtain ⟨a, ws, rfl, hl, ha, hq⟩ := h
    obtain ⟨t, q1, q2⟩ := init_ps (X := cxOf (L2.CX prog w) prog w K mg base (iN c) qual (defScope st) f cdv A outer s H E) (C := C) (fs := fldsOf c) ⟨T, nf, rfl⟩ h3 hne h2
    refine ⟨t, q1, ?_⟩
    have e : L2.start (iN c) (.ref a :: ws) = some (.ref a) :: ws.map some := by
      unfold L2.start iN
      simp [hl]
    rw [e]
    exact q2 _ a ws H hl ha hq
theorem topL_ints {K : Frg} {H G : Hp} : ∀ {ds : List D} {vs : List V} {ns : List Int}, TopL K H G ds vs → allOf intOf ds = some ns → vs = ns.map V.int
  | [], _, _, x, h => by simp only [TopL] at x; simp [allOf] at h; subst h; exact x
  | d :: ds, vs, ns, x, h => by
    simp only [TopL] at x
    obtain ⟨v, r, e, g, l⟩ := x
    cases d <;> simp [allOf, intOf] at h
    rename_i i
    cases q : allOf intOf ds with
    | none => rw [q] at h; cases h
    | some ms =>
      rw [q] at h
      simp at h; subst h
      simp only [Top, Den] at g
      rw [e, g, topL_ints l q]; rfl
section
variable {P : Prg} {n : Nat} {N : List Str} {X : Cx} {sc : Scope} {W : WX} {fr : Bool}
/-- raise c(..) -/
theorem s_raise {c : String} {es : List Expr} {ies : List E} {p pos pos' : Pos} (C : Cok P n X sc N W) (hm : c ∈ P.excs) (hg : glC sc (Str.ofString c) = true) (hn : nmOk (Str.ofString c) = true) (hl : es.length = ies.length) (hf : ies.length = (fldsOf c).length) (hp : ∀ x ∈ es, plainX x = true)
    (ha : PA X es (tZL true X W (evL (run P n) true ies))) : PS X (.Raise (some (.Call (.Name (Str.ofString c) p) es [] pos)) none pos') (tZS fr X W (exS (run P n) fr (.raise c ies))) := by
  obtain ⟨Ca, g, b1, b2, kp, hh⟩ := (C.exc c hm).ex
  obtain ⟨n1, n2, n3⟩ := nmOk_ne hn
  rcases hh with ⟨h0, xin⟩ | ⟨h0, T, fI, fdt, iC, tI, hb, F1⟩
  · have e1 : ies = [] := List.length_eq_zero_iff.mp (by rw [hf, h0]; rfl)
    subst e1
    have e2 : es = [] := List.length_eq_zero_iff.mp hl
    subst e2
    have q := ps_raise (pos := pos') C.calm C.tk (pmk_own0 (p := p) (pos := pos) PySem.F.excBase_ValueError xin g kp (raises_own b1 b2) (glC_gl C.sc hg) n1)
    refine ⟨fun pins s σ H Dn I ⟨F, H₀, ρ, S, h⟩ => q.run pins s σ H Dn I ?_⟩
    have h : PostS fr X F H₀ W Dn (gd ((([] : List Int)).length = (fldsOf c).length) (.exc c (([] : List Int).map D.int))) := by
      simpa only [exS, evL, bind_ok, pure_R, allOf] using h
    obtain ⟨_, h⟩ := gdS h
    exact h _ _ σ H S.ext ⟨Ca, [], g, rfl, rfl, by rw [h0]; rfl, .inl ⟨h0, rfl⟩⟩
  · rcases es with _ | ⟨e, es⟩
    · have : ies.length = 0 := hl.symm
      rw [hf] at this
      exact (h0 (List.length_eq_zero_iff.mp this)).elim
    · have st : (backTo pos (starEach es X.env)).any (·.1) = false := by
        have aux : ∀ l : List Expr, (∀ x ∈ l, plainX x = true) → starEach l X.env = l.map fun x => (false, eval x X.env) := by
          intro l
          induction l with
          | nil => intro _; rfl
          | cons a b ih => intro h; rw [plain_star (h a (by simp)), ih fun x hx => h x (by simp [hx])]; rfl
        rw [aux es fun x hx => hp x (by simp [hx])]
        unfold backTo
        simp [List.any_map]
      have q := ps_raise (pos := pos') C.calm C.tk (pmk_oex (k := 1) (p := p) (pos := pos) T iC tI F1 (C.room.mono (by omega)) hb .nil passL (glC_gl C.sc hg) g ha n1 (plain_star (hp e (by simp))) st)
      refine ⟨fun pins s σ H Dn I ⟨F, H₀, ρ, S, h⟩ => q.run pins s σ H Dn I ?_⟩
      simp only [exS] at h
      refine ⟨F, H₀, ρ, S, stepSL (b := true) S h fun ds vs H1 l t h1 => ?_⟩
      have t : TopL X.K H1 (Gz F ρ σ H1) ds vs := by simpa using t
      cases hns : allOf intOf ds with
      | none => rw [hns] at h1; exact h1.elim
      | some ns =>
        rw [hns] at h1
        obtain ⟨hlen, h1⟩ := gdS h1
        have ev : vs = ns.map V.int := topL_ints t hns
        subst ev
        have hz : (ns.map V.int).length ≤ 1000 := by
          rw [List.length_map, hlen]
          unfold fldsOf
          split <;> decide
        refine ⟨hz, fun a ha' => ?_⟩
        rw [List.append_nil]
        refine ⟨a, ns.map V.int, rfl, by rw [List.length_map]; exact hlen, upd_same, fun d H2 hd hne e1 e2 e3 => ⟨rfl, d, _, e1, e2, ?_, ?_⟩⟩
        · rw [upd_ne hne] at hd; exact hd
        · have hd1 : H1 d = none := by rw [upd_ne hne] at hd; exact hd
          refine h1 _ _ σ _ (S.ext.trans (l.trans fun b o e => ?_)) ⟨Ca, ns, g, rfl, rfl, hlen, .inr ⟨d, rfl, upd_same⟩⟩
          have nb : b ≠ d := ne_of_none e hd1
          have na : b ≠ a := ne_of_none e ha'
          rw [upd_ne nb, del_ne na, e3 b na nb, upd_ne na]
          exact e
end
/-! ### an except suite -/
def locN (N : List Str) (sc : Scope) (i : Nat) (x : Str) : Bool := decide (N[i]? = some x) && isLoc sc x && nmOk x
def saC (N : List Str) (sc : Scope) (i : Nat) (k : Knd) : SA → Expr → Bool
  | .int z, .Constant (.int c) _ _ => z == c
  | .int z, .UnaryOp .USub (.Constant (.int c) _ _) _ => z == -c
  | .kinds, .Call (.Name f _) [.Name x _] [] _ => (f == Str.ofString k.nm) && glC sc f && nmOk f && locN N sc i x
  | .fld f, .Attribute (.Name x _) g _ => (g == Str.ofString f) && locN N sc i x
  | _, _ => false
def saCL (N : List Str) (sc : Scope) (i : Nat) (k : Knd) : List SA → List Expr → Bool
  | [], es => es.isEmpty
  | a :: as, e :: es => saC N sc i k a e && saCL N sc i k as es
  | _, _ => false
def svC (N : List Str) (sc : Scope) (i : Nat) (k : Knd) : SV → Expr → Bool
  | .one a, e => saC N sc i k a e
  | .eqk z, .Compare m [.Eq] [.Constant (.int c) _ _] _ => (z == c) && saC N sc i k .kinds m
  | .tup as, .Tuple es _ _ => saCL N sc i k as es && decide (as.length ≤ 100)
  | .lst as, .List es _ => saCL N sc i k as es && decide (as.length ≤ 100)
  | _, _ => false
def suC (N : List Str) (sc : Scope) (i : Nat) (k : Knd) : SU → List Stmt → Bool
  | .ret v, [.Return (some e) _] => svC N sc i k v e
  | .ifk z v w, [.If (.Compare m [.Eq] [.Constant (.int c) _ _] _) [.Return (some e1) _] [] _, .Return (some e2) _] => (z == c) && saC N sc i k .kinds m && svC N sc i k v e1 && svC N sc i k w e2
  | _, _ => false
/-- what the suite leans on -/
structure SuX (X : Cx) (N : List Str) (sc : Scope) (k : Knd) (i : Nat) (a : Addr) (oe : Obj) (c : String) (Ca : Addr) (ns : List Int) (d : Option Addr) : Prop where
  sc : X.env.scope = sc
  N : X.N = N
  hu : X.A.units + 100 < cLine
  rm : RoomH 1 X.A
  knd : KndAt X.prog X.w X.K X.mg X.base k
  mem : c ∈ k.ls.flatten
  g : X.mg (Str.ofString c) = some (.ref Ca)
  hl : ns.length = (fldsOf c).length
  hz : Zc (.ref Ca) d oe
  hf : ∃ vs, oe.data = .fields vs
def SuP (c : String) (ns : List Int) (i : Nat) (a : Addr) (d : Option Addr) (σ : St) (H : Hp) : Prop := σ[i]? = some (some (.ref a)) ∧ ((fldsOf c = [] ∧ d = none) ∨ ∃ b : Addr, d = some b ∧ H b = some (.xd (((fldsOf c).map Str.ofString).zip (ns.map V.int)).reverse))
theorem SuP.grow {c : String} {ns : List Int} {i : Nat} {a : Addr} {d : Option Addr} {σ : St} {H H' : Hp} (l : Le H H') (h : SuP c ns i a d σ H) : SuP c ns i a d σ H' := ⟨h.1, h.2.imp id fun ⟨b, e, q⟩ => ⟨b, e, l _ _ q⟩⟩
theorem xd_look : ∀ {fs : List String} {ns : List Int} {f : String} {dd : D}, fs.length ≤ 2 → ns.length = fs.length → (fs.zip (ns.map D.int)).lookup f = some dd → fs.map Str.ofString = (fs.map Str.ofString).eraseDups → ∃ z, dd = .int z ∧ (((fs.map Str.ofString).zip (ns.map V.int)).reverse).lookup (Str.ofString f) = some (.int z) := by
  intro fs ns f dd h2 hl h hd
  rcases fs with _ | ⟨f1, _ | ⟨f2, _ | ⟨f3, r⟩⟩⟩
  · simp at h
  · rcases ns with _ | ⟨n1, _ | ⟨n2, r⟩⟩ <;> simp at hl
    simp only [List.map_cons, List.map_nil, List.zip_cons_cons, List.zip_nil_right, List.lookup] at h
    cases e : f == f1 with
    | false => rw [e] at h; cases h
    | true =>
      rw [e] at h
      cases h
      rw [beq_iff_eq.mp e]
      exact ⟨n1, rfl, by simp [List.lookup]⟩
  · rcases ns with _ | ⟨n1, _ | ⟨n2, _ | ⟨n3, r⟩⟩⟩ <;> simp at hl
    have hne : Str.ofString f1 ≠ Str.ofString f2 := fun z => by
      simp only [List.map_cons, List.map_nil, z, List.eraseDups_cons, List.filter_cons, List.filter_nil, beq_self_eq_true, Bool.not_true, Bool.false_eq_true, if_false, List.eraseDups_nil] at hd
      cases hd
    simp only [List.map_cons, List.map_nil, List.zip_cons_cons, List.zip_nil_right, List.lookup] at h
    cases e : f == f1 with
    | true =>
      rw [e] at h
      cases h
      rw [beq_iff_eq.mp e]
      refine ⟨n1, rfl, ?_⟩
      have e2 : (Str.ofString f1 == Str.ofString f2) = false := by simpa using hne
      simp [List.lookup, e2]
    | false =>
      rw [e] at h
      simp only at h
      cases e2 : f == f2 with
      | false => rw [e2] at h; cases h
      | true =>
        rw [e2] at h
        cases h
        rw [beq_iff_eq.mp e2]
        exact ⟨n2, rfl, by simp [List.lookup]⟩
  · simp at h2
theorem flds_ok (c : String) : (fldsOf c).length ≤ 2 ∧ (fldsOf c).map Str.ofString = ((fldsOf c).map Str.ofString).eraseDups := by
  unfold fldsOf
  split <;> exact ⟨by decide, by decide +kernel⟩
theorem kit_of {l : List (List String)} {c : String} {r : Int} (h : kindR l c = .ok r) : kindAt (l.flatten.map fun c' => decide (c' = c)) = some r := by
  unfold kindR at h
  split at h
  · rename_i r' e
    cases h
    exact e
  · cases h
section
variable {N : List Str} {X : Cx} {sc : Scope} {k : Knd} {i : Nat} {a : Addr} {oe : Obj} {c : String} {Ca : Addr} {ns : List Int} {d : Option Addr} {pn : List (Addr × Obj)}
theorem su_var {x : Str} {p : Pos} (h : SuX X N sc k i a oe c Ca ns d) (hl : locN N sc i x = true) : PE (X.suite a ((a, oe) :: pn)) (.Name x p) (tVar i) := by
  unfold locN at hl
  simp only [Bool.and_eq_true, decide_eq_true_eq] at hl
  obtain ⟨⟨h1, h2⟩, h3⟩ := hl
  obtain ⟨n1, n2, n3⟩ := nmOk_ne h3
  exact pe_var (X := X.suite a ((a, oe) :: pn)) (by show X.N[i]? = _; rw [h.N]; exact h1) (.inl (by show X.env.scope.names.lookup x = _; rw [h.sc]; exact isLoc_is h2)) n1 n2
theorem pe_sa (h : SuX X N sc k i a oe c Ca ns d) {s : SA} {e : Expr} {v : D} (hv : saD k.ls c (ns.map D.int) s = .ok v) (he : saC N sc i k s e = true) :
    ∃ z, v = .int z ∧ PE (X.suite a ((a, oe) :: pn)) e (fun σ H Q => SuP c ns i a d σ H ∧ ∀ H', Le H H' → Q (.int z) H') := by
  unfold saC at he
  split at he
  · rename_i z c' j p
    cases hv
    have := beq_iff_eq.mp he
    subst this
    exact ⟨z, rfl, ⟨fun pins s σ H Q I q => (pe_int (X := X.suite a ((a, oe) :: pn)) (i := z) (j := j) (pos := p)).run pins s σ H Q I (q.2 H (Le.refl H))⟩⟩
  · rename_i z c' j p p2
    cases hv
    have := beq_iff_eq.mp he
    subst this
    exact ⟨-c', rfl, ⟨fun pins s σ H Q I q => (pe_un (pos := p2) un_neg (pe_int (X := X.suite a ((a, oe) :: pn)) (i := c') (j := j) (pos := p))).run pins s σ H Q I ⟨c', rfl, q.2 H (Le.refl H)⟩⟩⟩
  · rename_i f p1 x p2 pos
    simp only [Bool.and_eq_true, beq_iff_eq] at he
    obtain ⟨⟨⟨rfl, h2⟩, h3⟩, h4⟩ := he
    obtain ⟨n1, n2, n3⟩ := nmOk_ne h3
    simp only [saD] at hv
    obtain ⟨r, hr, hv⟩ := bind_some hv
    cases hv
    refine ⟨r, rfl, ?_⟩
    obtain ⟨S, f, fdt, e1, e2, kc, nf, e3, e4, e5, FG⟩ := h.knd.ex
    obtain ⟨C', g', T', nS⟩ := kc.ex c h.mem
    rw [h.g] at g'
    cases g'
    have q := pe_callG (X := X.suite a ((a, oe) :: pn)) (q := p1) (pos := pos) (p := (a, oe)) FG ⟨h.rm.dp, h.rm.un⟩ (by simp) (by show X.env.kindOf _ = _; exact glC_gl (X := X) h.sc h2) e3 e4 e5 (pa_cons (su_var (pn := pn) (p := p2) h h4) pa_nil rfl) n1 rfl rfl
    refine ⟨fun pins s σ H Q I ⟨sp, hq⟩ => q.run pins s σ H Q I ⟨_, sp.1, c, Ca, d, r, rfl, h.mem, h.g, T', h.hz, h.hf, fun dd e => ?_, kit_of hr, hq⟩⟩
    rcases sp.2 with ⟨_, z⟩ | ⟨b, z, z2⟩
    · rw [z] at e; cases e
    · rw [z] at e; cases e
      rw [z2]
      exact fun z => by cases z
  · rename_i f x p1 g pos
    simp only [Bool.and_eq_true, beq_iff_eq] at he
    obtain ⟨rfl, h4⟩ := he
    simp only [saD] at hv
    split at hv
    · rename_i dd hlk
      cases hv
      obtain ⟨l2, nd⟩ := flds_ok c
      obtain ⟨z, rfl, hz⟩ := xd_look l2 h.hl hlk nd
      refine ⟨z, rfl, ?_⟩
      have hfm : f ∈ fldsOf c := by
        have : ∀ {fs : List String} {ds : List D} {dd : D}, (fs.zip ds).lookup f = some dd → f ∈ fs := by
          intro fs
          induction fs with
          | nil => intro ds dd h; simp at h
          | cons g fs ih =>
            intro ds dd h
            cases ds with
            | nil => simp at h
            | cons y ys =>
              rw [List.zip_cons_cons, List.lookup_cons] at h
              cases e : f == g with
              | true => rw [beq_iff_eq.mp e]; simp
              | false => rw [e] at h; exact List.mem_cons_of_mem _ (ih h)
        exact this hlk
      obtain ⟨S, ff, fdt, e1, e2, kc, nf, e3, e4, e5, FG⟩ := h.knd.ex
      obtain ⟨C', g', T', nS⟩ := kc.ex c h.mem
      have hno := nf c h.mem Ca h.g f hfm
      rw [h.g] at g'
      cases g'
      have q := pe_xf (X := X) (pn := pn) (pos := pos) ⟨T'.ga, T'.gg, T'.base, T'.hd⟩ hno h.hz h.hf (su_var (pn := pn) (p := p1) h h4) rfl
      refine ⟨fun pins s σ H Q I ⟨sp, hq⟩ => q.run pins s σ H Q I ⟨_, sp.1, rfl, rfl, ?_⟩⟩
      rcases sp.2 with ⟨z, _⟩ | ⟨b, z, z2⟩
      · rw [z] at hfm; cases hfm
      · exact ⟨b, _, _, z, z2, hz, hq H (Le.refl H)⟩
    · cases hv
  · cases he
theorem sa_plain {s : SA} {e : Expr} (he : saC N sc i k s e = true) : plainX e = true := by
  cases e <;> first | rfl | (cases s <;> cases he)
theorem pa_sa (h : SuX X N sc k i a oe c Ca ns d) : ∀ {as : List SA} {es : List Expr} {vs : List D}, saL k.ls c (ns.map D.int) as = .ok vs → saCL N sc i k as es = true → vs.length = as.length ∧
    ∃ zs : List Int, vs = zs.map D.int ∧ PA (X.suite a ((a, oe) :: pn)) es (fun σ H Q => SuP c ns i a d σ H ∧ ∀ H', Le H H' → Q (zs.map V.int) H')
  | [], es, vs, hv, he => by
    cases hv
    cases es with
    | nil => exact ⟨rfl, [], rfl, ⟨fun pos pins s σ H Q I q => pa_nil.run pos pins s σ H Q I (q.2 H (Le.refl H))⟩⟩
    | cons x r => cases he
  | s :: as, [], vs, hv, he => by cases he
  | s :: as, e :: es, vs, hv, he => by
    unfold saCL at he
    rw [Bool.and_eq_true] at he
    simp only [saL] at hv
    obtain ⟨v, h1, hv⟩ := bind_some hv
    obtain ⟨r, h2, hv⟩ := bind_some hv
    cases hv
    obtain ⟨z, rfl, q1⟩ := pe_sa (pn := pn) h h1 he.1
    obtain ⟨hl, zs, rfl, q2⟩ := pa_sa h h2 he.2
    have q := pa_cons q1 q2 (plain_star (sa_plain he.1))
    exact ⟨by simpa using hl, z :: zs, rfl, ⟨fun pos pins s σ H Q I ⟨sp, hq⟩ => q.run pos pins s σ H Q I ⟨sp, fun H1 l1 => ⟨sp.grow l1, fun H2 l2 => hq H2 (l1.trans l2)⟩⟩⟩⟩
theorem ints_den {K : Frg} {G : Hp} (zs : List Int) : DenL K G (zs.map D.int) (zs.map V.int) := DenL.of_ints zs
/-- what the suite hands back -/
theorem pe_sv (h : SuX X N sc k i a oe c Ca ns d) {F : Addr → Prop} {s : SV} {e : Expr} {v : D} (hv : svD k.ls c (ns.map D.int) s = .ok v) (he : svC N sc i k s e = true) :
    PE (X.suite a ((a, oe) :: pn)) e (fun σ H Q => Kn H F ∧ SuP c ns i a d σ H ∧ ∀ u H', Le H H' → ResD true X.K H H' (sub H' F) v u → Q u H') := by
  unfold svC at he
  split at he
  · obtain ⟨z, rfl, q⟩ := pe_sa (pn := pn) h (show saD _ _ _ _ = _ from hv) he
    exact ⟨fun pins s σ H Q I ⟨kn, sp, hq⟩ => q.run pins s σ H Q I ⟨sp, fun H' l => hq _ H' l ⟨by simp [Den], fun _ z => by cases z⟩⟩⟩
  · rename_i z m c' j p pos
    simp only [Bool.and_eq_true, beq_iff_eq] at he
    obtain ⟨rfl, h2⟩ := he
    simp only [svD] at hv
    obtain ⟨r, hr, hv⟩ := bind_some hv
    cases hv
    obtain ⟨r', e', q⟩ := pe_sa (pn := pn) h (s := .kinds) (v := .int r) (by simp only [saD, hr]; rfl) h2
    cases e'
    have q2 := pe_cmpR (pos := pos) (opc (X := X.suite a ((a, oe) :: pn)) h.hu .eq) q (pe_int (X := X.suite a ((a, oe) :: pn)) (i := z) (j := j) (pos := p)) (by rfl)
    refine ⟨fun pins s σ H Q I ⟨kn, sp, hq⟩ => q2.run pins s σ H Q I ⟨sp, fun H' l => ?_⟩⟩
    refine ⟨noF, .int r, .int z, decide (r = z), noF_kn, by simp only [Top, Den], by simp only [Top, Den], ?_, hq _ H' l ⟨by simp [Den], fun _ z => by cases z⟩⟩
    simp only [cmpD, eqR, gd, plD, eqD, and_self, if_true]
    rfl
  · rename_i as es kk pos
    rw [Bool.and_eq_true, decide_eq_true_eq] at he
    simp only [svD] at hv
    obtain ⟨vs, h1, hv⟩ := bind_some hv
    cases hv
    obtain ⟨hl, zs, rfl, q⟩ := pa_sa (pn := pn) h h1 he.1
    have hz : (zs.map V.int).length ≤ sizeLine := by rw [List.length_map] at hl ⊢; rw [sizeLine_eq]; omega
    refine ⟨fun pins s σ H Q I ⟨kn, sp, hq⟩ => (pe_tup q).run pins s σ H Q I ⟨sp, fun H1 l1 => ⟨hz, fun p hp => ?_⟩⟩⟩
    have r := newTup (K := X.K) (fr := true) (kn.le l1) hp (ints_den (K := X.K) (G := sub H1 F) zs)
    exact hq _ _ (l1.trans (Le.upd hp)) (r.early l1)
  · rename_i as es pos
    rw [Bool.and_eq_true, decide_eq_true_eq] at he
    simp only [svD] at hv
    obtain ⟨vs, h1, hv⟩ := bind_some hv
    cases hv
    obtain ⟨hl, zs, rfl, q⟩ := pa_sa (pn := pn) h h1 he.1
    have hz : (zs.map V.int).length ≤ sizeLine := by rw [List.length_map] at hl ⊢; rw [sizeLine_eq]; omega
    refine ⟨fun pins s σ H Q I ⟨kn, sp, hq⟩ => (pe_lst q).run pins s σ H Q I ⟨sp, fun H1 l1 => ⟨hz, fun p hp => ?_⟩⟩⟩
    have r := newLst (K := X.K) (kn.le l1) hp (ints_den (K := X.K) (G := sub H1 F) zs)
    exact hq _ _ (l1.trans (Le.upd hp)) (r.early l1)
  · cases he
theorem sv_plain {s : SV} {e : Expr} (he : svC N sc i k s e = true) : plainX e = true := by
  unfold svC at he
  split at he <;> first | exact sa_plain he | rfl | cases he
theorem ps_su (h : SuX X N sc k i a oe c Ca ns d) {F : Addr → Prop} {su : SU} {sts : List Stmt} {v : D} (hv : suD k.ls c (ns.map D.int) su = .ok v) (he : suC N sc i k su sts = true) :
    PSs (X.suite a ((a, oe) :: pn)) sts (fun D σ H => Kn H F ∧ SuP c ns i a d σ H ∧ ∀ u H', Le H H' → ResD true X.K H H' (sub H' F) v u → D.rt u H') := by
  unfold suC at he
  split at he
  · have q := pe_sv (pn := pn) (F := F) h (show svD _ _ _ _ = _ from hv) he
    exact ⟨fun pins s σ H Dn I hh => (pss_cons (ps_ret q) pss_nil).run pins s σ H Dn I hh⟩
  · rename_i z sv1 sv2 m c' j p pos e1 rp1 ip e2 rp2
    simp only [Bool.and_eq_true, beq_iff_eq] at he
    obtain ⟨⟨⟨rfl, h2⟩, h3⟩, h4⟩ := he
    simp only [suD] at hv
    obtain ⟨r, hr, hv⟩ := bind_some hv
    obtain ⟨r', e', q⟩ := pe_sa (pn := pn) h (s := .kinds) (v := .int r) (by simp only [saD, hr]; rfl) h2
    cases e'
    have t2 := pt_cmpR (pos := pos) (opc (X := X.suite a ((a, oe) :: pn)) h.hu .eq) q (pe_int (X := X.suite a ((a, oe) :: pn)) (i := z) (j := j) (pos := p)) (by rfl)
    have ht : cmpD .eq (.int r) (.int z) = .ok (decide (r = z)) := by
      simp only [cmpD, eqR, gd, plD, eqD, and_self, if_true]
      rfl
    by_cases hz : r = z
    · have q1 := pe_sv (pn := pn) (F := F) h (s := sv1) (v := v) (by rw [if_pos hz] at hv; exact hv) h3
      have tt := ps_if (pos := ip) t2 (pss_cons (ps_ret (pos := rp1) q1) pss_nil) (pss_nil (X := X.suite a ((a, oe) :: pn)))
      refine ⟨fun pins s σ H Dn I ⟨kn, sp, hq⟩ => (pss_cons tt (pss_cons (s_never (P := ⟨fun _ => none, [], [], []⟩) (n := 0) (W := fun _ _ _ _ => False) (fr := false) (st := .Return (some e2) rp2)) pss_nil)).run pins s σ H Dn I ⟨sp, fun H' l => ?_⟩⟩
      exact ⟨noF, .int r, .int z, _, noF_kn, by simp only [Top, Den], by simp only [Top, Den], ht, _, rfl, by rw [decide_eq_true hz]; exact ⟨kn.le l, sp.grow l, fun u H'' l' rr => hq u H'' (l.trans l') (rr.early l)⟩⟩
    · have q1 := pe_sv (pn := pn) (F := F) h (s := sv2) (v := v) (by rw [if_neg hz] at hv; exact hv) h4
      have tt := ps_if (pos := ip) t2 (pss_cons (s_never (P := ⟨fun _ => none, [], [], []⟩) (n := 0) (W := fun _ _ _ _ => False) (fr := false) (st := .Return (some e1) rp1)) pss_nil) (pss_nil (X := X.suite a ((a, oe) :: pn)))
      refine ⟨fun pins s σ H Dn I ⟨kn, sp, hq⟩ => (pss_cons tt (pss_cons (ps_ret (pos := rp2) q1) pss_nil)).run pins s σ H Dn I ⟨sp, fun H' l => ?_⟩⟩
      exact ⟨noF, .int r, .int z, _, noF_kn, by simp only [Top, Den], by simp only [Top, Den], ht, _, rfl, by rw [decide_eq_false hz]; exact ⟨kn.le l, sp.grow l, fun u H'' l' rr => hq u H'' (l.trans l') (rr.early l)⟩⟩
  · cases he
end
section
variable {P : Prg} {n : Nat} {N : List Str} {X : Cx} {sc : Scope} {W : WX} {fr : Bool}
theorem Cok.tr (C : Cok P n X sc N W) {W' : WX} {pn : List (Addr × Obj)} {xe : Value → Shared → Prop} (tk : Takes (X.tr pn xe) W') : Cok P n (X.tr pn xe) sc N W' where
  sc := C.sc
  N := C.N
  nd := C.nd
  calm := C.calm
  room := C.room
  fns := C.fns
  blt := C.blt
  cst := C.cst
  tk := tk
  exc := C.exc
  knd := C.knd
/-- the wish of a body in a try -/
def tSu (mg : Str → Option Value) (N : List Str) (fr : Bool) (K : Frg) (k : Knd) (i : Nat) (su : SU) (a : Addr) (cls : Value) (d : Option Addr) : TS := fun D σ H => ∃ (F : Addr → Prop) (c : String) (fs : List Z.D) (v : Z.D) (σ' : St), σ = σ'.set i (some (.ref a)) ∧ Kn H F ∧ ExcD mg H c fs cls d ∧ c ∈ k.ls.flatten ∧ suD k.ls c fs su = .ok v ∧
  ∀ u H', Le H H' → ResD true K H H' (sub H' F) v u → D.rt u H'
theorem s_try {body suite : List Stmt} {b₀ : Stmt} {x nm : Str} {np pos pos' : Pos} {ib : List S} {i : Nat} {k : Knd} {su : SU} (C : Cok P n X sc N W) (hs : X.stack = X.env :: X.outer) (hf : X.env.frame = some X.env.locals) (hx : x = "StoneError") (hg : glC sc x = true) (hi : N[i]? = some nm) (hln : sc.names.lookup nm = some .local)
    (hk : k ∈ P.kinds) (hsu : suC N sc i k su (b₀ :: suite) = true)
    (hb : ∀ (W' : WX) (pn : List (Addr × Obj)) (xe : Value → Shared → Prop), Takes (X.tr pn xe) W' → PassesOwn (model X.prog X.w) X.A X.env xe → PSs (X.tr pn xe) body (tZS fr (X.tr pn xe) W' (exL (run P n) fr ib))) :
    PS X (.Try body [.ExceptHandler (some (.Name x np)) (some nm) (b₀ :: suite) pos'] [] [] pos) (tZS fr X W (exS (run P n) fr (.try_ ib i k su))) := by
  subst hx
  have kn := C.knd k hk
  obtain ⟨S, f, fdt, e1, ⟨b1, b2, b3⟩, kc, nf, e3, e4, e5, FG⟩ := kn.ex
  have q := ps_try_as (X := X) (x := "StoneError") (n := nm) (c := .ref S) (i := i) (np := np) (pos := pos) (pos' := pos') (Wout := W) (tb := fun W' => tZS fr X W' (exL (run P n) fr ib)) (ts := tSu X.mg N fr X.K k i su) hs hf C.nd (by rw [C.N]; exact hi) (by show X.env.scope.names.lookup nm = _; rw [C.sc]; exact hln) ⟨glC_gl C.sc hg, by decide, .inl e1⟩ C.tk (fun W' pn xe tk' ps => hb W' pn xe tk' ps)
    (fun a oe cls d pn hz hff => ⟨fun pins s σ H D I ⟨F, c, fs, v, σ', hσ, knF, ⟨Ca, ns, g, hcls, hfs, hlen, hd⟩, hm, hv, hq⟩ => by
      subst hcls hfs
      have h : SuX X N sc k i a oe c Ca ns d := ⟨C.sc, C.N, C.hu, ⟨by have := C.room.dp; omega, by have := C.room.un; omega⟩, kn, hm, g, hlen, hz, hff⟩
      have hli : i < σ'.length := by
        have h1 : σ.length = N.length := by
          have h2 : σ.length = X.N.length := I.len
          rw [h2, C.N]
        rw [hσ, List.length_set] at h1
        rw [h1]
        exact (List.getElem?_eq_some_iff.mp hi).1
      exact (ps_su (pn := pn) (F := F) h hv hsu).run pins s σ H D I ⟨knF, ⟨by rw [hσ, List.getElem?_set_self hli], hd⟩, hq⟩⟩)
  refine ⟨fun pins s σ H Dn I ⟨F, H₀, ρ, S0, h⟩ => q.run pins s σ H Dn I ?_⟩
  simp only [exS] at h
  refine ⟨F, _, ρ, S0.rebase, ?_⟩
  have hl := S0.base_le
  cases hr : exL (run P n) fr ib ρ with
  | ok o =>
    rw [hr] at h
    cases o with
    | nx ρ' => exact fun σ' H' S' => h σ' H' (S'.unbase hl)
    | rt d => exact fun v H' l' t => h v H' (hl.trans l') (t.early hl)
  | bad => rw [hr] at h; exact h.elim
  | exc c fs =>
    rw [hr] at h
    have h : PostS fr X F H₀ W Dn (gd (c ∈ k.ls.flatten) (do
      let d ← pr (suD k.ls c fs su)
      return .rt d)) := h
    obtain ⟨hm, h⟩ := gdS h
    obtain ⟨v, hv, h⟩ := prS (f := fun d => pure (Out.rt d)) h
    refine fun cls dd σ' H' l' he => ?_
    obtain ⟨Ca, ns, g, hcls, hfs, hlen, hd⟩ := id he
    obtain ⟨C', g', T', nS⟩ := kc.ex c hm
    rw [g] at g'
    cases g'
    have knF : Kn H' F := fun a z => by
      obtain ⟨o, eo, no⟩ := S0.fF a z
      refine ⟨o, l' _ _ ?_, no⟩
      rw [sub_at]
      · exact eo
      · rintro ⟨j, d, k1, k2⟩
        obtain ⟨b, q1, _, q3, _⟩ := S0.ow j d k1
        rw [k2] at q1
        cases q1
        exact q3 z
    refine ⟨true, ?_, fun _ a na => ⟨F, c, fs, v, σ', rfl, knF, he, hm, hv, fun u H'' l'' rd => ?_⟩, fun z => by cases z⟩
    · rw [hcls]
      refine PySem.W.exm_ref b1 b2 b3 ?_
      rw [T'.sub]
      congr 1
      simp
    · exact h u H'' (hl.trans (l'.trans l'')) (ResD.weak (rd.early (hl.trans l')))
end
end Z
end

section
set_option maxHeartbeats 4000000
set_option maxRecDepth 100000
/-! Z, part 15: the check of a body, of a program; what a law's def answers. -/
namespace Z
open PySem L2 PyProof.Rows
open Classical
def nameC (N : List Str) (sc : Scope) (i : Nat) (x : Str) : Bool := decide (N[i]? = some x) && visC sc x && nmOk x
def stoC (N : List Str) (sc : Scope) (i : Nat) (x : Str) : Bool := decide (N[i]? = some x) && locC sc x
def opC : Bin → Bool
  | .add => true | .sub => true
  | _ => false
def isLc : Expr → Bool
  | .ListComp _ _ _ _ => true
  | _ => false
/-- x.m(..) as a statement, x the name in the slot -/
def mC (N : List Str) (sc : Scope) (i : Nat) (m : String) : Stmt → Option (List Expr)
  | .Expr (.Call (.Attribute (.Name x _) nm ap) es [] cp) _ => if nm == Str.ofString m && nameC N sc i x && (ap.endLine == cp.line) then some es else none
  | _ => none
def par2C (N : List Str) (sc : Scope) (is : List Nat) (x y : Str) (px py : Pos) : Bool := match is with
  | [i, j] => decide (N[i]? = some x) && decide (N[j]? = some y) && decide (i ≠ j) && decide (sc.names.lookup x = some .local) && decide (sc.names.lookup y = some .local) && (py.line == px.line)
  | _ => false
mutual
def chkS (P : Prg) (N : List Str) (sc : Scope) : S → Stmt → Bool
  | .asg i _ e _, st => match st with
    | .Assign [.Name x _] e' _ => stoC N sc i x && chkE P N sc e e'
    | _ => false
  | .asgt is e _, st => match st with
    | .Assign [tg] e' _ => isTup tg && !(isTup e') && chkPat N (locC sc) (.tup is) tg && chkE P N sc e e'
    | _ => false
  | .par is es, st => match st with
    | .Assign [.Tuple [.Name x px, .Name y py] _ _] (.Tuple [a, b] _ _) _ => par2C N sc is x y px py && !([a, b].all (foldedForSure 8)) && !([a, b].all (constantsAlone 8)) && chkL P N sc es [a, b]
    | _ => false
  | .seti i k v _, st => match st with
    | .Assign [.Subscript (.Name x _) k' _] v' _ => nameC N sc i x && chkE P N sc k k' && chkE P N sc v v'
    | _ => false
  | .augi i o k v, st => match st with
    | .AugAssign (.Subscript (.Name x _) k' _) o' v' _ => nameC N sc i x && opC o && decide (o' = bop o) && chkE P N sc k k' && chkE P N sc v v'
    | _ => false
  | .aug i o v, st => match st with
    | .AugAssign (.Name x _) o' v' _ => stoC N sc i x && opC o && decide (o' = bop o) && chkE P N sc v v'
    | _ => false
  | .app i e _, st => match mC N sc i "append" st with
    | some [e'] => chkE P N sc e e'
    | _ => false
  | .ext i e, st => match mC N sc i "extend" st with
    | some [e'] => chkE P N sc e e'
    | _ => false
  | .inse i k e _, st => match mC N sc i "insert" st with
    | some [k', e'] => chkE P N sc k k' && chkE P N sc e e'
    | _ => false
  | .rem i e, st => match mC N sc i "remove" st with
    | some [e'] => chkE P N sc e e'
    | _ => false
  | .pop j i, st => match st with
    | .Assign [.Name x _] (.Call (.Attribute (.Name y _) nm ap) [] [] cp) _ => stoC N sc j x && (nm == Str.ofString "pop") && nameC N sc i y && (ap.endLine == cp.line)
    | _ => false
  | .wipe _, _ => false
  | .raise c es, st => match st with
    | .Raise (some (.Call (.Name x _) xs [] _)) none _ => (x == Str.ofString c) && glC sc x && nmOk x && decide (c ∈ P.excs) && chkL P N sc es xs && decide (es.length = (fldsOf c).length)
    | _ => false
  | .try_ b i k su, st => match st with
    | .Try b' [.ExceptHandler (some (.Name x _)) (some nm) (b0 :: suite) _] [] [] _ => (x == Str.ofString "StoneError") && glC sc x && decide (N[i]? = some nm) && isLoc sc nm && decide (k ∈ P.kinds) && suC N sc i k su (b0 :: suite) && chkB P N sc b b'
    | _ => false
  | .xpr e _, st => match st with
    | .Expr e' _ => !(isLc e') && chkE P N sc e e'
    | _ => false
  | .ret e _, st => match st with
    | .Return (some e') _ => chkE P N sc e e'
    | _ => false
  | .retv i, st => match st with
    | .Return (some (.Name x _)) _ => nameC N sc i x
    | _ => false
  | .ret0, st => match st with
    | .Return none _ => true
    | _ => false
  | .iff c a b, st => match st with
    | .If c' a' b' _ => tstOk c && chkE P N sc c c' && chkB P N sc a a' && chkB P N sc b b'
    | _ => false
  | .iffu _ c a b, st => match st with
    | .If c' a' b' _ => tstOk c && chkE P N sc c c' && chkB P N sc a a' && chkB P N sc b b'
    | _ => false
  | .for_ p s es _ b, st => match st with
    | .For tg iter b' [] _ => match srcCall sc s tg iter with
      | some xs => plainX iter && chkPat N (locC sc) p tg && chkL P N sc es xs && decide (es.length = srcN s) && dsOk s es && chkB P N sc b b'
      | none => false
    | _ => false
  | .forx p i j _ b, st => match st with
    | .For tg (.Subscript (.Name x _) (.UnaryOp .USub (.Constant (.int c) _ _) _) _) b' [] _ => nameC N sc i x && (c == j) && chkPat N (locC sc) p tg && chkB P N sc b b'
    | _ => false
  | .whl _ c b, st => match st with
    | .While c' b' [] _ => tstOk c && chkE P N sc c c' && chkB P N sc b b'
    | _ => false
  | .never, _ => true
def chkB (P : Prg) (N : List Str) (sc : Scope) : List S → List Stmt → Bool
  | [], xs => xs.isEmpty
  | .wipe _ :: ss, xs => chkB P N sc ss xs
  | s :: ss, xs => match xs with
    | x :: xs => chkS P N sc s x && chkB P N sc ss xs
    | [] => false
end
structure Cos (P : Prg) (n : Nat) (X : Cx) (sc : Scope) (N : List Str) (W : WX) : Prop where
  C : Cok P n X sc N W
  kind : X.env.scope.kind = .function
  pass : PassesOwn (model X.prog X.w) X.A X.env X.xe
  fn : ∀ x, X.fn x = true
  stk : X.stack = X.env :: X.outer
  frm : X.env.frame = some X.env.locals
section
variable {P : Prg} {n : Nat} {N : List Str} {X : Cx} {sc : Scope} {W : WX} {fr : Bool}
theorem Cos.stn (C : Cos P n X sc N W) {x : Str} (h : locC sc x = true) : StN X x := ⟨by rw [C.C.sc]; exact locC_loc h, .inl (C.fn x)⟩
theorem Cos.tr (C : Cos P n X sc N W) {W' : WX} {pn : List (Addr × Obj)} {xe : Value → Shared → Prop} (tk : Takes (X.tr pn xe) W') (ps : PassesOwn (model X.prog X.w) X.A X.env xe) : Cos P n (X.tr pn xe) sc N W' where
  C := C.C.tr tk
  kind := C.kind
  pass := ps
  fn := C.fn
  stk := C.stk
  frm := C.frm
theorem chkL_plain {es : List E} {xs : List Expr} (h : chkL P N sc es xs = true) : (∀ x ∈ xs, plainX x = true) ∧ xs.length = es.length := by
  induction es generalizing xs with
  | nil => simp [chkL] at h; subst h; exact ⟨fun x hx => (nomatch hx), rfl⟩
  | cons i is ih =>
    cases xs with
    | nil => simp [chkL] at h
    | cons y ys =>
      simp only [chkL, Bool.and_eq_true] at h
      obtain ⟨h1, h2⟩ := ih h.2
      refine ⟨fun x hx => ?_, by rw [List.length_cons, List.length_cons, h2]⟩
      rcases List.mem_cons.mp hx with rfl | hx
      · exact chk_plain h.1
      · exact h1 x hx
theorem nameC_is {i : Nat} {x : Str} (h : nameC N sc i x = true) : N[i]? = some x ∧ visC sc x = true ∧ nmOk x = true := by
  unfold nameC at h
  simp only [Bool.and_eq_true, decide_eq_true_eq] at h
  exact ⟨h.1.1, h.1.2, h.2⟩
theorem stoC_is {i : Nat} {x : Str} (h : stoC N sc i x = true) : N[i]? = some x ∧ locC sc x = true := by
  unfold stoC at h
  simp only [Bool.and_eq_true, decide_eq_true_eq] at h
  exact h
theorem opC_is {o : Bin} (h : opC o = true) : o = .add ∨ o = .sub := by
  cases o <;> simp [opC] at h <;> simp
theorem mC_some {i : Nat} {m : String} {st : Stmt} {es : List Expr} (h : mC N sc i m st = some es) : ∃ x p ap cp pos, st = .Expr (.Call (.Attribute (.Name x p) (Str.ofString m) ap) es [] cp) pos ∧ nameC N sc i x = true ∧ (ap.endLine == cp.line) = true := by
  unfold mC at h
  split at h
  · split at h
    · rename_i x p nm ap es cp pos q
      simp only [Bool.and_eq_true, beq_iff_eq] at q
      obtain ⟨⟨rfl, q2⟩, q3⟩ := q
      cases h
      exact ⟨x, p, ap, cp, pos, rfl, q2, by simpa using q3⟩
    · cases h
  · cases h
mutual
theorem sS : ∀ (is : S) (st : Stmt) {X : Cx} {W : WX}, Cos P n X sc N W → chkS P N sc is st = true → PS X st (tZS fr X W (exS (run P n) fr is))
  | .asg i own e un, st, X, W, C, h => by
    unfold chkS at h
    split at h <;> first | (cases h; done) | skip
    rw [Bool.and_eq_true] at h
    obtain ⟨h1, h2⟩ := stoC_is h.1
    exact ⟨fun pins s σ H Dn I ⟨F, H₀, ρ, S, hh⟩ => (asg_e C.kind C.C h1 (C.stn h2) h.2).run pins s σ H Dn I (asg_end S hh)⟩
  | .asgt is e un, st, X, W, C, h => by
    unfold chkS at h
    split at h <;> first | (cases h; done) | skip
    simp only [Bool.and_eq_true, Bool.not_eq_true'] at h
    obtain ⟨⟨⟨h1, h2⟩, h3⟩, h4⟩ := h
    exact s_asgt C.C (s_pat C.C.N C.C.nd C.C.calm (fun x hx => C.stn hx) h3) h1 h2 (sE e _ C.C h4)
  | .par is es, st, X, W, C, h => by
    unfold chkS at h
    split at h <;> first | (cases h; done) | skip
    rename_i x px y py kt pt a b k2 pt2 pos
    simp only [Bool.and_eq_true, Bool.not_eq_true'] at h
    obtain ⟨⟨⟨h1, h2⟩, h3⟩, h4⟩ := h
    unfold par2C at h1
    split at h1 <;> first | (cases h1; done) | skip
    simp only [Bool.and_eq_true, decide_eq_true_eq] at h1
    obtain ⟨⟨⟨⟨⟨g1, g2⟩, g3⟩, g4⟩, g5⟩, g6⟩ := h1
    have hL := sL es _ (b := false) C.C h4
    match es, h4, hL with
    | [ia, ib], h4, hL =>
      simp only [chkL, Bool.and_eq_true] at h4
      exact s_par2 C.C C.kind g1 g2 g3 g4 g5 g6 h2 h3 (chk_plain h4.1) (chk_plain h4.2.1) hL
    | [], h4, _ => simp [chkL] at h4
    | [_], h4, _ => simp [chkL] at h4
    | _ :: _ :: _ :: _, h4, _ => simp [chkL] at h4
  | .seti i k v un, st, X, W, C, h => by
    unfold chkS at h
    split at h <;> first | (cases h; done) | skip
    simp only [Bool.and_eq_true] at h
    obtain ⟨⟨h1, h2⟩, h3⟩ := h
    obtain ⟨n1, n2, n3⟩ := nameC_is h1
    exact s_seti C.C n1 n2 n3 (chk_plain h2) (chk_plain h3) (sE v _ C.C h3) (sE k _ C.C h2)
  | .augi i o k v, st, X, W, C, h => by
    unfold chkS at h
    split at h <;> first | (cases h; done) | skip
    simp only [Bool.and_eq_true, decide_eq_true_eq] at h
    obtain ⟨⟨⟨⟨h1, h2⟩, rfl⟩, h4⟩, h5⟩ := h
    obtain ⟨n1, n2, n3⟩ := nameC_is h1
    exact s_augi C.C n1 n2 n3 (opC_is h2) (chk_plain h4) (sE k _ C.C h4) (sE v _ C.C h5)
  | .aug i o v, st, X, W, C, h => by
    unfold chkS at h
    split at h <;> first | (cases h; done) | skip
    simp only [Bool.and_eq_true, decide_eq_true_eq] at h
    obtain ⟨⟨⟨h1, h2⟩, rfl⟩, h4⟩ := h
    obtain ⟨n1, n2⟩ := stoC_is h1
    exact s_aug C.C n1 (C.stn n2) (opC_is h2) (sE v _ C.C h4)
  | .app i e un, st, X, W, C, h => by
    unfold chkS at h
    split at h <;> first | (cases h; done) | skip
    rename_i e' hm
    obtain ⟨x, p, ap, cp, pos, rfl, h1, h2⟩ := mC_some hm
    obtain ⟨n1, n2, n3⟩ := nameC_is h1
    exact s_app C.C n1 n2 n3 (chk_plain h) h2 (sE e _ C.C h)
  | .ext i e, st, X, W, C, h => by
    unfold chkS at h
    split at h <;> first | (cases h; done) | skip
    rename_i e' hm
    obtain ⟨x, p, ap, cp, pos, rfl, h1, h2⟩ := mC_some hm
    obtain ⟨n1, n2, n3⟩ := nameC_is h1
    exact s_ext C.C n1 n2 n3 (chk_plain h) h2 (sE e _ C.C h)
  | .inse i k e un, st, X, W, C, h => by
    unfold chkS at h
    split at h <;> first | (cases h; done) | skip
    rename_i k' e' hm
    rw [Bool.and_eq_true] at h
    obtain ⟨x, p, ap, cp, pos, rfl, h1, h2⟩ := mC_some hm
    obtain ⟨n1, n2, n3⟩ := nameC_is h1
    exact s_ins C.C n1 n2 n3 (chk_plain h.1) (chk_plain h.2) h2 (sE k _ C.C h.1) (sE e _ C.C h.2)
  | .rem i e, st, X, W, C, h => by
    unfold chkS at h
    split at h <;> first | (cases h; done) | skip
    rename_i e' hm
    obtain ⟨x, p, ap, cp, pos, rfl, h1, h2⟩ := mC_some hm
    obtain ⟨n1, n2, n3⟩ := nameC_is h1
    exact s_rem C.C n1 n2 n3 (chk_plain h) h2 (sE e _ C.C h)
  | .pop j i, st, X, W, C, h => by
    unfold chkS at h
    split at h <;> first | (cases h; done) | skip
    simp only [Bool.and_eq_true, beq_iff_eq] at h
    obtain ⟨⟨⟨h1, rfl⟩, h2⟩, h3⟩ := h
    obtain ⟨n1, n2, n3⟩ := nameC_is h2
    obtain ⟨m1, m2⟩ := stoC_is h1
    exact s_pop C.C n1 n2 n3 m1 (C.stn m2) (by simpa using h3)
  | .wipe _, st, X, W, C, h => by simp [chkS] at h
  | .raise c es, st, X, W, C, h => by
    unfold chkS at h
    split at h <;> first | (cases h; done) | skip
    simp only [Bool.and_eq_true, beq_iff_eq, decide_eq_true_eq] at h
    obtain ⟨⟨⟨⟨⟨rfl, h2⟩, h3⟩, h4⟩, h5⟩, h6⟩ := h
    obtain ⟨p1, p2⟩ := chkL_plain h5
    exact s_raise C.C h4 h2 h3 p2 h6 p1 (sL es _ C.C h5)
  | .try_ b i k su, st, X, W, C, h => by
    unfold chkS at h
    split at h <;> first | (cases h; done) | skip
    simp only [Bool.and_eq_true, beq_iff_eq, decide_eq_true_eq] at h
    obtain ⟨⟨⟨⟨⟨⟨h1, h2⟩, h3⟩, h4⟩, h5⟩, h6⟩, h7⟩ := h
    exact s_try C.C C.stk C.frm h1 h2 h3 (isLoc_is h4) h5 h6 fun W' pn xe tk ps => sB b _ (C.tr tk ps) h7
  | .xpr e un, st, X, W, C, h => by
    unfold chkS at h
    split at h <;> first | (cases h; done) | skip
    simp only [Bool.and_eq_true, Bool.not_eq_true'] at h
    rename_i e' pos
    have hp := chk_plain h.2
    exact s_xpr (by cases e' <;> first | rfl | (simp [plainX] at hp; done) | (simp [isLc] at h)) (sE e _ C.C h.2)
  | .ret e un, st, X, W, C, h => by
    unfold chkS at h
    split at h <;> first | (cases h; done) | skip
    exact s_ret (sE e _ C.C h)
  | .retv i, st, X, W, C, h => by
    unfold chkS at h
    split at h <;> first | (cases h; done) | skip
    obtain ⟨n1, n2, n3⟩ := nameC_is h
    exact s_retv C.C n1 n2 n3
  | .ret0, st, X, W, C, h => by
    unfold chkS at h
    split at h <;> first | (cases h; done) | skip
    exact s_ret0
  | .iff c a b, st, X, W, C, h => by
    unfold chkS at h
    split at h <;> first | (cases h; done) | skip
    simp only [Bool.and_eq_true] at h
    obtain ⟨⟨⟨h1, h2⟩, h3⟩, h4⟩ := h
    exact s_if (sT c _ C.C h1 h2) (sB a _ C h3) (sB b _ C h4)
  | .iffu un c a b, st, X, W, C, h => by
    unfold chkS at h
    split at h <;> first | (cases h; done) | skip
    simp only [Bool.and_eq_true] at h
    obtain ⟨⟨⟨h1, h2⟩, h3⟩, h4⟩ := h
    exact s_ifu (sT c _ C.C h1 h2) (sB a _ C h3) (sB b _ C h4)
  | .for_ p s es un b, st, X, W, C, h => by
    unfold chkS at h
    split at h <;> first | (cases h; done) | skip
    split at h <;> first | (cases h; done) | skip
    rename_i xs hc
    simp only [Bool.and_eq_true, decide_eq_true_eq] at h
    obtain ⟨⟨⟨⟨⟨h0, h1⟩, h2⟩, h3⟩, hds⟩, h4⟩ := h
    rcases dv_cases s es hds with hnv | ⟨i, rfl, hk⟩
    · exact s_for C.pass C.C (s_src C.C hc h3 h2 hds hnv (s1 es _ C.C h2) (sL es _ C.C h2)) (s_pat C.C.N C.C.nd C.C.calm (fun x hx => C.stn hx) h1) (sB b _ C h4) (fold_plain h0 _)
    · exact s_forN hk C.pass C.C (s_srcN C.C hk hc h2) (s_pat C.C.N C.C.nd C.C.calm (fun x hx => C.stn hx) h1) (sB b _ C h4) (fold_plain h0 _)
  | .forx p i j un b, st, X, W, C, h => by
    unfold chkS at h
    split at h <;> first | (cases h; done) | skip
    simp only [Bool.and_eq_true, beq_iff_eq] at h
    obtain ⟨⟨⟨h1, rfl⟩, h3⟩, h4⟩ := h
    obtain ⟨n1, n2, n3⟩ := nameC_is h1
    exact s_forX C.pass C.C (i_keysX C.C n1 n2 n3) (s_pat C.C.N C.C.nd C.C.calm (fun x hx => C.stn hx) h3) (sB b _ C h4) (fold_plain rfl _)
  | .whl L c b, st, X, W, C, h => by
    unfold chkS at h
    split at h <;> first | (cases h; done) | skip
    simp only [Bool.and_eq_true] at h
    obtain ⟨⟨h1, h2⟩, h3⟩ := h
    exact s_whl C.pass (sT c _ C.C h1 h2) (sB b _ C h3)
  | .never, st, X, W, C, h => s_never
theorem sB : ∀ (is : List S) (sts : List Stmt) {X : Cx} {W : WX}, Cos P n X sc N W → chkB P N sc is sts = true → PSs X sts (tZS fr X W (exL (run P n) fr is))
  | [], sts, X, W, C, h => by
    simp [chkB] at h
    subst h
    exact l_nil
  | i :: is, sts, X, W, C, h => by
    by_cases hw : ∃ w, i = .wipe w
    · obtain ⟨w, rfl⟩ := hw
      rw [chkB] at h
      exact l_wipe (sB is _ C h)
    · have hh : chkB P N sc (i :: is) sts = (match sts with
          | x :: xs => chkS P N sc i x && chkB P N sc is xs
          | [] => false) := by
        cases i <;> cases sts <;> first | rfl | (simp only [chkB]; done) | (exfalso; exact hw ⟨_, rfl⟩)
      rw [hh] at h
      cases sts with
      | nil => cases h
      | cons st sts =>
        simp only [Bool.and_eq_true] at h
        exact l_cons (sS i _ C h.1) (sB is _ C h.2)
end
end
/-! ### defs -/
def scopeC (N ps : List Str) (sc : Scope) : Bool := (match sc.kind with | .function => true | _ => false) && (sc.isCoroutine == false) && (sc.isGenerator == false) && decide N.Nodup && decide (N.take ps.length = ps) &&
  (ps.all fun x => match sc.names.lookup x with | some .local => true | some .cell => true | _ => false) && (sc.names.all fun y => match y.2 with | .free => false | _ => true)
theorem scopeC_is {N ps : List Str} {sc : Scope} (h : scopeC N ps sc = true) : FnScope N ps sc := by
  unfold scopeC at h
  simp only [Bool.and_eq_true, decide_eq_true_eq, List.all_eq_true, beq_iff_eq] at h
  obtain ⟨⟨⟨⟨⟨⟨h1, h2⟩, h3⟩, h4⟩, h5⟩, h6⟩, h7⟩ := h
  refine ⟨?_, h2, h3, h4, h5, fun x hx => ?_, fun y hy e => ?_⟩
  · split at h1
    · assumption
    · cases h1
  · have := h6 x hx
    split at this
    · exact .inl (by assumption)
    · exact .inr (by assumption)
    · cases this
  · have := h7 y hy
    rw [e] at this
    cases this
abbrev psOf (fd : FD) : List Str := fd.prm.map Str.ofString
abbrev nsOf (fd : FD) : List Str := fd.nms.map Str.ofString
def chkF (P : Prg) (fd : FD) (st : Stmt) : Bool := scopeC (nsOf fd) (psOf fd) (defScope st) && chkB P (nsOf fd) (defScope st) fd.body (defBody st)
/-- a def as the written part has it -/
structure DefAt (K : Frg) (mg : Str → Option Value) (fd : FD) (st : Stmt) (f : Addr) (fdt : FuncData) : Prop where
  F : Fun K (Str.ofString fd.nm) (Str.ofString fd.nm) st f fdt
  g : mg (Str.ofString fd.nm) = some (.ref f)
  b : Binds K fdt (psOf fd) []
structure PrgAt (P : Prg) (prog : Program) (w : World) (K : Frg) (mg : Str → Option Value) (base : Heap) : Prop where
  defs : ∀ k fd, P.fn k = some fd → ∃ st f fdt, DefAt K mg fd st f fdt ∧ chkF P fd st = true
  blt : ∀ x ∈ bltNames, mg (Str.ofString x) = none
  cst : ∀ x i, (x, i) ∈ P.consts → ∃ t, mg (Str.ofString x) = some (.int i t)
  exc : ∀ c ∈ P.excs, ExcAt prog w K mg base c
  knd : ∀ k ∈ P.kinds, KndAt prog w K mg base k
section
variable {P : Prg} {prog : Program} {w : World} {K : Frg} {mg : Str → Option Value} {base : Heap}
theorem start_get {N : List Str} {vs : List V} {i : Nat} : (L2.start N vs)[i]? = if i < vs.length then (vs[i]?).map some else if i < vs.length + (N.length - vs.length) then some none else none := by
  unfold L2.start
  by_cases h : i < vs.length
  · rw [if_pos h, List.getElem?_append_left (by simpa using h), List.getElem?_map]
  · rw [if_neg h, List.getElem?_append_right (by simpa using h)]
    simp only [List.length_map, List.getElem?_replicate]
    by_cases h2 : i < vs.length + (N.length - vs.length)
    · rw [if_pos h2, if_pos (by omega)]
    · rw [if_neg h2, if_neg (by omega)]
theorem initR_get {fd : FD} {ds : List D} {i : Nat} {p : Bool × D} (h : (initR fd ds)[i]? = some (some p)) : ∃ d, ds[i]? = some d ∧ p = (false, d) := by
  unfold initR at h
  by_cases hi : i < ds.length
  · rw [List.getElem?_append_left (by simpa using hi), List.getElem?_map] at h
    cases e : ds[i]? with
    | none => rw [e] at h; cases h
    | some d => rw [e] at h; simp at h; exact ⟨d, rfl, h.symm⟩
  · rw [List.getElem?_append_right (by simpa using hi), List.getElem?_replicate] at h
    split at h <;> cases h
theorem SR.init {F : Addr → Prop} {H : Hp} {fd : FD} {ds : List D} {vs : List V} (hF : Kn H F) (hd : DenL K (sub H F) ds vs) : SR K F H H (initR fd ds) (L2.start (nsOf fd) vs) := by
  have hl := hd.length
  have no : ∀ a, ¬ Own (initR fd ds) (L2.start (nsOf fd) vs) a := fun a ⟨i, d, h, _⟩ => by
    obtain ⟨e, _, q⟩ := initR_get h
    cases q
  have hg : Le (sub H F) (Gz F (initR fd ds) (L2.start (nsOf fd) vs) H) := sub_mono fun a o e n => ⟨e, fun z => z.elim n (no a)⟩
  refine ⟨?_, Le.refl H, hF, fun i d h => ?_, fun i d h => ?_, fun i j d e a h => ?_⟩
  · unfold initR L2.start
    simp [hl]
  · obtain ⟨e, h1, q⟩ := initR_get h
    cases q
    obtain ⟨v, h2, h3⟩ := hd.get h1
    refine ⟨v, ?_, Den.mono hg _ _ h3⟩
    rw [start_get, if_pos (List.getElem?_eq_some_iff.mp h2).1, h2]
    rfl
  · obtain ⟨e, _, q⟩ := initR_get h
    cases q
  · obtain ⟨e, _, q⟩ := initR_get h
    cases q
theorem run_succ {n k : Nat} {fd : FD} {ds : List D} (h : P.fn k = some fd) : run P (n + 1) k ds = gd (ds.length = fd.prm.length) (endR (exL (run P n) fd.fr fd.body (initR fd ds))) := by
  simp only [run, h]
theorem spc_len {n k : Nat} {fd : FD} (hk : P.fn k = some fd) (vs : List V) (H : Hp) (Q : VK) (E : XK) (h : Spc P n k K mg vs H Q E) : vs.length = (psOf fd).length := by
  obtain ⟨F, ds, fd', e, _, hd, h⟩ := h
  rw [hk] at e; cases e
  rw [hd.length, List.length_map]
  cases n with
  | zero => simp only [run] at h; exact h.elim
  | succ n =>
    rw [run_succ hk] at h
    unfold gd at h
    split at h
    · assumption
    · exact h.elim
/-- THE RULE: every def of a checked program keeps the promise that run makes -/
theorem fn_ok (A : PrgAt P prog w K mg base) : ∀ (n k : Nat) (fd : FD) (st : Stmt) (f : Addr) (fdt : FuncData), P.fn k = some fd → DefAt K mg fd st f fdt → chkF P fd st = true → FnOk prog w K mg base (L2.CX prog w) (n + 2) f fdt (psOf fd) (Spc P n k K mg)
  | 0, k, fd, st, f, fdt, hk, d, hc => by
    refine ⟨spc_len hk, fun A outer s H args us vs Q E _ _ _ _ h => ?_⟩
    obtain ⟨F, ds, fd', e, _, hd, h⟩ := h
    simp only [run] at h
    exact h.elim
  | n + 1, k, fd, st, f, fdt, hk, d, hc => by
    unfold chkF at hc
    rw [Bool.and_eq_true] at hc
    have fs := scopeC_is hc.1
    refine d.F.okX fs (spc_len hk) fun cdv Ar outer s H vs Q E hr h => ?_
    obtain ⟨F, ds, fd', e, hF, hd, h⟩ := h
    rw [hk] at e; cases e
    have C : Cos P n (cxOf (L2.CX prog w) prog w K mg base (nsOf fd) (Str.ofString fd.nm) (defScope st) f cdv Ar outer s H E) (defScope st) (nsOf fd) (fun cls d _ H => E cls d H) := {
      C := { sc := rfl, N := rfl, nd := fs.nd, calm := rfl, room := hr, fns := fun k fd hk => let ⟨st, f, fdt, d, hc⟩ := A.defs k fd hk; ⟨f, fdt, d.g, d.F.kp, d.b, fn_ok A n k fd st f fdt hk d hc⟩, blt := A.blt, cst := A.cst, exc := A.exc, knd := A.knd, tk := takes_of rfl rfl rfl rfl }
      kind := fs.kind
      pass := passes_of rfl
      fn := fun _ => rfl
      stk := rfl
      frm := rfl }
    refine ⟨_, sB (fr := fd.fr) fd.body (defBody st) C hc.2, F, H, initR fd ds, SR.init hF hd, ?_⟩
    rw [run_succ hk] at h
    unfold gd at h
    split at h
    · have q : ∀ r : R Out, PostF fd.fr K mg F H Q E (endR r) → PostS fd.fr (cxOf (L2.CX prog w) prog w K mg base (nsOf fd) (Str.ofString fd.nm) (defScope st) f cdv Ar outer s H E) F H (fun cls d _ H => E cls d H) { nx := fun _ H' => Q .non H', rt := Q } r := fun r h => by
        cases r with
        | ok o =>
          cases o with
          | nx ρ' => exact fun σ' H' S' => h .non H' S'.ext ⟨by simp [Den], fun _ z => by cases z⟩
          | rt d => exact h
        | exc c fs => exact fun cls dd σ' H' l e => h cls dd H' l e
        | bad => exact h
      exact q _ h
    · exact h.elim
end
end Z
end

set_option maxRecDepth 100000
/-! Z, part 16: a law. -/
namespace Z
open PySem L2 PyProof.Rows
open Classical
/-- the def of the text st, as the written part has it -/
def DefK (K : Frg) (fd : FD) (st : Stmt) : Prop := ∃ (f : Addr) (fdt : FuncData), PySem.W.nsIn K mainGlobals (Str.ofString fd.nm) = some (some (.ref f)) ∧ Fun K (Str.ofString fd.nm) (Str.ofString fd.nm) st f fdt ∧ ∀ us : List Value, us.length = (psOf fd).length → bindArgs fdt ⟨us, []⟩ = pure ((psOf fd).zip us)
theorem def_mk {K : Frg} {fd : FD} {st : Stmt} {f : Addr} {oc : Value} {od an : Option Addr} {osl : Array (Option Value)} {kV doc pm cdv ct : Value} (a : PySem.W.nsIn K mainGlobals (Str.ofString fd.nm) = some (some (.ref f)))
    (l : K.lookup f = some ⟨oc, od, .func (PySem.W.fnOf (Str.ofString fd.nm) (Str.ofString fd.nm) (defArgs st) (defBody st) (defScope st) .none kV doc pm an cdv ct), osl⟩) (c : PySem.W.codeIn K cdv (Str.ofString fd.nm) = true) (k : PySem.W.keepIn K (.ref f) = true)
    (b : ∀ (kV doc pm : Value) (an : Option Addr) (cdv ct : Value) (us : List Value), us.length = (psOf fd).length → bindArgs (PySem.W.fnOf (Str.ofString fd.nm) (Str.ofString fd.nm) (defArgs st) (defBody st) (defScope st) .none kV doc pm an cdv ct) ⟨us, []⟩ = pure ((psOf fd).zip us)) : DefK K fd st := by
  have F := fun_mk (st := st) l c k
  exact ⟨f, _, a, F, b kV doc pm an cdv ct⟩
def AllDef (K : Frg) : List (Nat × FD × Stmt) → Prop
  | [] => True
  | p :: r => DefK K p.2.1 p.2.2 ∧ AllDef K r
theorem AllDef.at {K : Frg} : ∀ {l : List (Nat × FD × Stmt)} {p : Nat × FD × Stmt}, AllDef K l → p ∈ l → DefK K p.2.1 p.2.2
  | [], p, _, h => by cases h
  | q :: r, p, d, h => by
    rcases List.mem_cons.mp h with rfl | h
    · exact d.1
    · exact AllDef.at d.2 h
def prgOf (tbl : List (Nat × FD × Stmt)) (consts : List (String × Int)) (kinds : List Knd := []) (excs : List String := []) : Prg := ⟨fun k => (tbl.find? fun p => p.1 == k).map (·.2.1), consts, kinds, excs⟩
/-! ### the classes of exceptions, as the written part has them -/
def initOf : Stmt → Stmt
  | .ClassDef _ _ _ (f :: _) _ _ _ _ _ _ _ => f
  | s => s
structure ExcK (K : Frg) (c : String) : Prop where
  ex : ∃ C : Addr, PySem.W.nsIn K mainGlobals (Str.ofString c) = some (some (.ref C)) ∧ PySem.W.subIn K (.ref C) (.type "BaseException") = some true ∧ PySem.W.typeIn K (.ref C) = some (.type "type") ∧ PySem.W.keepIn K (.ref C) = true ∧
    ((fldsOf c = [] ∧ PySem.W.excIn K C He.veBase "ValueError.__new__" = true) ∨
      (fldsOf c ≠ [] ∧ OexC K C ∧ (∀ f ∈ fldsOf c, PySem.W.findIn K (.ref C) (Str.ofString f) = some none) ∧ ∃ (fI : Addr) (fdt : FuncData) (q : Str) (st : Stmt), PySem.W.findIn K (.ref C) "__init__" = some (some (.ref fI)) ∧ PySem.W.typeIn K (.ref fI) = some (.type "function") ∧ Fun K "__init__" q st fI fdt ∧
        (∀ us : List Value, us.length = (iN c).length → bindArgs fdt ⟨us, []⟩ = pure ((iN c).zip us)) ∧ chkI c st = true))
theorem exc_mk0 {K : Frg} {c : String} {C : Addr} (a : PySem.W.nsIn K mainGlobals (Str.ofString c) = some (some (.ref C))) (b : PySem.W.subIn K (.ref C) (.type "BaseException") = some true) (t : PySem.W.typeIn K (.ref C) = some (.type "type")) (k : PySem.W.keepIn K (.ref C) = true)
    (x : PySem.W.excIn K C He.veBase "ValueError.__new__" = true) (f : fldsOf c = []) : ExcK K c := ⟨C, a, b, t, k, .inl ⟨f, x⟩⟩
theorem exc_mk1 {K : Frg} {c : String} {C : Addr} {nm q : Str} {N : Addr} {bs bm : List Value} {sn : List Str} {sub : List Value} {st : Stmt} {ab : _} {col : _} {dd : _} {k0 k1 k2 k3 k5 : _} {fI : Addr} {oc : Value} {od an : Option Addr} {osl : Array (Option Value)} {kV doc pm cdv ct : Value} {qi : Str}
    (a : PySem.W.nsIn K mainGlobals (Str.ofString c) = some (some (.ref C))) (b : PySem.W.subIn K (.ref C) (.type "BaseException") = some true) (t : PySem.W.typeIn K (.ref C) = some (.type "type")) (k : PySem.W.keepIn K (.ref C) = true)
    (l : K.lookup C = some (excClassObj nm q C N bs bm true sn sub ab col dd k0 k1 k2 k3 k5 "ValueError.__new__")) (rv : PySem.HandSPX.refsVE bm = true) (sa : PySem.W.findIn K (.ref C) "__setattr__" = some (some (.builtin "object.__setattr__")))
    (i : PySem.W.findIn K (.ref C) "__init__" = some (some (.ref fI))) (ti : PySem.W.typeIn K (.ref fI) = some (.type "function")) (li : K.lookup fI = some ⟨oc, od, .func (PySem.W.fnOf "__init__" qi (defArgs st) (defBody st) (defScope st) .none kV doc pm an cdv ct), osl⟩) (ci : PySem.W.codeIn K cdv qi = true) (ki : PySem.W.keepIn K (.ref fI) = true)
    (bi : ∀ (kV doc pm : Value) (an : Option Addr) (cdv ct : Value) (us : List Value), us.length = (iN c).length → bindArgs (PySem.W.fnOf "__init__" qi (defArgs st) (defBody st) (defScope st) .none kV doc pm an cdv ct) ⟨us, []⟩ = pure ((iN c).zip us))
    (nf : ∀ f ∈ fldsOf c, PySem.W.findIn K (.ref C) (Str.ofString f) = some none) (hf : fldsOf c ≠ []) (ck : chkI c st = true) : ExcK K c :=
  ⟨C, a, b, t, k, .inr ⟨hf, ⟨⟨_, _, _, _, _, _, _, _, _, _, _, _, _, _, _, l, rv⟩, sa, b, t, k⟩, nf, fI, _, qi, st, i, ti, fun_mk li ci ki, bi _ _ _ _ _ _, ck⟩⟩
theorem ExcK.at {K : Frg} {c : String} {prog : Program} {w : World} {mg : Str → Option Value} {base h : Heap} (X : K.In h) (G : h.Ns mainGlobals mg) (e : ExcK K c) : ExcAt prog w K mg base c := by
  obtain ⟨C, a, b, t, k, hh⟩ := e.ex
  refine ⟨C, PySem.W.mg_of X G a, b, t, k, ?_⟩
  rcases hh with q | ⟨h0, T, nf, fI, fdt, q, st, i, ti, F, bi, ck⟩
  · exact .inl q
  · exact .inr ⟨h0, T, fI, fdt, i, ti, .all bi, init_ok T nf h0 F ck⟩
/-- a class that the kinds' def names -/
structure ClsK (K : Frg) (S : Addr) (c : String) : Prop where
  ex : ∃ C : Addr, PySem.W.nsIn K mainGlobals (Str.ofString c) = some (some (.ref C)) ∧ ExcT K S c C ∧ ∀ f ∈ fldsOf c, PySem.W.findIn K (.ref C) (Str.ofString f) = some none
theorem cls_mk {K : Frg} {S C : Addr} {c : String} {cd : ClassData} (a : PySem.W.nsIn K mainGlobals (Str.ofString c) = some (some (.ref C))) (cl : PySem.W.clsIn K C = some cd) (n : cd.name = Str.ofString c) (m : cd.mro = [.ref C, .ref S, .type "ValueError", .type "Exception", .type "BaseException", .type "object"]) (ty : PySem.W.typeIn K (.ref C) = some (.type "type"))
    (ga : PySem.W.findIn K (.ref C) "__getattribute__" = some (some (.builtin "BaseException.__getattribute__"))) (gg : PySem.W.findIn K (.ref C) "__getattr__" = some none) (ca : PySem.W.findIn K (.ref C) "__class__" = some (some (.builtin "object.__class__"))) (hd : PySem.W.hasDictIn K C = true) (kp : PySem.W.keepIn K (.ref C) = true)
    (nf : ∀ f ∈ fldsOf c, PySem.W.findIn K (.ref C) (Str.ofString f) = some none) : ClsK K S c := ⟨C, a, ⟨⟨cd, cl, n, m⟩, ty, ga, gg, ca, hd, kp⟩, nf⟩
structure KndK (K : Frg) (k : Knd) : Prop where
  ex : ∃ (S f : Addr) (fdt : FuncData) (st : Stmt) (cd : ClassData), PySem.W.nsIn K mainGlobals (Str.ofString "StoneError") = some (some (.ref S)) ∧ PySem.W.subIn K (.ref S) (.type "BaseException") = some true ∧ PySem.W.hasDictIn K S = true ∧ PySem.W.typeIn K (.ref S) = some (.type "type") ∧
    PySem.W.clsIn K S = some cd ∧ cd.name = Str.ofString "StoneError" ∧ (∀ c ∈ k.ls.flatten, ClsK K S c) ∧ PySem.W.specialIn K (.builtin "object.__class__") "__get__" = some (some (.builtin "getset_descriptor.__get__")) ∧ PySem.W.takesIn K (.builtin "object.__class__") = some true ∧
    PySem.W.nsIn K mainGlobals (Str.ofString "isinstance") = some none ∧ PySem.W.nsIn K mainGlobals (Str.ofString "ValueError") = some none ∧ PySem.W.nsIn K mainGlobals (Str.ofString k.nm) = some (some (.ref f)) ∧ Fun K (Str.ofString k.nm) (Str.ofString k.nm) st f fdt ∧
    (∀ us : List Value, us.length = 1 → bindArgs fdt ⟨us, []⟩ = pure ([nE].zip us)) ∧ chkK k.ls st = true ∧ (("StoneError" :: k.ls.flatten).map Str.ofString).Nodup ∧ k.ls.flatten.length ≤ 1000
theorem knd_mk {K : Frg} {k : Knd} {S f : Addr} {st : Stmt} {cd : ClassData} {oc : Value} {od an : Option Addr} {osl : Array (Option Value)} {kV doc pm cdv ct : Value} (s1 : PySem.W.nsIn K mainGlobals (Str.ofString "StoneError") = some (some (.ref S))) (s2 : PySem.W.subIn K (.ref S) (.type "BaseException") = some true) (s3 : PySem.W.hasDictIn K S = true) (s4 : PySem.W.typeIn K (.ref S) = some (.type "type"))
    (s5 : PySem.W.clsIn K S = some cd) (s6 : cd.name = Str.ofString "StoneError") (hn : PySem.W.specialIn K (.builtin "object.__class__") "__get__" = some (some (.builtin "getset_descriptor.__get__"))) (ht : PySem.W.takesIn K (.builtin "object.__class__") = some true) (b1 : PySem.W.nsIn K mainGlobals (Str.ofString "isinstance") = some none) (b2 : PySem.W.nsIn K mainGlobals (Str.ofString "ValueError") = some none)
    (a : PySem.W.nsIn K mainGlobals (Str.ofString k.nm) = some (some (.ref f))) (l : K.lookup f = some ⟨oc, od, .func (PySem.W.fnOf (Str.ofString k.nm) (Str.ofString k.nm) (defArgs st) (defBody st) (defScope st) .none kV doc pm an cdv ct), osl⟩) (c : PySem.W.codeIn K cdv (Str.ofString k.nm) = true) (kp : PySem.W.keepIn K (.ref f) = true)
    (b : ∀ (kV doc pm : Value) (an : Option Addr) (cdv ct : Value) (us : List Value), us.length = 1 → bindArgs (PySem.W.fnOf (Str.ofString k.nm) (Str.ofString k.nm) (defArgs st) (defBody st) (defScope st) .none kV doc pm an cdv ct) ⟨us, []⟩ = pure ([nE].zip us))
    (ck : chkK k.ls st = true) (nd : (("StoneError" :: k.ls.flatten).map Str.ofString).Nodup) (hl : k.ls.flatten.length ≤ 1000) (all : ∀ c ∈ k.ls.flatten, ClsK K S c) : KndK K k :=
  ⟨S, f, _, st, cd, s1, s2, s3, s4, s5, s6, all, hn, ht, b1, b2, a, fun_mk l c kp, b _ _ _ _ _ _, ck, nd, hl⟩
theorem map_inj_of {α β : Type} {f : α → β} : ∀ {l : List α}, (l.map f).Nodup → ∀ a ∈ l, ∀ b ∈ l, f a = f b → a = b
  | [], _, a, h, _, _, _ => by cases h
  | x :: l, nd, a, ha, b, hb, e => by
    rw [List.map_cons, List.nodup_cons] at nd
    rcases List.mem_cons.mp ha with h1 | h1 <;> rcases List.mem_cons.mp hb with h2 | h2
    · rw [h1, h2]
    · exact (nd.1 (by rw [← h1, e]; exact List.mem_map_of_mem h2)).elim
    · exact (nd.1 (by rw [← h2, ← e]; exact List.mem_map_of_mem h1)).elim
    · exact map_inj_of nd.2 a h1 b h2 e
theorem KndK.at {K : Frg} {k : Knd} {prog : Program} {w : World} {mg : Str → Option Value} {base h : Heap} (X : K.In h) (G : h.Ns mainGlobals mg) (e : KndK K k) : KndAt prog w K mg base k := by
  obtain ⟨S, f, fdt, st, cd, s1, s2, s3, s4, s5, s6, all, hn, ht, b1, b2, a, F, b, ck, nd, hl⟩ := e.ex
  have nd' := nd
  rw [List.map_cons, List.nodup_cons] at nd'
  have kc : Kcls K mg S k.ls.flatten := {
    ex := fun c hc => by
      obtain ⟨C, e1, T, _⟩ := (all c hc).ex
      refine ⟨C, PySem.W.mg_of X G e1, T, fun z => ?_⟩
      subst z
      obtain ⟨cd', h1, h2, _⟩ := T.cl
      rw [s5] at h1
      cases h1
      exact nd'.1 (by rw [← s6, h2]; exact List.mem_map_of_mem hc)
    inj := map_inj_of nd'.2
    hn := hn, ht := ht, b1 := PySem.W.mg_none_of X G b1, b2 := PySem.W.mg_none_of X G b2 }
  refine ⟨S, f, fdt, PySem.W.mg_of X G s1, ⟨s2, s3, s4⟩, kc, fun c hc C e1 => ?_, PySem.W.mg_of X G a, F.kp, .all b, kinds_ok kc hl F ck⟩
  obtain ⟨C', e2, _, nf⟩ := (all c hc).ex
  have := PySem.W.mg_of X G e2
  rw [e1] at this
  cases this
  exact nf
def spLaw (K : Frg) : Sp := fun vs H Q _ => ∃ (a : Addr) (ns : List Int), vs = [.ref a] ∧ SqL K H a (ns.map V.int) ∧ ns.length ≤ 63 ∧ ∀ H', Q (.bl true) H'
theorem denL_ints {K : Frg} {G : Hp} : ∀ ns : List Int, DenL K G (ns.map D.int) (ns.map V.int) := DenL.of_ints
theorem prg_at {tbl : List (Nat × FD × Stmt)} {consts : List (String × Int)} {kinds : List Knd} {excs : List String} {prog : Program} {w : World} {base : Heap} {K : Frg} {mg : Str → Option Value} {h : Heap} (X : K.In h) (G : h.Ns mainGlobals mg) (ad : AllDef K tbl) (hb : ∀ x ∈ bltNames, PySem.W.nsIn K mainGlobals (Str.ofString x) = some none)
    (hc : ∀ x i, (x, i) ∈ consts → ∃ t, PySem.W.nsIn K mainGlobals (Str.ofString x) = some (some (.int i t))) (he : ∀ c ∈ excs, ExcK K c) (hk : ∀ k ∈ kinds, KndK K k) (ck : (tbl.all fun p => chkF (prgOf tbl consts kinds excs) p.2.1 p.2.2) = true) : PrgAt (prgOf tbl consts kinds excs) prog w K mg base where
  defs := fun k fd hk => by
    have hk : (tbl.find? fun p => p.1 == k).map (·.2.1) = some fd := hk
    cases e : tbl.find? fun p => p.1 == k with
    | none => rw [e] at hk; cases hk
    | some p =>
      rw [e] at hk
      cases hk
      have hm := List.mem_of_find?_eq_some e
      obtain ⟨f, fdt, a, F, b⟩ := ad.at hm
      refine ⟨p.2.2, f, fdt, ⟨F, PySem.W.mg_of X G a, .all b⟩, ?_⟩
      rw [List.all_eq_true] at ck
      exact ck p hm
  blt := fun x hx => PySem.W.mg_none_of X G (hb x hx)
  cst := fun x i hx => let ⟨t, e⟩ := hc x i hx; ⟨t, PySem.W.mg_of X G e⟩
  exc := fun c hc => (he c hc).at X G
  knd := fun k hk' => (hk k hk').at X G
/-- what the law's row wants -/
theorem law_end {tbl : List (Nat × FD × Stmt)} {consts : List (String × Int)} {kinds : List Knd} {excs : List String} {prog : Program} {w : World} {K : Frg} {mg : Str → Option Value} {h : Heap} {fa : Addr} {k n : Nat} {fd : FD} (hfd : (prgOf tbl consts kinds excs).fn k = some fd) (hp : fd.prm = ["script"]) (X : K.In h) (G : h.Ns mainGlobals mg) (hfa : mg (Str.ofString fd.nm) = some (.ref fa))
    (ad : AllDef K tbl) (hb : ∀ x ∈ bltNames, PySem.W.nsIn K mainGlobals (Str.ofString x) = some none) (hc : ∀ x i, (x, i) ∈ consts → ∃ t, PySem.W.nsIn K mainGlobals (Str.ofString x) = some (some (.int i t))) (he : ∀ c ∈ excs, ExcK K c) (hkk : ∀ k ∈ kinds, KndK K k) (ck : (tbl.all fun p => chkF (prgOf tbl consts kinds excs) p.2.1 p.2.2) = true)
    (ht : ∀ ns : List Int, ns.length ≤ 63 → run (prgOf tbl consts kinds excs) n k [.fls (ns.map D.int)] = .ok (.bl true)) :
    ∃ fdt : FuncData, (∀ (s : Shared) (v : Value), BindsTo s fdt ⟨[v], []⟩ [(Str.ofString "script", v)]) ∧ ∀ base : Heap, K.In base → base.Ns mainGlobals mg → FnOk prog w K mg base (L2.CX prog w) (n + 2) fa fdt [Str.ofString "script"] (spLaw K) := by
  have A := fun base => prg_at (prog := prog) (w := w) (base := base) (mg := mg) X G ad hb hc he hkk ck
  have hfd : (tbl.find? fun p => p.1 == k).map (·.2.1) = some fd := hfd
  cases hq : tbl.find? fun p => p.1 == k with
  | none => rw [hq] at hfd; cases hfd
  | some p =>
    rw [hq] at hfd
    cases hfd
    have hm := List.mem_of_find?_eq_some hq
    have hfn : (prgOf tbl consts kinds excs).fn k = some p.2.1 := by show (tbl.find? fun p => p.1 == k).map (·.2.1) = _; rw [hq]; rfl
    obtain ⟨f, fdt, a, F, b⟩ := ad.at hm
    have e1 := PySem.W.mg_of X G a
    rw [e1] at hfa
    cases hfa
    have hps : psOf p.2.1 = [Str.ofString "script"] := by unfold psOf; rw [hp]; rfl
    have hck : chkF (prgOf tbl consts kinds excs) p.2.1 p.2.2 = true := by
      rw [List.all_eq_true] at ck
      exact ck p hm
    refine ⟨fdt, fun s v => ?_, fun base _ _ => ?_⟩
    · have := b [v] (by rw [hps]; rfl)
      rw [hps] at this
      exact .of_eq this
    · have q := fn_ok (prog := prog) (w := w) (base := base) (A base) n k p.2.1 p.2.2 fa fdt hfn ⟨F, e1, .all b⟩ hck
      rw [hps] at q
      refine q.imp fun vs H Q E ⟨a, ns, e, hS, hl, hQ⟩ => ?_
      subst e
      refine ⟨fun _ => False, [.fls (ns.map D.int)], p.2.1, hfn, fun a z => z.elim, ?_, ?_⟩
      · have e : sub H (fun _ => False) = H := by funext x; exact sub_at (fun z => z)
        rw [e]
        refine DenL.one ?_
        simp only [Den]
        exact ⟨a, _, rfl, hS, denL_ints ns⟩
      · rw [ht ns hl]
        intro v H' _ r
        have := r.1
        simp only [Den] at this
        rw [this]
        exact hQ H'
theorem no_exc (P : Program) (w : World) (H : Hp) (s : Shared) (e : Value) (s' : Shared) (h : L2.CX P w [] H s (fun _ _ _ => False) e s') : False := by
  obtain ⟨_, _, _, _, _, _, _, _, _, _, _, _, z⟩ := h
  exact z.elim
end Z

set_option maxRecDepth 100000
/-! Z, part 17: what a def computes hangs on the defs that it calls. -/
namespace Z
mutual
def clE : E → List Nat
  | .var _ => [] | .non => [] | .bl _ => [] | .int _ => [] | .str _ => [] | .glb _ _ => []
  | .tup es => clL es | .lst es => clL es | .dct0 _ => [] | .dsp _ k v => clE k ++ clE v
  | .bin _ a b => clE a ++ clE b | .neg a => clE a | .cmp _ a b => clE a ++ clE b | .chain _ _ a b c => clE a ++ (clE b ++ clE c)
  | .and es => clL es | .or es => clL es | .not a => clE a | .ife c a b => clE c ++ (clE a ++ clE b)
  | .idx a i => clE a ++ clE i | .slc a lo hi => clE a ++ (clO lo ++ clO hi) | .rev a => clE a
  | .call k _ es => k :: clL es | .bi _ es => clL es | .isi e _ => clE e
  | .get1 d k => clE d ++ clE k | .get2 d k x => clE d ++ (clE k ++ clE x) | .count o a => clE o ++ clE a | .index o a => clE o ++ clE a
  | .comp e _ _ es c => clL es ++ (clE e ++ clO c)
def clO : Option E → List Nat
  | none => [] | some e => clE e
def clL : List E → List Nat
  | [] => [] | e :: es => clE e ++ clL es
end
mutual
def clS : S → List Nat
  | .asg _ _ e _ => clE e | .asgt _ e _ => clE e | .par _ es => clL es | .seti _ k v _ => clE v ++ clE k | .augi _ _ k v => clE k ++ clE v | .aug _ _ e => clE e
  | .app _ e _ => clE e | .ext _ e => clE e | .inse _ k e _ => clE k ++ clE e | .rem _ e => clE e | .pop _ _ => [] | .xpr e _ => clE e
  | .ret e _ => clE e | .retv _ => [] | .ret0 => [] | .iff c a b => clE c ++ (clB a ++ clB b) | .iffu _ c a b => clE c ++ (clB a ++ clB b) | .for_ _ _ es _ b => clL es ++ clB b | .forx _ _ _ _ b => clB b | .whl _ c b => clE c ++ clB b
  | .never => [] | .wipe _ => [] | .raise _ es => clL es | .try_ b _ _ _ => clB b
def clB : List S → List Nat
  | [] => [] | s :: r => clS s ++ clB r
end
section
variable {C C' : Calls}
mutual
theorem agE : ∀ (e : E) (b : Bool) (ρ : Rho), (∀ k ∈ clE e, C k = C' k) → evE C b e ρ = evE C' b e ρ
  | .var _, b, ρ, h => by simp only [evE]
  | .non, b, ρ, h => by simp only [evE]
  | .bl _, b, ρ, h => by simp only [evE]
  | .int _, b, ρ, h => by simp only [evE]
  | .str _, b, ρ, h => by simp only [evE]
  | .glb _ _, b, ρ, h => by simp only [evE]
  | .dct0 _, b, ρ, h => by simp only [evE]
  | .tup es, b, ρ, h => by
    simp only [clE] at h
    simp only [evE, agL es false ρ h]
  | .lst es, b, ρ, h => by
    simp only [clE] at h
    simp only [evE, agL es false ρ h]
  | .dsp _ k v, b, ρ, h => by
    simp only [clE, List.mem_append] at h
    simp only [evE, agE k true ρ fun j hj => h j (.inl hj), agE v false ρ fun j hj => h j (.inr hj)]
  | .bin _ k v, b, ρ, h => by
    simp only [clE, List.mem_append] at h
    simp only [evE, agE k true ρ fun j hj => h j (.inl hj), agE v true ρ fun j hj => h j (.inr hj)]
  | .neg k, b, ρ, h => by
    simp only [clE] at h
    simp only [evE, agE k true ρ h]
  | .cmp _ k v, b, ρ, h => by
    simp only [clE, List.mem_append] at h
    simp only [evE, agE k true ρ fun j hj => h j (.inl hj), agE v true ρ fun j hj => h j (.inr hj)]
  | .chain _ _ k v w, b, ρ, h => by
    simp only [clE, List.mem_append] at h
    simp only [evE, agE k true ρ fun j hj => h j (.inl hj), agE v true ρ fun j hj => h j (.inr (.inl hj)), agE w true ρ fun j hj => h j (.inr (.inr hj))]
  | .and es, b, ρ, h => by
    simp only [clE] at h
    simp only [evE, agAnd es ρ h]
  | .or es, b, ρ, h => by
    simp only [clE] at h
    simp only [evE, agOr es ρ h]
  | .not k, b, ρ, h => by
    simp only [clE] at h
    simp only [evE, agE k false ρ h]
  | .ife k v w, b, ρ, h => by
    simp only [clE, List.mem_append] at h
    simp only [evE, agE k false ρ fun j hj => h j (.inl hj), agE v false ρ fun j hj => h j (.inr (.inl hj)), agE w false ρ fun j hj => h j (.inr (.inr hj))]
  | .idx k v, b, ρ, h => by
    simp only [clE, List.mem_append] at h
    simp only [evE, agE k true ρ fun j hj => h j (.inl hj), agE v true ρ fun j hj => h j (.inr hj)]
  | .slc k v w, b, ρ, h => by
    simp only [clE, List.mem_append] at h
    simp only [evE, agE k true ρ fun j hj => h j (.inl hj), agO v ρ fun j hj => h j (.inr (.inl hj)), agO w ρ fun j hj => h j (.inr (.inr hj))]
  | .rev k, b, ρ, h => by
    simp only [clE] at h
    simp only [evE, agE k true ρ h]
  | .call k _ es, b, ρ, h => by
    simp only [clE, List.mem_cons] at h
    simp only [evE, agA es ρ fun j hj => h j (.inr hj), h k (.inl rfl)]
  | .bi _ es, b, ρ, h => by
    simp only [clE] at h
    simp only [evE, agL es true ρ h]
  | .isi e _, b, ρ, h => by
    simp only [clE] at h
    simp only [evE, agE e true ρ h]
  | .get1 k v, b, ρ, h => by
    simp only [clE, List.mem_append] at h
    simp only [evE, agE k true ρ fun j hj => h j (.inl hj), agE v true ρ fun j hj => h j (.inr hj)]
  | .get2 k v w, b, ρ, h => by
    simp only [clE, List.mem_append] at h
    simp only [evE, agE k true ρ fun j hj => h j (.inl hj), agE v true ρ fun j hj => h j (.inr (.inl hj)), agE w false ρ fun j hj => h j (.inr (.inr hj))]
  | .count k v, b, ρ, h => by
    simp only [clE, List.mem_append] at h
    simp only [evE, agE k true ρ fun j hj => h j (.inl hj), agE v true ρ fun j hj => h j (.inr hj)]
  | .index k v, b, ρ, h => by
    simp only [clE, List.mem_append] at h
    simp only [evE, agE k true ρ fun j hj => h j (.inl hj), agE v true ρ fun j hj => h j (.inr hj)]
  | .comp e p s es c, b, ρ, h => by
    simp only [clE, List.mem_append] at h
    have e1 : ∀ ρ, evE C false e ρ = evE C' false e ρ := fun ρ => agE e false ρ fun j hj => h j (.inr (.inl hj))
    have e2 : ∀ ρ, evC C c ρ = evC C' c ρ := fun ρ => agC c ρ fun j hj => h j (.inr (.inr hj))
    simp only [evE, agL es false ρ fun j hj => h j (.inl hj), e1, e2]
theorem agC : ∀ (e : Option E) (ρ : Rho), (∀ k ∈ clO e, C k = C' k) → evC C e ρ = evC C' e ρ
  | none, ρ, h => by simp only [evC]
  | some e, ρ, h => by
    simp only [clO] at h
    simp only [evC, agE e false ρ h]
theorem agO : ∀ (e : Option E) (ρ : Rho), (∀ k ∈ clO e, C k = C' k) → evO C e ρ = evO C' e ρ
  | none, ρ, h => by simp only [evO]
  | some e, ρ, h => by
    simp only [clO] at h
    simp only [evO, agE e false ρ h]
theorem agL : ∀ (es : List E) (b : Bool) (ρ : Rho), (∀ k ∈ clL es, C k = C' k) → evL C b es ρ = evL C' b es ρ
  | [], b, ρ, h => by simp only [evL]
  | e :: es, b, ρ, h => by
    simp only [clL, List.mem_append] at h
    simp only [evL, agE e b ρ fun j hj => h j (.inl hj), agL es b ρ fun j hj => h j (.inr hj)]
theorem agA : ∀ (es : List E) (ρ : Rho), (∀ k ∈ clL es, C k = C' k) → evA C es ρ = evA C' es ρ
  | [], ρ, h => by simp only [evA]
  | e :: es, ρ, h => by
    simp only [clL, List.mem_append] at h
    simp only [evA, agE e (isV e) ρ fun j hj => h j (.inl hj), agA es ρ fun j hj => h j (.inr hj)]
theorem agAnd : ∀ (es : List E) (ρ : Rho), (∀ k ∈ clL es, C k = C' k) → evAnd C es ρ = evAnd C' es ρ
  | [], ρ, h => by simp only [evAnd]
  | [e], ρ, h => by
    simp only [clL, List.mem_append] at h
    simp only [evAnd, agE e false ρ fun j hj => h j (.inl hj)]
  | e :: f :: es, ρ, h => by
    rw [clL] at h
    simp only [List.mem_append] at h
    simp only [evAnd, agE e false ρ fun j hj => h j (.inl hj), agAnd (f :: es) ρ fun j hj => h j (.inr hj)]
theorem agOr : ∀ (es : List E) (ρ : Rho), (∀ k ∈ clL es, C k = C' k) → evOr C es ρ = evOr C' es ρ
  | [], ρ, h => by simp only [evOr]
  | [e], ρ, h => by
    simp only [clL, List.mem_append] at h
    simp only [evOr, agE e false ρ fun j hj => h j (.inl hj)]
  | e :: f :: es, ρ, h => by
    rw [clL] at h
    simp only [List.mem_append] at h
    simp only [evOr, agE e false ρ fun j hj => h j (.inl hj), agOr (f :: es) ρ fun j hj => h j (.inr hj)]
end
mutual
theorem agS : ∀ (s : S) (fr : Bool) (ρ : Rho), (∀ k ∈ clS s, C k = C' k) → exS C fr s ρ = exS C' fr s ρ
  | .asg _ _ e un, fr, ρ, h => by
    simp only [clS] at h
    simp only [exS, agE e false (unown un ρ) h]
  | .asgt _ e un, fr, ρ, h => by
    simp only [clS] at h
    simp only [exS, agE e false (unown un ρ) h]
  | .par _ es, fr, ρ, h => by
    simp only [clS] at h
    simp only [exS, agL es false ρ h]
  | .seti _ k v un, fr, ρ, h => by
    simp only [clS, List.mem_append] at h
    simp only [exS, agE v false (unown un ρ) fun j hj => h j (.inl hj), agE k true (unown un ρ) fun j hj => h j (.inr hj)]
  | .augi _ _ k v, fr, ρ, h => by
    simp only [clS, List.mem_append] at h
    simp only [exS, agE k true ρ fun j hj => h j (.inl hj), agE v true ρ fun j hj => h j (.inr hj)]
  | .aug _ _ e, fr, ρ, h => by
    simp only [clS] at h
    simp only [exS, agE e true ρ h]
  | .app _ e un, fr, ρ, h => by
    simp only [clS] at h
    simp only [exS, agE e false (unown un ρ) h]
  | .ext _ e, fr, ρ, h => by
    simp only [clS] at h
    simp only [exS, agE e true ρ h]
  | .inse _ k e un, fr, ρ, h => by
    simp only [clS, List.mem_append] at h
    simp only [exS, agE k false (unown un ρ) fun j hj => h j (.inl hj), agE e false (unown un ρ) fun j hj => h j (.inr hj)]
  | .rem _ e, fr, ρ, h => by
    simp only [clS] at h
    simp only [exS, agE e true ρ h]
  | .pop _ _, fr, ρ, h => by simp only [exS]
  | .xpr e un, fr, ρ, h => by
    simp only [clS] at h
    simp only [exS, agE e false (unown un ρ) h]
  | .ret e un, fr, ρ, h => by
    simp only [clS] at h
    simp only [exS, agE e false (unown un ρ) h]
  | .retv _, fr, ρ, h => by simp only [exS]
  | .ret0, fr, ρ, h => by simp only [exS]
  | .iff c a b, fr, ρ, h => by
    simp only [clS, List.mem_append] at h
    simp only [exS, agE c false ρ fun j hj => h j (.inl hj), agB a fr ρ fun j hj => h j (.inr (.inl hj)), agB b fr ρ fun j hj => h j (.inr (.inr hj))]
  | .iffu un c a b, fr, ρ, h => by
    simp only [clS, List.mem_append] at h
    simp only [exS, agE c false (unown un ρ) fun j hj => h j (.inl hj), agB a fr ρ fun j hj => h j (.inr (.inl hj)), agB b fr ρ fun j hj => h j (.inr (.inr hj))]
  | .for_ p s es un b, fr, ρ, h => by
    simp only [clS, List.mem_append] at h
    have e1 : ∀ ρ, exL C fr b ρ = exL C' fr b ρ := fun ρ => agB b fr ρ fun j hj => h j (.inr hj)
    simp only [exS, agL es false (unown un ρ) fun j hj => h j (.inl hj), e1]
  | .forx p i j un b, fr, ρ, h => by
    simp only [clS] at h
    have e1 : ∀ ρ, exL C fr b ρ = exL C' fr b ρ := fun ρ => agB b fr ρ h
    have e2 : ∀ ρ, evL C false [ixE i j] ρ = evL C' false [ixE i j] ρ := fun ρ => agL [ixE i j] false ρ (fun k hk => by simp [clL, clE, ixE] at hk)
    simp only [exS, e1, e2]
  | .whl L c b, fr, ρ, h => by
    simp only [clS, List.mem_append] at h
    have e1 : ∀ ρ, exL C fr b ρ = exL C' fr b ρ := fun ρ => agB b fr ρ fun j hj => h j (.inr hj)
    have e2 : ∀ ρ, evE C false c ρ = evE C' false c ρ := fun ρ => agE c false ρ fun j hj => h j (.inl hj)
    simp only [exS, e1, e2]
  | .never, fr, ρ, h => by simp only [exS]
  | .wipe _, fr, ρ, h => by simp only [exS]
  | .raise _ es, fr, ρ, h => by
    simp only [clS] at h
    simp only [exS, agL es true ρ h]
  | .try_ b _ _ _, fr, ρ, h => by
    simp only [clS] at h
    simp only [exS, agB b fr ρ h]
theorem agB : ∀ (s : List S) (fr : Bool) (ρ : Rho), (∀ k ∈ clB s, C k = C' k) → exL C fr s ρ = exL C' fr s ρ
  | [], fr, ρ, h => by simp only [exL]
  | s :: r, fr, ρ, h => by
    simp only [clB, List.mem_append] at h
    have e1 : ∀ ρ, exL C fr r ρ = exL C' fr r ρ := fun ρ => agB r fr ρ fun j hj => h j (.inr hj)
    simp only [exL, agS s fr ρ fun j hj => h j (.inl hj), e1]
end
end
/-- P and Q have the same defs at ks, which call none but these -/
def Agree (P Q : Prg) (ks : List Nat) : Prop := ∀ k ∈ ks, ∃ fd, P.fn k = some fd ∧ Q.fn k = some fd ∧ ∀ j ∈ clB fd.body, j ∈ ks
theorem run_agree {P Q : Prg} {ks : List Nat} (h : Agree P Q ks) : ∀ (n : Nat), ∀ k ∈ ks, run P n k = run Q n k
  | 0, k, hk => by funext ds; simp only [run]
  | n + 1, k, hk => by
    obtain ⟨fd, h1, h2, h3⟩ := h k hk
    funext ds
    rw [run_succ h1, run_succ h2, agB fd.body fd.fr _ fun j hj => run_agree h n j (h3 j hj)]
/-- a law's def over a larger program -/
theorem law_agree {P Q : Prg} {ks : List Nat} (h : Agree P Q ks) {n k : Nat} {fd : FD} {ds : List D} (hk : P.fn k = some fd) (hc : ∀ j ∈ clB fd.body, j ∈ ks) : run P (n + 1) k ds = gd (ds.length = fd.prm.length) (endR (exL (run Q n) fd.fr fd.body (initR fd ds))) := by
  rw [run_succ hk, agB fd.body fd.fr _ fun j hj => run_agree h n j (hc j hj)]
end Z

namespace Lib
open PySem Z
def F0_is_whole : FD :=
  ⟨"is_whole", ["thing"], ["thing"], true, [.ret (.and [(.isi (.var 0) .int), (.not (.isi (.var 0) .bool))]) []]⟩
def F1_is_from : FD :=
  ⟨"is_from", ["thing", "least", "most"], ["thing", "least", "most"], true, [.ret (.and [(.call 0 true [(.var 0)]), (.chain .le .le (.var 1) (.var 0) (.var 2))]) []]⟩
def F2_is_two : FD :=
  ⟨"is_two", ["thing", "many"], ["thing", "many"], true, [.iff (.or [(.not (.isi (.var 0) .tup)), (.cmp .ne (.bi .len [(.var 0)]) (.int 2))]) [.ret (.bl false) []] [], .ret (.and [(.call 1 true [(.idx (.var 0) (.int 0)), (.int 0), (.bin .sub (.var 1) (.int 1))]), (.call 1 true [(.idx (.var 0) (.int 1)), (.int 0), (.bin .sub (.var 1) (.int 1))]), (.cmp .ne (.idx (.var 0) (.int 0)) (.idx (.var 0) (.int 1)))]) []]⟩
def B3_0 : List S := [.iff (.or [(.not (.call 2 true [(.var 2), (.idx (.var 0) (.int 0))])), (.cmp .gt (.idx (.var 2) (.int 0)) (.idx (.var 2) (.int 1))), (.cmp .le (.var 2) (.var 1))]) [.ret (.bl false) []] [], .asg 1 false (.var 2) [], .wipe [2]]
def F3_web_good : FD :=
  ⟨"web_good", ["thing"], ["thing", "last", "tie"], true, [.iff (.or [(.not (.isi (.var 0) .tup)), (.cmp .ne (.bi .len [(.var 0)]) (.int 2)), (.not (.call 1 true [(.idx (.var 0) (.int 0)), (.int 1), (.glb "MOST_PLACES" 8)]))]) [.ret (.bl false) []] [], .iff (.not (.isi (.idx (.var 0) (.int 1)) .tup)) [.ret (.bl false) []] [], .asg 1 false (.tup [(.neg (.int 1)), (.neg (.int 1))]) [], .for_ (.one 2) .seq [(.idx (.var 0) (.int 1))] [] B3_0, .wipe [1, 2], .ret (.bl true) []]⟩
def F17_need_web : FD :=
  ⟨"need_web", ["web"], ["web"], true, [.iff (.not (.call 3 true [(.var 0)])) [.raise "NoWeb" [(.neg (.int 1))]] []]⟩
def F18_need_place : FD :=
  ⟨"need_place", ["web", "place"], ["web", "place"], true, [.iff (.not (.call 1 true [(.var 1), (.int 0), (.bin .sub (.idx (.var 0) (.int 0)) (.int 1))])) [.raise "NoPlace" []] []]⟩
def F45_need_number : FD :=
  ⟨"need_number", ["number", "least", "most"], ["number", "least", "most"], true, [.iff (.not (.call 1 true [(.var 0), (.var 1), (.var 2)])) [.raise "NoNumber" []] []]⟩
def B47_0 : List S := [.iff (.or [(.not (.call 0 true [(.var 2)])), (.cmp .lt (.var 2) (.int 0))]) [.ret (.bl false) []] [], .wipe [2]]
def F47_heap_good : FD :=
  ⟨"heap_good", ["web", "thing"], ["web", "thing", "stones"], true, [.iff (.or [(.not (.isi (.var 1) .tup)), (.cmp .ne (.bi .len [(.var 1)]) (.idx (.var 0) (.int 0)))]) [.ret (.bl false) []] [], .for_ (.one 2) .seq [(.var 1)] [] B47_0, .wipe [2], .ret (.cmp .le (.bi .sum [(.var 1)]) (.glb "MOST_STONES" 300)) []]⟩
def F48_need_heap : FD :=
  ⟨"need_heap", ["web", "heap"], ["web", "heap"], true, [.iff (.not (.call 47 true [(.var 0), (.var 1)])) [.raise "NoHeap" []] []]⟩
def F49_is_step : FD :=
  ⟨"is_step", ["web", "thing"], ["web", "thing"], true, [.ret (.and [(.call 2 true [(.var 1), (.idx (.var 0) (.int 0))]), (.cmp .in_ (.tup [(.bi .min [(.var 1)]), (.bi .max [(.var 1)])]) (.idx (.var 0) (.int 1)))]) []]⟩
def F51_done : FD :=
  ⟨"done", ["heap", "step"], ["heap", "step", "found", "a", "b"], true, [.asgt [3, 4] (.var 1) [], .asg 2 true (.bi .list [(.var 0)]) [], .augi 2 .sub (.var 3) (.int 2), .augi 2 .add (.var 4) (.int 1), .ret (.bi .tuple [(.var 2)]) []]⟩
def B55_0 : List S := [.iff (.not (.call 49 true [(.var 0), (.var 5)])) [.ret (.tup [(.str "form"), (.var 4)]) []] [], .iff (.cmp .lt (.idx (.var 3) (.idx (.var 5) (.int 0))) (.int 2)) [.ret (.tup [(.str "bare"), (.var 4)]) []] [], .asg 3 false (.call 51 true [(.var 3), (.var 5)]) [], .wipe [4, 5]]
def F55_first_wrong : FD :=
  ⟨"first_wrong", ["web", "heap", "thing"], ["web", "heap", "thing", "here", "at", "step"], true, [.iff (.not (.isi (.var 2) .lst)) [.ret (.tup [(.str "list"), (.int 0)]) []] [], .asg 3 false (.var 1) [], .for_ (.tup [4, 5]) (.enum 0) [(.var 2)] [] B55_0, .wipe [3, 4, 5], .ret .non []]⟩
def B56_0 : List S := [.asg 3 false (.call 51 true [(.var 3), (.var 4)]) [], .app 2 (.var 3) [], .wipe [4]]
def F56_heaps_behind : FD :=
  ⟨"heaps_behind", ["heap", "steps"], ["heap", "steps", "found", "here", "step"], true, [.asg 2 true (.lst []) [], .asg 3 false (.var 0) [], .for_ (.one 4) .seq [(.var 1)] [] B56_0, .wipe [3, 4], .retv 2]⟩
def F58_steps_wrong : FD :=
  ⟨"steps_wrong", ["web", "heap", "thing"], ["web", "heap", "thing"], true, [.xpr (.call 17 true [(.var 0)]) [], .xpr (.call 48 true [(.var 0), (.var 1)]) [], .ret (.call 55 true [(.var 0), (.var 1), (.var 2)]) []]⟩
def F59_brings : FD :=
  ⟨"brings", ["web", "heap", "place", "many", "thing"], ["web", "heap", "place", "many", "thing"], true, [.xpr (.call 17 true [(.var 0)]) [], .xpr (.call 48 true [(.var 0), (.var 1)]) [], .xpr (.call 18 true [(.var 0), (.var 2)]) [], .xpr (.call 45 true [(.var 3), (.int 1), (.glb "MOST_STONES" 300)]) [], .iff (.cmp .isn (.call 55 true [(.var 0), (.var 1), (.var 4)]) .non) [.ret (.bl false) []] [], .ret (.cmp .ge (.idx (.idx (.bin .add (.lst [(.var 1)]) (.call 56 true [(.var 1), (.var 4)])) (.neg (.int 1))) (.var 2)) (.var 3)) []]⟩
def F6_law_stir : FD :=
  ⟨"_law_stir", ["cell", "k"], ["cell", "k", "number"], true, [.asg 2 false (.bin .mod (.bin .mul (.bin .add (.bin .add (.bin .mod (.var 0) (.int 2147483647)) (.bin .mul (.int 977) (.var 1))) (.int 1)) (.int 48271)) (.int 2147483647)) [], .asg 2 false (.bin .mod (.bin .mul (.var 2) (.var 2)) (.int 2147483629)) [], .asg 2 false (.bin .mod (.bin .mul (.bin .add (.var 2) (.bin .mul (.int 40692) (.bin .add (.var 1) (.int 3)))) (.int 69621)) (.int 2147483647)) [], .ret (.bin .fdiv (.var 2) (.int 8)) []]⟩
def B99_0 : List S := [.iff (.cmp .gt (.idx (.var 1) (.var 3)) (.int 1)) [.app 2 (.tup [(.var 3), (.var 4)]) []] [], .iff (.cmp .gt (.idx (.var 1) (.var 4)) (.int 1)) [.app 2 (.tup [(.var 4), (.var 3)]) []] [], .wipe [3, 4]]
def F99_law_may : FD :=
  ⟨"_law_may", ["web", "heap"], ["web", "heap", "found", "a", "b"], true, [.asg 2 true (.lst []) [], .for_ (.tup [3, 4]) .seq [(.idx (.var 0) (.int 1))] [] B99_0, .wipe [3, 4], .ret (.bi .sorted [(.var 2)]) []]⟩
def F101_law_moved : FD :=
  ⟨"_law_moved", ["heap", "step"], ["heap", "step", "found"], true, [.asg 2 true (.bi .list [(.var 0)]) [], .seti 2 (.idx (.var 1) (.int 0)) (.bin .sub (.idx (.var 2) (.idx (.var 1) (.int 0))) (.int 2)) [], .seti 2 (.idx (.var 1) (.int 1)) (.bin .add (.idx (.var 2) (.idx (.var 1) (.int 1))) (.int 1)) [], .ret (.bi .tuple [(.var 2)]) []]⟩
def B5_0 : List S := [.asg 1 false (.bin .add (.var 1) (.comp (.tup [(.var 2), (.var 3)]) (.one 3) .rng2 [(.bin .add (.var 2) (.int 1)), (.var 0)] none)) [], .wipe [2]]
def F5_law_pairs : FD :=
  ⟨"_law_pairs", ["many"], ["many", "found", "a", "b"], false, [.asg 1 false (.lst []) [], .for_ (.one 2) .rng1 [(.var 0)] [] B5_0, .wipe [2], .retv 1]⟩
def B7_0 : List S := [.iff (.and [(.cmp .eq (.bin .mod (.var 1) (.int 2)) (.int 0)), (.cmp .eq (.bin .mod (.bin .shr (.bin .fdiv (.var 1) (.int 2)) (.var 3)) (.int 2)) (.int 1))]) [.app 2 (.var 4) []] [], .iff (.and [(.cmp .eq (.bin .mod (.var 1) (.int 2)) (.int 1)), (.cmp .lt (.bin .mod (.call 6 true [(.var 1), (.var 3)]) (.int 5)) (.bin .add (.int 2) (.bin .mod (.bin .fdiv (.var 1) (.int 2)) (.int 2))))]) [.app 2 (.var 4) []] [], .wipe [3, 4]]
def F7_law_web_by : FD :=
  ⟨"_law_web_by", ["many", "cell"], ["many", "cell", "ties", "k", "tie"], true, [.asg 2 true (.lst []) [], .for_ (.tup [3, 4]) (.enum 0) [(.call 5 false [(.var 0)])] [] B7_0, .wipe [3, 4], .ret (.tup [(.var 0), (.bi .tuple [(.var 2)])]) []]⟩
def B30_0 : List S := [.asg 4 false (.tup [(.bin .mod (.call 6 true [(.var 1), (.bin .add (.int 50) (.var 3))]) (.var 3)), (.var 3)]) [], .iffu [2] (.cmp .eq (.bi .len [(.comp (.var 5) (.one 5) .seq [(.var 2)] (some (.cmp .eq (.idx (.var 5) (.int 1)) (.var 3))))]) (.int 0)) [.app 2 (.var 4) []] [], .wipe [3, 4]]
def F30_law_joined_by : FD :=
  ⟨"_law_joined_by", ["many", "cell"], ["many", "cell", "ties", "k", "tie", "other"], true, [.asg 2 true (.bi .list [(.idx (.call 7 true [(.var 0), (.var 1)]) (.int 1))]) [], .for_ (.one 3) .rng2 [(.int 1), (.var 0)] [] B30_0, .wipe [3, 4], .ret (.tup [(.var 0), (.bi .tuple [(.bi .sorted [(.var 2)])])]) []]⟩
def B90_0 : List S := [.asg 7 false (.bin .mod (.call 6 true [(.var 1), (.bin .add (.int 60) (.var 6))]) (.bin .add (.var 3) (.int 1))) [], .iff (.cmp .eq (.bin .mod (.var 1) (.int 2)) (.int 0)) [.asg 7 false (.bi .min2 [(.var 3), (.bin .mod (.var 5) (.bin .add (.var 2) (.int 1)))]) [], .asg 5 false (.bin .fdiv (.var 5) (.bin .add (.var 2) (.int 1))) []] [], .app 4 (.var 7) [], .asg 3 false (.bin .sub (.var 3) (.var 7)) [], .wipe [6, 7]]
def F90_law_heap_by : FD :=
  ⟨"_law_heap_by", ["many", "cell", "most"], ["many", "cell", "most", "left", "heap", "digits", "k", "stones"], true, [.asg 3 false (.var 2) [], .asg 4 true (.lst []) [], .asg 5 false (.bin .fdiv (.var 1) (.int 2)) [], .for_ (.one 6) .rng1 [(.var 0)] [] B90_0, .wipe [3, 5, 6, 7], .ret (.bi .tuple [(.var 4)]) []]⟩
def F107_law_whole : FD :=
  ⟨"_law_whole", ["found"], ["found"], true, [.ret (.and [(.isi (.var 0) .int), (.not (.isi (.var 0) .bool))]) []]⟩
def F108_law_is_step : FD :=
  ⟨"_law_is_step", ["web", "thing"], ["web", "thing", "place"], true, [.iff (.or [(.not (.isi (.var 1) .tup)), (.cmp .ne (.bi .len [(.var 1)]) (.int 2)), (.not (.bi .all [(.comp (.call 107 true [(.var 2)]) (.one 2) .seq [(.var 1)] none)]))]) [.ret (.bl false) []] [], .ret (.cmp .in_ (.tup [(.bi .min [(.var 1)]), (.bi .max [(.var 1)])]) (.idx (.var 0) (.int 1))) []]⟩
def B109_0 : List S := [.iff (.not (.call 108 true [(.var 0), (.var 5)])) [.ret (.tup [(.str "form"), (.var 4)]) []] [], .iff (.cmp .lt (.idx (.var 3) (.idx (.var 5) (.int 0))) (.int 2)) [.ret (.tup [(.str "bare"), (.var 4)]) []] [], .asg 3 false (.call 101 true [(.var 3), (.var 5)]) [], .wipe [4, 5]]
def F109_law_wrong : FD :=
  ⟨"_law_wrong", ["web", "heap", "thing"], ["web", "heap", "thing", "here", "at", "step"], true, [.iff (.not (.isi (.var 2) .lst)) [.ret (.tup [(.str "list"), (.int 0)]) []] [], .asg 3 false (.var 1) [], .for_ (.tup [4, 5]) (.enum 0) [(.var 2)] [] B109_0, .wipe [3, 4, 5], .ret .non []]⟩
def B12_0 : List S := [.iff (.not (.call 12 true [(.var 2), (.var 3)])) [.ret (.bl false) []] [], .wipe [2, 3]]
def F12_law_same : FD :=
  ⟨"_law_same", ["found", "due"], ["found", "due", "one", "other"], true, [.iff (.cmp .is (.var 1) .non) [.ret (.cmp .is (.var 0) .non) []] [], .iff (.isi (.var 1) .bool) [.ret (.and [(.isi (.var 0) .bool), (.cmp .eq (.var 0) (.var 1))]) []] [], .iff (.isi (.var 1) .int) [.ret (.and [(.isi (.var 0) .int), (.not (.isi (.var 0) .bool)), (.cmp .eq (.var 0) (.var 1))]) []] [], .iff (.isi (.var 1) .str) [.ret (.and [(.isi (.var 0) .str), (.cmp .eq (.var 0) (.var 1))]) []] [], .iff (.or [(.cmp .ne (.isi (.var 1) .lst) (.isi (.var 0) .lst)), (.cmp .ne (.isi (.var 1) .tup) (.isi (.var 0) .tup))]) [.ret (.bl false) []] [], .iff (.cmp .ne (.bi .len [(.var 0)]) (.bi .len [(.var 1)])) [.ret (.bl false) []] [], .for_ (.tup [2, 3]) .zip [(.var 0), (.var 1)] [] B12_0, .wipe [2, 3], .ret (.bl true) []]⟩
def B102_0 : List S := [.asg 2 false (.call 101 true [(.var 2), (.var 3)]) [], .wipe [3]]
def F102_law_end : FD :=
  ⟨"_law_end", ["heap", "steps"], ["heap", "steps", "here", "step"], false, [.asg 2 false (.var 0) [], .for_ (.one 3) .seq [(.var 1)] [] B102_0, .wipe [3], .retv 2]⟩
def B110_0 : List S := [.asg 6 false (.call 99 true [(.var 0), (.var 4)]) [], .iff (.cmp .ne (.var 6) (.lst [])) [.asg 7 false (.idx (.var 6) (.bin .mod (.call 6 true [(.var 2), (.bin .add (.int 201) (.var 5))]) (.bi .len [(.var 6)]))) [], .app 3 (.var 7) [], .asg 4 false (.call 101 true [(.var 4), (.var 7)]) []] [], .wipe [5, 6, 7]]
def F110_law_steps : FD :=
  ⟨"_law_steps", ["web", "heap", "cell"], ["web", "heap", "cell", "found", "here", "k", "may", "step"], true, [.asg 3 true (.lst []) [], .asg 4 false (.var 1) [], .for_ (.one 5) .rng1 [(.bin .mod (.call 6 true [(.var 2), (.int 200)]) (.int 15))] [] B110_0, .wipe [4, 5, 6, 7], .retv 3]⟩
def F111_law_otherwise : FD :=
  ⟨"_law_otherwise", ["web", "steps", "cell"], ["web", "steps", "cell", "at", "every", "more", "bad", "some", "a", "b", "step"], false, [.asg 3 false (.bin .mod (.call 6 true [(.var 2), (.int 5)]) (.bin .add (.bi .len [(.var 1)]) (.int 1))) [], .asg 4 false (.bi .sorted [(.bin .add (.bi .list [(.idx (.var 0) (.int 1))]) (.comp (.tup [(.var 9), (.var 8)]) (.tup [8, 9]) .seq [(.idx (.var 0) (.int 1))] none))]) [], .asg 5 false (.idx (.var 4) (.bin .mod (.call 6 true [(.var 2), (.int 6)]) (.bi .len [(.var 4)]))) [], .asg 6 false (.idx (.lst [(.tup [(.int 0), (.int 0)]), (.tup [(.int 0), (.idx (.var 0) (.int 0))]), (.lst [(.int 0), (.int 1)]), (.tup [(.bl true), (.int 0)]), .non, (.str "01"), (.tup [(.int 0), (.int 1), (.int 1)]), (.tup [(.int 0)]), (.int 7)]) (.bin .mod (.call 6 true [(.var 2), (.int 7)]) (.int 9))) [], .asg 7 false (.lst [(.var 1), (.bin .add (.slc (.var 1) none (some (.var 3))) (.slc (.var 1) (some (.bin .add (.var 3) (.int 1))) none)), (.bin .add (.bin .add (.slc (.var 1) none (some (.var 3))) (.slc (.var 1) (some (.var 3)) (some (.bin .add (.var 3) (.int 1))))) (.slc (.var 1) (some (.var 3)) none)), (.bin .add (.slc (.var 1) (some (.var 3)) none) (.slc (.var 1) none (some (.var 3))))]) [], .asg 7 false (.bin .add (.var 7) (.lst [(.bin .add (.bin .add (.slc (.var 1) none (some (.var 3))) (.lst [(.var 5)])) (.slc (.var 1) (some (.var 3)) none)), (.bin .add (.var 1) (.bin .mul (.lst [(.var 5)]) (.int 3))), (.bin .add (.bin .add (.slc (.var 1) none (some (.var 3))) (.lst [(.var 6)])) (.slc (.var 1) (some (.var 3)) none)), (.bi .tuple [(.var 1)])])) [], .asg 7 false (.bin .add (.var 7) (.lst [(.bin .add (.bin .add (.slc (.var 1) none (some (.var 3))) (.comp (.rev (.var 10)) (.one 10) .seq [(.slc (.var 1) (some (.var 3)) (some (.bin .add (.var 3) (.int 1))))] none)) (.slc (.var 1) (some (.bin .add (.var 3) (.int 1))) none)), .non, (.lst [(.var 5), (.var 6)]), (.lst [])])) [], .ret (.idx (.var 7) (.bin .mod (.call 6 true [(.var 2), (.int 8)]) (.int 12))) []]⟩
def F112_law_refused : FD :=
  ⟨"_law_refused", ["web", "heap", "place", "many"], ["web", "heap", "place", "many", "e"], true, [.try_ [.xpr (.call 59 true [(.var 0), (.var 1), (.var 2), (.var 3), (.lst [])]) []] 4 ⟨"_law_kinds", [["NoWeb", "NoKind", "NoHeap", "NoPlace"], ["NoNumber", "NoTally", "NotTree", "NotJoined"], ["NoWeights", "NoRow", "NoSteps", "NoText"], ["TooGreat"]]⟩ (.ret (.eqk 4)), .ret (.bl false) []]⟩
def F19_near : FD :=
  ⟨"near", ["web", "place"], ["web", "place", "a", "b"], true, [.ret (.bi .sorted [(.comp (.bin .sub (.bin .add (.var 2) (.var 3)) (.var 1)) (.tup [2, 3]) .seq [(.idx (.var 0) (.int 1))] (some (.cmp .in_ (.var 1) (.tup [(.var 2), (.var 3)]))))]) []]⟩
def B21_0 : List S := [.iff (.cmp .nin (.var 5) (.var 2)) [.seti 2 (.var 5) (.bin .add (.idx (.var 2) (.idx (.var 3) (.var 4))) (.int 1)) [], .app 3 (.var 5) []] [], .wipe [5]]
def B21_1 : List S := [.for_ (.one 5) .seq [(.call 19 true [(.var 0), (.idx (.var 3) (.var 4))])] [] B21_0, .wipe [5], .aug 4 .add (.int 1), .wipe [5]]
def C21_1 : E := (.cmp .lt (.var 4) (.bi .len [(.var 3)]))
def F21_fars : FD :=
  ⟨"fars", ["web", "place"], ["web", "place", "found", "row", "at", "other"], true, [.asg 2 true (.dsp false (.var 1) (.int 0)) [], .asg 3 true (.lst [(.var 1)]) [], .asg 4 false (.int 0) [], .whl 1000000 C21_1 B21_1, .wipe [4, 5], .retv 2]⟩
def F22_far : FD :=
  ⟨"far", ["web", "one", "other"], ["web", "one", "other"], false, [.xpr (.call 17 true [(.var 0)]) [], .xpr (.call 18 true [(.var 0), (.var 1)]) [], .xpr (.call 18 true [(.var 0), (.var 2)]) [], .ret (.get1 (.call 21 true [(.var 0), (.var 1)]) (.var 2)) []]⟩
def F46_need_few : FD :=
  ⟨"need_few", ["many", "most"], ["many", "most"], true, [.iff (.cmp .gt (.var 0) (.var 1)) [.raise "TooGreat" [(.var 0), (.var 1)]] []]⟩
def F50_all_steps : FD :=
  ⟨"all_steps", ["web"], ["web", "a", "b"], true, [.ret (.bi .sorted [(.bin .add (.bi .list [(.idx (.var 0) (.int 1))]) (.comp (.tup [(.var 2), (.var 1)]) (.tup [1, 2]) .seq [(.idx (.var 0) (.int 1))] none))]) []]⟩
def F53_may_step : FD :=
  ⟨"may_step", ["web", "heap"], ["web", "heap", "step"], true, [.ret (.comp (.var 2) (.one 2) .seq [(.call 50 true [(.var 0)])] (some (.cmp .ge (.idx (.var 1) (.idx (.var 2) (.int 0))) (.int 2)))) []]⟩
def B60_0 : List S := [.asg 6 false (.call 51 true [(.idx (.var 3) (.var 4)), (.var 5)]) [], .iff (.cmp .nin (.var 6) (.var 2)) [.seti 2 (.var 6) (.tup [(.idx (.var 3) (.var 4)), (.var 5)]) [], .app 3 (.var 6) []] [], .wipe [5, 6]]
def B60_1 : List S := [.for_ (.one 5) .seq [(.call 53 true [(.var 0), (.idx (.var 3) (.var 4))])] [] B60_0, .wipe [5, 6], .aug 4 .add (.int 1), .wipe [5, 6]]
def C60_1 : E := (.cmp .lt (.var 4) (.bi .len [(.var 3)]))
def F60_all_behind : FD :=
  ⟨"all_behind", ["web", "heap"], ["web", "heap", "found", "row", "at", "step", "other"], true, [.asg 2 true (.dsp true (.var 1) .non) [], .asg 3 true (.lst [(.var 1)]) [], .asg 4 false (.int 0) [], .whl 1000000 C60_1 B60_1, .wipe [4, 5, 6], .retv 2]⟩
def F61_need_searched : FD :=
  ⟨"need_searched", ["web", "heap"], ["web", "heap"], true, [.xpr (.call 17 true [(.var 0)]) [], .xpr (.call 48 true [(.var 0), (.var 1)]) []]⟩
def F62_most_at : FD :=
  ⟨"most_at", ["web", "heap", "place"], ["web", "heap", "place", "other"], true, [.xpr (.call 61 true [(.var 0), (.var 1)]) [], .xpr (.call 18 true [(.var 0), (.var 2)]) [], .xpr (.call 46 true [(.bi .sum [(.var 1)]), (.glb "MOST_SEARCHED" 12)]) [], .ret (.bi .max [(.comp (.idx (.var 3) (.var 2)) (.one 3) .keys [(.call 60 true [(.var 0), (.var 1)])] none)]) []]⟩
def B63_0 : List S := [.app 2 (.idx (.var 3) (.int 1)) [], .asg 3 false (.idx (.var 0) (.idx (.var 3) (.int 0))) []]
def C63_0 : E := (.cmp .isn (.var 3) .non)
def F63_steps_to : FD :=
  ⟨"steps_to", ["ways", "heap"], ["ways", "heap", "found", "here"], true, [.asg 2 true (.lst []) [], .asg 3 false (.idx (.var 0) (.var 1)) [], .whl 1000000 C63_0 B63_0, .wipe [3], .ret (.rev (.var 2)) []]⟩
def B64_0 : List S := [.iff (.cmp .ge (.idx (.var 5) (.var 2)) (.var 3)) [.ret (.call 63 true [(.var 4), (.var 5)]) []] [], .wipe [5]]
def F64_reach : FD :=
  ⟨"reach", ["web", "heap", "place", "many"], ["web", "heap", "place", "many", "ways", "other"], true, [.xpr (.call 61 true [(.var 0), (.var 1)]) [], .xpr (.call 18 true [(.var 0), (.var 2)]) [], .xpr (.call 45 true [(.var 3), (.int 1), (.glb "MOST_STONES" 300)]) [], .xpr (.call 46 true [(.bi .sum [(.var 1)]), (.glb "MOST_SEARCHED" 12)]) [], .asg 4 false (.call 60 true [(.var 0), (.var 1)]) [], .for_ (.one 5) .keys [(.var 4)] [] B64_0, .wipe [5], .ret .non []]⟩
def F65_reached : FD :=
  ⟨"reached", ["web", "heap"], ["web", "heap", "ways", "place", "other"], true, [.xpr (.call 61 true [(.var 0), (.var 1)]) [], .xpr (.call 46 true [(.bi .sum [(.var 1)]), (.glb "MOST_SEARCHED" 12)]) [], .asg 2 false (.call 60 true [(.var 0), (.var 1)]) [], .ret (.comp (.var 3) (.one 3) .rng1 [(.idx (.var 0) (.int 0))] (some (.cmp .gt (.bi .max [(.comp (.idx (.var 4) (.var 3)) (.one 4) .keys [(.var 2)] none)]) (.int 0)))) []]⟩
def B66_0 : List S := [.iff (.or [(.not (.call 47 true [(.var 0), (.var 6)])), (.cmp .ge (.idx (.var 6) (.var 2)) (.var 3))]) [.ret (.bl false) []] [], .seti 5 (.var 6) (.bl true) [], .wipe [6]]
def B66_1 : List S := [.iff (.cmp .nin (.call 51 true [(.var 6), (.var 7)]) (.var 5)) [.ret (.bl false) []] [], .wipe [7]]
def B66_2 : List S := [.for_ (.one 7) .seq [(.call 53 true [(.var 0), (.var 6)])] [] B66_1, .wipe [6, 7]]
def F66_closed_holds : FD :=
  ⟨"closed_holds", ["web", "heap", "place", "many", "thing"], ["web", "heap", "place", "many", "thing", "known", "other", "step"], true, [.xpr (.call 61 true [(.var 0), (.var 1)]) [], .xpr (.call 18 true [(.var 0), (.var 2)]) [], .xpr (.call 45 true [(.var 3), (.int 1), (.glb "MOST_STONES" 300)]) [], .iff (.not (.isi (.var 4) .lst)) [.ret (.bl false) []] [], .asg 5 true (.dct0 true) [], .for_ (.one 6) .seq [(.var 4)] [] B66_0, .wipe [6], .for_ (.one 6) .seq [(.var 4)] [] B66_2, .wipe [6, 7], .ret (.cmp .in_ (.var 1) (.var 5)) []]⟩
def B67_0 : List S := [.iff (.cmp .ge (.idx (.var 5) (.var 2)) (.var 3)) [.ret .non []] [], .wipe [5]]
def F67_closed_for : FD :=
  ⟨"closed_for", ["web", "heap", "place", "many"], ["web", "heap", "place", "many", "found", "other"], false, [.xpr (.call 61 true [(.var 0), (.var 1)]) [], .xpr (.call 18 true [(.var 0), (.var 2)]) [], .xpr (.call 45 true [(.var 3), (.int 1), (.glb "MOST_STONES" 300)]) [], .xpr (.call 46 true [(.bi .sum [(.var 1)]), (.glb "MOST_SEARCHED" 12)]) [], .asg 4 false (.bi .sorted [(.call 60 true [(.var 0), (.var 1)])]) [], .for_ (.one 5) .seq [(.var 4)] [] B67_0, .wipe [5], .retv 4]⟩
def B103_0 : List S := [.asg 6 false (.call 99 true [(.var 0), (.var 4)]) [], .iff (.cmp .ne (.var 6) (.lst [])) [.asg 7 false (.idx (.var 6) (.bin .mod (.call 6 true [(.var 2), (.bin .add (.int 201) (.var 5))]) (.bi .len [(.var 6)]))) [], .app 3 (.var 7) [], .asg 4 false (.call 101 true [(.var 4), (.var 7)]) []] [], .wipe [5, 6, 7]]
def F103_law_steps : FD :=
  ⟨"_law_steps", ["web", "heap", "cell"], ["web", "heap", "cell", "found", "here", "k", "may", "step"], true, [.asg 3 true (.lst []) [], .asg 4 false (.var 1) [], .for_ (.one 5) .rng1 [(.bin .mod (.call 6 true [(.var 2), (.int 200)]) (.int 21))] [] B103_0, .wipe [4, 5, 6, 7], .retv 3]⟩
def B131_0 : List S := [.par [0, 1] [(.var 1), (.bin .mod (.var 0) (.var 1))]]
def C131_0 : E := (.cmp .gt (.var 1) (.int 0))
def F131_divisor : FD :=
  ⟨"divisor", ["one", "other"], ["one", "other"], false, [.asg 0 false (.bi .abs [(.var 0)]) [], .asg 1 false (.bi .abs [(.var 1)]) [], .whl 1000000 C131_0 B131_0, .wipe [1], .retv 0]⟩
def F132_lowest : FD :=
  ⟨"lowest", ["top", "bottom"], ["top", "bottom", "by"], true, [.asg 2 false (.call 131 false [(.var 0), (.var 1)]) [], .ret (.tup [(.bin .fdiv (.var 0) (.var 2)), (.bin .fdiv (.var 1) (.var 2))]) []]⟩
def B133_0 : List S := [.asg 5 false (.bin .add (.var 5) (.bin .mul (.idx (.var 1) (.var 6)) (.bin .shl (.int 1) (.bin .sub (.var 4) (.idx (.var 3) (.var 6)))))) [], .wipe [6]]
def F133_worth_of : FD :=
  ⟨"worth_of", ["web", "stones", "place"], ["web", "stones", "place", "far_ones", "deep", "total", "other"], true, [.asg 3 false (.call 21 true [(.var 0), (.var 2)]) [], .asg 4 false (.bi .maxvals [(.var 3)]) [], .asg 5 false (.int 0) [], .for_ (.one 6) .keys [(.var 3)] [] B133_0, .wipe [6], .ret (.call 132 true [(.var 5), (.bin .shl (.int 1) (.var 4))]) []]⟩
def F134_worth_at : FD :=
  ⟨"worth_at", ["web", "heap", "place"], ["web", "heap", "place"], true, [.xpr (.call 17 true [(.var 0)]) [], .xpr (.call 48 true [(.var 0), (.var 1)]) [], .xpr (.call 18 true [(.var 0), (.var 2)]) [], .ret (.call 133 true [(.var 0), (.var 1), (.var 2)]) []]⟩
def F135_at_most : FD :=
  ⟨"at_most", ["web", "heap", "place"], ["web", "heap", "place", "top", "bottom"], true, [.asgt [3, 4] (.call 134 true [(.var 0), (.var 1), (.var 2)]) [], .ret (.bin .fdiv (.var 3) (.var 4)) []]⟩
def F136_law_cell_at : FD :=
  ⟨"_law_cell_at", ["script", "k"], ["script", "k"], false, [.iff (.cmp .lt (.var 1) (.bi .len [(.var 0)])) [.ret (.idx (.var 0) (.var 1)) []] [], .ret (.int 0) []]⟩
def B137_0 : List S := [.asg 9 false (.bin .mod (.bin .shr (.bin .fdiv (.var 4) (.int 2)) (.bin .add (.bin .fdiv (.bin .mul (.var 6) (.bin .sub (.var 6) (.int 1))) (.int 2)) (.var 8))) (.int 2)) [], .iff (.cmp .eq (.bin .mod (.var 4) (.int 2)) (.int 1)) [.asg 9 false (.bin .fdiv (.bin .mod (.call 6 true [(.var 0), (.bin .add (.bin .mul (.int 8) (.var 8)) (.var 6))]) (.int 3)) (.int 2)) []] [], .iff (.or [(.cmp .eq (.var 9) (.int 1)), (.and [(.var 2), (.cmp .eq (.var 8) (.var 7))])]) [.app 5 (.tup [(.var 8), (.var 6)]) []] [], .wipe [8, 9]]
def B137_1 : List S := [.asg 7 false (.bin .mod (.call 6 true [(.var 0), (.bin .add (.int 100) (.var 6))]) (.var 6)) [], .for_ (.one 8) .rng1 [(.var 6)] [] B137_0, .wipe [6, 7, 8, 9]]
def F137_law_web_by : FD :=
  ⟨"_law_web_by", ["cell", "most", "joined"], ["cell", "most", "joined", "many", "left", "ties", "b", "inner", "a", "drawn"], true, [.asg 3 false (.bin .add (.int 1) (.bin .mod (.var 0) (.var 1))) [], .asg 4 false (.bin .fdiv (.var 0) (.var 1)) [], .asg 5 true (.lst []) [], .for_ (.one 6) .rng2 [(.int 1), (.var 3)] [] B137_1, .wipe [6, 7, 8, 9], .ret (.tup [(.var 3), (.bi .tuple [(.bi .sorted [(.var 5)])])]) []]⟩
def B138_0 : List S := [.asg 5 false (.bin .mod (.call 6 true [(.var 1), (.bin .add (.int 21) (.var 4))]) (.var 0)) [], .iff (.and [(.cmp .eq (.bin .mod (.var 1) (.int 3)) (.int 1)), (.cmp .gt (.var 4) (.int 0))]) [.asg 5 false (.bin .mod (.call 6 true [(.var 1), (.bin .add (.int 21) (.bin .fdiv (.var 4) (.int 4)))]) (.var 0)) []] [], .seti 3 (.var 5) (.bin .add (.idx (.var 3) (.var 5)) (.int 1)) [], .wipe [4, 5]]
def F138_law_heap_by : FD :=
  ⟨"_law_heap_by", ["many", "cell", "most"], ["many", "cell", "most", "found", "k", "place"], true, [.asg 3 true (.bin .mul (.lst [(.int 0)]) (.var 0)) [], .for_ (.one 4) .rng1 [(.bin .mod (.call 6 true [(.var 1), (.int 20)]) (.bin .add (.var 2) (.int 1)))] [] B138_0, .wipe [4, 5], .ret (.bi .tuple [(.var 3)]) []]⟩
def B139_0 : List S := [.iff (.and [(.cmp .isn (.idx (.var 2) (.var 4)) .non), (.or [(.cmp .is (.idx (.var 2) (.var 5)) .non), (.cmp .gt (.idx (.var 2) (.var 5)) (.bin .add (.idx (.var 2) (.var 4)) (.int 1)))])]) [.seti 2 (.var 5) (.bin .add (.idx (.var 2) (.var 4)) (.int 1)) []] [], .wipe [4, 5]]
def B139_1 : List S := [.for_ (.tup [4, 5]) .seq [(.bin .add (.idx (.var 0) (.int 1)) (.bi .tuple [(.comp (.tup [(.var 5), (.var 4)]) (.tup [4, 5]) .seq [(.idx (.var 0) (.int 1))] none)]))] [] B139_0, .wipe [3, 4, 5]]
def F139_law_fars : FD :=
  ⟨"_law_fars", ["web", "place"], ["web", "place", "found", "turn", "a", "b"], true, [.asg 2 true (.bin .mul (.lst [.non]) (.idx (.var 0) (.int 0))) [], .seti 2 (.var 1) (.int 0) [], .for_ (.one 3) .rng1 [(.idx (.var 0) (.int 0))] [] B139_1, .wipe [3, 4, 5], .retv 2]⟩
def B140_0 : List S := [.par [2, 3] [(.var 3), (.bin .mod (.var 2) (.var 3))]]
def C140_0 : E := (.cmp .gt (.var 3) (.int 0))
def F140_law_lowest : FD :=
  ⟨"_law_lowest", ["top", "bottom"], ["top", "bottom", "one", "other"], true, [.par [2, 3] [(.var 0), (.var 1)], .whl 1000000 C140_0 B140_0, .wipe [3], .ret (.tup [(.bin .fdiv (.var 0) (.var 2)), (.bin .fdiv (.var 1) (.var 2))]) []]⟩
def B141_0 : List S := [.iff (.cmp .isn (.var 5) .non) [.asg 3 false (.bin .add (.var 3) (.bin .mul (.var 4) (.bin .shl (.int 1) (.bin .sub (.int 8) (.var 5))))) []] [], .wipe [4, 5]]
def F141_law_worth : FD :=
  ⟨"_law_worth", ["web", "stones", "place"], ["web", "stones", "place", "top", "many", "far_here"], true, [.asg 3 false (.int 0) [], .for_ (.tup [4, 5]) .zip [(.var 1), (.call 139 true [(.var 0), (.var 2)])] [] B141_0, .wipe [4, 5], .ret (.call 140 true [(.var 3), (.int 256)]) []]⟩
def B143_0 : List S := [.iff (.or [(.not (.call 0 true [(.var 2)])), (.cmp .lt (.var 2) (.int 0))]) [.ret (.bl false) []] [], .wipe [2]]
def F143_are_weights : FD :=
  ⟨"are_weights", ["web", "thing"], ["web", "thing", "weight", "a", "b"], true, [.iff (.or [(.not (.isi (.var 1) .tup)), (.cmp .ne (.bi .len [(.var 1)]) (.idx (.var 0) (.int 0)))]) [.ret (.bl false) []] [], .for_ (.one 2) .seq [(.var 1)] [] B143_0, .wipe [2], .ret (.bi .all [(.comp (.and [(.cmp .le (.idx (.var 1) (.var 3)) (.bin .mul (.int 2) (.idx (.var 1) (.var 4)))), (.cmp .le (.idx (.var 1) (.var 4)) (.bin .mul (.int 2) (.idx (.var 1) (.var 3))))]) (.tup [3, 4]) .seq [(.idx (.var 0) (.int 1))] none)]) []]⟩
def F144_sum_by : FD :=
  ⟨"sum_by", ["heap", "weights"], ["heap", "weights", "stones", "weight"], true, [.ret (.bi .sum [(.comp (.bin .mul (.var 2) (.var 3)) (.tup [2, 3]) .zip [(.var 0), (.var 1)] none)]) []]⟩
def F145_bars : FD :=
  ⟨"bars", ["web", "heap", "place", "thing"], ["web", "heap", "place", "thing"], true, [.ret (.and [(.call 143 true [(.var 0), (.var 3)]), (.cmp .lt (.call 144 true [(.var 1), (.var 3)]) (.idx (.var 3) (.var 2)))]) []]⟩
def B150_0 : List S := [.seti 4 (.var 5) (.bin .shl (.int 1) (.bin .sub (.var 3) (.idx (.var 2) (.var 5)))) [], .wipe [5]]
def F150_weights_by_far : FD :=
  ⟨"weights_by_far", ["web", "place"], ["web", "place", "far_ones", "deep", "found", "other"], true, [.asg 2 false (.call 21 true [(.var 0), (.var 1)]) [], .asg 3 false (.bi .maxvals [(.var 2)]) [], .asg 4 true (.bin .mul (.lst [(.int 0)]) (.idx (.var 0) (.int 0))) [], .for_ (.one 5) .keys [(.var 2)] [] B150_0, .wipe [5], .ret (.bi .tuple [(.var 4)]) []]⟩
def F151_far_weights : FD :=
  ⟨"far_weights", ["web", "place"], ["web", "place"], true, [.xpr (.call 17 true [(.var 0)]) [], .xpr (.call 18 true [(.var 0), (.var 1)]) [], .ret (.call 150 true [(.var 0), (.var 1)]) []]⟩
def F152_bar_for : FD :=
  ⟨"bar_for", ["web", "heap", "place"], ["web", "heap", "place", "weights"], false, [.xpr (.call 17 true [(.var 0)]) [], .xpr (.call 48 true [(.var 0), (.var 1)]) [], .xpr (.call 18 true [(.var 0), (.var 2)]) [], .asg 3 false (.call 150 true [(.var 0), (.var 2)]) [], .iff (.call 145 true [(.var 0), (.var 1), (.var 2), (.var 3)]) [.retv 3] [], .ret .non []]⟩
def B154_0 : List S := [.iff (.cmp .gt (.idx (.var 4) (.var 5)) (.int 1)) [.asg 7 true (.bi .list [(.var 4)]) [], .seti 7 (.var 5) (.bin .sub (.idx (.var 7) (.var 5)) (.int 2)) [], .seti 7 (.var 6) (.bin .add (.idx (.var 7) (.var 6)) (.int 1)) [], .iff (.cmp .nin (.bi .tuple [(.var 7)]) (.var 2)) [.seti 2 (.bi .tuple [(.var 7)]) (.bl true) [], .app 3 (.bi .tuple [(.var 7)]) []] []] [], .wipe [5, 6, 7]]
def B154_1 : List S := [.pop 4 3, .for_ (.tup [5, 6]) .seq [(.bin .add (.idx (.var 0) (.int 1)) (.bi .tuple [(.comp (.tup [(.var 6), (.var 5)]) (.tup [5, 6]) .seq [(.idx (.var 0) (.int 1))] none)]))] [] B154_0, .wipe [4, 5, 6, 7]]
def C154_1 : E := (.cmp .ne (.var 3) (.lst []))
def F154_law_behind : FD :=
  ⟨"_law_behind", ["web", "heap"], ["web", "heap", "found", "todo", "here", "a", "b", "other"], true, [.asg 2 true (.dsp true (.var 1) (.bl true)) [], .asg 3 true (.lst [(.var 1)]) [], .whl 1000000 C154_1 B154_1, .wipe [4, 5, 6, 7], .ret (.bi .sorted [(.var 2)]) []]⟩
def F155_law_most_there : FD :=
  ⟨"_law_most_there", ["web", "heap", "place"], ["web", "heap", "place", "other"], true, [.ret (.bi .max [(.comp (.idx (.var 3) (.var 2)) (.one 3) .seq [(.call 154 true [(.var 0), (.var 1)])] none)]) []]⟩
def B197_0 : List S := [.asg 7 false (.call 101 true [(.var 5), (.var 6)]) [], .iff (.cmp .nin (.var 7) (.var 2)) [.seti 2 (.var 7) (.bl true) [], .app 4 (.var 7) []] [], .wipe [6, 7]]
def B197_1 : List S := [.for_ (.one 6) .seq [(.call 99 true [(.var 0), (.var 5)])] [] B197_0, .wipe [5, 6, 7]]
def B197_2 : List S := [.asg 4 true (.lst []) [], .for_ (.one 5) .seq [(.var 3)] [] B197_1, .wipe [5, 6, 7], .asg 3 false (.var 4) [4], .wipe [4, 5, 6, 7]]
def C197_2 : E := (.cmp .ne (.var 3) (.lst []))
def F197_law_behind : FD :=
  ⟨"_law_behind", ["web", "heap"], ["web", "heap", "found", "row", "more", "here", "step", "other"], true, [.asg 2 true (.dsp true (.var 1) (.bl true)) [], .asg 3 false (.lst [(.var 1)]) [], .whl 1000000 C197_2 B197_2, .wipe [3, 4, 5, 6, 7], .ret (.bi .sorted [(.var 2)]) []]⟩
end Lib

section
set_option autoImplicit true
set_option maxRecDepth 100000
/-! what the language does, row by row: the first part is reckoned first -/
namespace Lib
open PySem Z
theorem rf_ {α : Sort u} {a b : α} (h : a = b) : a = b := h
def bR {α β : Type} (r : R α) (f : α → R β) : R β := R.bind r f
@[simp] theorem bR_ok {α β : Type} (a : α) (f : α → R β) : bR (R.ok a) f = f a := by unfold bR; rfl
@[simp] theorem bR_bad {α β : Type} (f : α → R β) : bR (R.bad : R α) f = R.bad := rf_ rfl
@[simp] theorem bR_exc {α β : Type} (c : String) (fs : List D) (f : α → R β) : bR (R.exc c fs : R α) f = R.exc c fs := rf_ rfl
theorem bR_eq {α β : Type} (r : R α) (f : α → R β) : (r >>= f) = bR r f := rfl
def brD {α : Type} (x : D) (a b : Rho → R α) (ρ : Rho) : R α := match x with
  | .bl true => a ρ
  | .bl false => b ρ
  | _ => .bad
@[simp] theorem brD_t {α : Type} (a b : Rho → R α) (ρ : Rho) : brD (.bl true) a b ρ = a ρ := rf_ rfl
@[simp] theorem brD_f {α : Type} (a b : Rho → R α) (ρ : Rho) : brD (.bl false) a b ρ = b ρ := rf_ rfl
theorem brD_b {α : Type} (c : Bool) (a b : Rho → R α) (ρ : Rho) : brD (.bl c) a b ρ = if c = true then a ρ else b ρ := by cases c <;> rfl
@[simp] theorem brD_d {α : Type} (p : Prop) [Decidable p] (a b : Rho → R α) (ρ : Rho) : brD (.bl (decide p)) a b ρ = if p then a ρ else b ρ := by
  rw [brD_b]; by_cases h : p <;> simp [h]
/-- an answer that is known -/
def okB {α : Type} (d : α) (ρ : Rho) : R α := .ok d
@[simp] theorem okB_at {α : Type} (d : α) (ρ : Rho) : okB d ρ = .ok d := rf_ rfl
def brV {α : Type} (x : D) (a b : R α) : R α := match x with
  | .bl true => a
  | .bl false => b
  | _ => .bad
@[simp] theorem brV_t {α : Type} (a b : R α) : brV (.bl true) a b = a := rf_ rfl
@[simp] theorem brV_f {α : Type} (a b : R α) : brV (.bl false) a b = b := rf_ rfl
def oRt (o : Out) (k : Rho → R Out) : R Out := match o with
  | .nx ρ => k ρ
  | .rt d => .ok (.rt d)
@[simp] theorem oRt_nx (ρ : Rho) (k : Rho → R Out) : oRt (.nx ρ) k = k ρ := rf_ rfl
@[simp] theorem oRt_rt (d : D) (k : Rho → R Out) : oRt (.rt d) k = .ok (.rt d) := rf_ rfl
def asB (x : D) : R Bool := match x with
  | .bl b => .ok b
  | _ => .bad
@[simp] theorem asB_b (b : Bool) : asB (.bl b) = .ok b := rf_ rfl
def bodyF (C : Calls) (fr : Bool) (p : Pat) (b : List S) (d : D) (ρ : Rho) : R Out := bR (pr (asgP p d ρ)) fun ρ' => exL C fr b ρ'
def testF (C : Calls) (c : E) (ρ : Rho) : R D := evE C false c ρ
def bodyW (C : Calls) (fr : Bool) (b : List S) (ρ : Rho) : R Out := exL C fr b ρ
def cmpF (C : Calls) (elt : E) (p : Pat) (c : Option E) (ρ : Rho) (d : D) : R (Option D) := bR (asgP p d (wipeR ρ (patL p))) fun ρ' => bR (evC C c ρ') fun k => if k = true then bR (evE C false elt ρ') fun y => .ok (some y) else .ok none
@[simp] theorem gd_gd {α : Type} (c : Prop) [Decidable c] (r : R α) : gd c r = if c then r else .bad := rf_ rfl
@[simp] theorem evE_0 (C : Calls) : evE C bb (.var i) ρ = bR (rget ρ i) fun p => gd (bb = true ∨ p.1 = false) (.ok p.2) := by rw [evE] <;> rfl
@[simp] theorem evE_1 (C : Calls) : evE C bb .non ρ = (.ok .non) := by rw [evE] <;> rfl
@[simp] theorem evE_2 (C : Calls) : evE C bb (.bl b) ρ = (.ok (.bl b)) := by rw [evE] <;> rfl
@[simp] theorem evE_3 (C : Calls) : evE C bb (.int i) ρ = (.ok (.int i)) := by rw [evE] <;> rfl
@[simp] theorem evE_4 (C : Calls) : evE C bb (.str x) ρ = (.ok (.str (Str.ofString x))) := by rw [evE] <;> rfl
@[simp] theorem evE_5 (C : Calls) : evE C bb (.glb fr_ i) ρ = (.ok (.int i)) := by rw [evE] <;> rfl
@[simp] theorem evE_6 (C : Calls) : evE C bb (.tup es) ρ = bR (evL C false es ρ) fun ds => .ok (.tup ds) := by rw [evE] <;> rfl
@[simp] theorem evE_7 (C : Calls) : evE C bb (.lst es) ρ = bR (evL C false es ρ) fun ds => .ok (.lst ds) := by rw [evE] <;> rfl
@[simp] theorem evE_8b (C : Calls) : evE C bb (.dsp t k v) ρ = bR (evE C true k ρ) fun x => bR (evE C false v ρ) fun y => gd (keyFit t x = true) (.ok (.dic t [(x, y)])) := by rw [evE] <;> rfl
@[simp] theorem evE_8 (C : Calls) : evE C bb (.dct0 t) ρ = (.ok (.dic t [])) := by rw [evE] <;> rfl
@[simp] theorem evE_9 (C : Calls) : evE C bb (.bin o a b) ρ = bR (evE C true a ρ) fun x => bR (evE C true b ρ) fun y => pr (binD o x y) := by rw [evE] <;> rfl
def negD : D → R D
  | .int i => .ok (.int (-i))
  | _ => .bad
@[simp] theorem negD_i (i : Int) : negD (.int i) = .ok (.int (-i)) := rf_ rfl
@[simp] theorem evE_10 (C : Calls) : evE C bb (.neg a) ρ = bR (evE C true a ρ) fun x => negD x := by rw [evE] <;> rfl
@[simp] theorem evE_11 (C : Calls) : evE C bb (.cmp o a b) ρ = bR (evE C true a ρ) fun x => bR (evE C true b ρ) fun y => bR (pr (cmpD o x y)) fun k => .ok (.bl k) := by rw [evE] <;> rfl
def ifB {α : Type} (k : Bool) (a b : R α) : R α := match k with
  | true => a
  | false => b
@[simp] theorem ifB_t {α : Type} (a b : R α) : ifB true a b = a := rf_ rfl
@[simp] theorem ifB_f {α : Type} (a b : R α) : ifB false a b = b := rf_ rfl
@[simp] theorem ifB_d {α : Type} (p : Prop) [Decidable p] (a b : R α) : ifB (decide p) a b = if p then a else b := by
  by_cases h : p <;> simp [h]
@[simp] theorem evE_12 (C : Calls) : evE C bb (.chain o p a b c) ρ = bR (evE C true a ρ) fun x => bR (evE C true b ρ) fun y => bR (pr (cmpD o x y)) fun k => ifB k (bR (evE C true c ρ) fun z => bR (pr (cmpD p y z)) fun k => .ok (.bl k)) (.ok (.bl false)) := by
  rw [evE]; rfl
@[simp] theorem evE_13 (C : Calls) : evE C bb (.and es) ρ = (evAnd C es ρ) := by rw [evE] <;> rfl
@[simp] theorem evE_14 (C : Calls) : evE C bb (.or es) ρ = (evOr C es ρ) := by rw [evE] <;> rfl
def notD : D → R D
  | .bl i => .ok (.bl (!i))
  | _ => .bad
@[simp] theorem notD_i (i : Bool) : notD (.bl i) = .ok (.bl (!i)) := rf_ rfl
@[simp] theorem evE_15 (C : Calls) : evE C bb (.not a) ρ = bR (evE C false a ρ) fun x => notD x := by rw [evE] <;> rfl
@[simp] theorem evE_16 (C : Calls) : evE C bb (.ife c a b) ρ = bR (evE C false c ρ) fun x => brD x (evE C false a) (evE C false b) ρ := by rw [evE] <;> rfl
@[simp] theorem evE_17 (C : Calls) : evE C bb (.idx a i) ρ = bR (evE C true a ρ) fun x => bR (evE C true i ρ) fun y => pr (idxD x y) := by rw [evE] <;> rfl
@[simp] theorem evE_18 (C : Calls) : evE C bb (.slc a lo hi) ρ = bR (evE C true a ρ) fun x => bR (evO C lo ρ) fun l => bR (evO C hi ρ) fun h => pr (slcD x l h) := by rw [evE] <;> rfl
@[simp] theorem evE_19 (C : Calls) : evE C bb (.rev a) ρ = bR (evE C true a ρ) fun x => pr (revD x) := by rw [evE] <;> rfl
@[simp] theorem evE_20 (C : Calls) : evE C bb (.call k fr_ es) ρ = bR (evA C es ρ) fun ds => bR (C k ds) fun d => gd (anyOwn es ρ = false ∨ pureD d = true) (.ok d) := by rw [evE] <;> rfl
@[simp] theorem evE_21 (C : Calls) : evE C bb (.bi b es) ρ = bR (evL C true es ρ) fun ds => pr (biD b ds) := by rw [evE] <;> rfl
@[simp] theorem evE_22 (C : Calls) : evE C bb (.isi e t) ρ = bR (evE C true e ρ) fun x => bR (pr (isiD x t)) fun k => .ok (.bl k) := by rw [evE] <;> rfl
@[simp] theorem evE_23 (C : Calls) : evE C bb (.get1 d k) ρ = bR (evE C true d ρ) fun x => gd (isDic x = true) (bR (evE C true k ρ) fun y => bR (pr (getD1 x y)) fun o => .ok (o.getD .non)) := by rw [evE] <;> rfl
@[simp] theorem evE_24 (C : Calls) : evE C bb (.get2 d k z) ρ = bR (evE C true d ρ) fun x => gd (isDic x = true) (bR (evE C true k ρ) fun y => bR (evE C false z ρ) fun v => bR (pr (getD1 x y)) fun o => .ok (o.getD v)) := by rw [evE] <;> rfl
@[simp] theorem evE_25 (C : Calls) : evE C bb (.count o a) ρ = bR (evE C true o ρ) fun x => gd (isLst x = true) (bR (evE C true a ρ) fun y => pr (countD x y)) := by rw [evE] <;> rfl
@[simp] theorem evE_26 (C : Calls) : evE C bb (.index o a) ρ = bR (evE C true o ρ) fun x => gd (isLst x = true) (bR (evE C true a ρ) fun y => pr (indexD x y)) := by rw [evE] <;> rfl
@[simp] theorem exS_0 (C : Calls) (fr : Bool) : exS C fr (.asg i own e un) ρ = bR (evE C false e (unown un ρ)) fun d => gd (own = false ∨ (frE e = true ∧ isC d = true)) (.ok (.nx (setR (unown un ρ) i own d))) := by rw [exS] <;> rfl
@[simp] theorem exS_1 (C : Calls) (fr : Bool) : exS C fr (.asgt is e un) ρ = bR (evE C false e (unown un ρ)) fun d => bR (pr (asgP (.tup is) d (unown un ρ))) fun ρ' => .ok (.nx ρ') := by rw [exS] <;> rfl
@[simp] theorem exS_2 (C : Calls) (fr : Bool) : exS C fr (.par is es) ρ = bR (evL C false es ρ) fun ds => bR (pr (setAll is ds ρ)) fun ρ' => .ok (.nx ρ') := by rw [exS] <;> rfl
@[simp] theorem exS_3 (C : Calls) (fr : Bool) : exS C fr (.seti i k v un) ρ = gd (owned (unown un ρ) i = true) (bR (evE C false v (unown un ρ)) fun x => bR (evE C true k (unown un ρ)) fun y => bR (pr (updI (unown un ρ) i (setiD y x))) fun ρ' => .ok (.nx ρ')) := by rw [exS] <;> rfl
@[simp] theorem exS_4 (C : Calls) (fr : Bool) : exS C fr (.augi i o k v) ρ = gd (owned ρ i = true) (bR (evE C true k ρ) fun y => bR (rget ρ i) fun p => bR (pr (idxD p.2 y)) fun x => bR (evE C true v ρ) fun z => bR (pr (augD o x z)) fun u => bR (pr (updI ρ i (setiD y u))) fun ρ' => .ok (.nx ρ')) := by rw [exS] <;> rfl
@[simp] theorem exS_5 (C : Calls) (fr : Bool) : exS C fr (.aug i o e) ρ = bR (rget ρ i) fun p => bR (evE C true e ρ) fun z => bR (pr (augD o p.2 z)) fun u => .ok (.nx (setR ρ i false u)) := by rw [exS] <;> rfl
@[simp] theorem exS_6 (C : Calls) (fr : Bool) : exS C fr (.app i e un) ρ = gd (ownedL (unown un ρ) i = true) (bR (evE C false e (unown un ρ)) fun x => bR (pr (updI (unown un ρ) i (appD x))) fun ρ' => .ok (.nx ρ')) := by rw [exS] <;> rfl
@[simp] theorem exS_7 (C : Calls) (fr : Bool) : exS C fr (.ext i e) ρ = gd (ownedL ρ i = true) (bR (evE C true e ρ) fun x => bR (pr (updI ρ i (extD x))) fun ρ' => .ok (.nx ρ')) := by rw [exS] <;> rfl
@[simp] theorem exS_8 (C : Calls) (fr : Bool) : exS C fr (.inse i k e un) ρ = gd (ownedL (unown un ρ) i = true) (bR (evE C false k (unown un ρ)) fun y => bR (evE C false e (unown un ρ)) fun x => bR (pr (updI (unown un ρ) i (insD y x))) fun ρ' => .ok (.nx ρ')) := by rw [exS] <;> rfl
@[simp] theorem exS_9 (C : Calls) (fr : Bool) : exS C fr (.rem i e) ρ = gd (ownedL ρ i = true) (bR (evE C true e ρ) fun x => bR (pr (updI ρ i (remD x))) fun ρ' => .ok (.nx ρ')) := by rw [exS] <;> rfl
def popS (j i : Nat) (ρ : Rho) : D → R Out
  | .lst xs => bR (pr (popD xs)) fun q => .ok (.nx (setR (setR ρ i true (.lst q.2)) j false q.1))
  | _ => .bad
@[simp] theorem popS_l (j i : Nat) (ρ : Rho) (xs : List D) : popS j i ρ (.lst xs) = bR (pr (popD xs)) fun q => .ok (.nx (setR (setR ρ i true (.lst q.2)) j false q.1)) := rf_ rfl
@[simp] theorem exS_10 (C : Calls) (fr : Bool) : exS C fr (.pop j i) ρ = bR (rget ρ i) fun p => gd (p.1 = true) (popS j i ρ p.2) := by rw [exS] <;> rfl
@[simp] theorem exS_11 (C : Calls) (fr : Bool) : exS C fr (.xpr e un) ρ = bR (evE C false e (unown un ρ)) fun _ => .ok (.nx (unown un ρ)) := by rw [exS] <;> rfl
@[simp] theorem exS_12 (C : Calls) (fr : Bool) : exS C fr (.ret e un) ρ = bR (evE C false e (unown un ρ)) fun d => gd (fr = false ∨ frE e = true ∨ isC d = false) (.ok (.rt d)) := by rw [exS] <;> rfl
@[simp] theorem exS_13 (C : Calls) (fr : Bool) : exS C fr (.retv i) ρ = bR (rget ρ i) fun p => gd (fr = false ∨ p.1 = true ∨ isC p.2 = false) (.ok (.rt p.2)) := by rw [exS] <;> rfl
@[simp] theorem exS_14 (C : Calls) (fr : Bool) : exS C fr .ret0 ρ = (.ok (.rt .non)) := by rw [exS] <;> rfl
@[simp] theorem exS_15 (C : Calls) (fr : Bool) : exS C fr (.iff c a b) ρ = bR (evE C false c ρ) fun x => brD x (exL C fr a) (exL C fr b) ρ := by rw [exS] <;> rfl
@[simp] theorem exS_22 (C : Calls) (fr : Bool) : exS C fr (.iffu un c a b) ρ = bR (evE C false c (unown un ρ)) fun x => brD x (exL C fr a) (exL C fr b) ρ := by rw [exS] <;> rfl
@[simp] theorem exS_16 (C : Calls) (fr : Bool) : exS C fr (.for_ p s es un b) ρ = bR (evL C false es (unown un ρ)) fun ds => bR (pr (srcD s ds)) fun xs => dictX s (loopF (bodyF C fr p b) xs (unown un ρ)) := by rw [exS] <;> rfl
@[simp] theorem exS_24 (C : Calls) (fr : Bool) : exS C fr (.forx p i j un b) ρ = gd (lstAt (unown un ρ) i = true) (bR (evL C false [ixE i j] (unown un ρ)) fun ds => bR (pr (srcD .keys ds)) fun xs => dictX .keys (loopF (bodyF C fr p b) xs (unown un ρ))) := by rw [exS] <;> rfl
@[simp] theorem exS_17 (C : Calls) (fr : Bool) : exS C fr (.whl L c b) ρ = (loopW (testF C c) (bodyW C fr b) L ρ) := by rw [exS] <;> rfl
@[simp] theorem exS_18 (C : Calls) (fr : Bool) : exS C fr .never ρ = (.bad) := by rw [exS] <;> rfl
@[simp] theorem exS_19 (C : Calls) (fr : Bool) : exS C fr (.wipe is) ρ = .ok (.nx (wipeR (unown is ρ) is)) := by rw [exS] <;> rfl
def excD (c : String) (ds : List D) : R Out := match allOf intOf ds with
  | some ns => gd (ns.length = (fldsOf c).length) (.exc c (ns.map D.int))
  | none => .bad
@[simp] theorem exS_23 (C : Calls) (fr : Bool) : exS C fr (.try_ b i k su) ρ = tryR k.ls su (exL C fr b ρ) := by rw [exS] <;> rfl
/-- what a caught exception gives -/
def tryX (l : List (List String)) (su : SU) (c : String) (fs : List D) : R Out := gd (c ∈ l.flatten) (bR (pr (suD l c fs su)) fun d => .ok (.rt d))
@[simp] theorem tryR_ok (l : List (List String)) (su : SU) (o : Out) : tryR l su (.ok o) = .ok o := rf_ rfl
@[simp] theorem tryR_bad (l : List (List String)) (su : SU) : tryR l su .bad = .bad := rf_ rfl
@[simp] theorem tryR_exc (l : List (List String)) (su : SU) (c : String) (fs : List D) : tryR l su (.exc c fs) = tryX l su c fs := rf_ rfl
@[simp] theorem exS_20 (C : Calls) (fr : Bool) : exS C fr (.raise c es) ρ = bR (evL C true es ρ) fun ds => excD c ds := by rw [exS] <;> rfl
@[simp] theorem evE_comp (C : Calls) : evE C b (.comp elt p s es c) ρ = bR (evL C false es ρ) fun ds => bR (pr (srcD s ds)) fun xs => bR (pr (compL (cmpF C elt p c ρ) xs)) fun ys => gd (noOwn ρ (patL p) = true ∧ xs.length < szL) (.ok (.lst ys)) := by
  rw [evE]
  have e : (fun d => do
      let ρ' ← asgP p d (wipeR ρ (patL p))
      let k ← evC C c ρ'
      match k with
      | true => do
        let y ← evE C false elt ρ'
        return some y
      | false => return none) = cmpF C elt p c ρ := by
    funext d
    unfold cmpF
    show R.bind _ _ = R.bind _ _
    congr 1
    funext ρ'
    show R.bind _ _ = R.bind _ _
    congr 1
    funext k
    cases k <;> rfl
  rw [← e]
  rfl
@[simp] theorem evL_nil (C : Calls) : evL C b [] ρ = .ok [] := by rw [evL] <;> rfl
@[simp] theorem evL_cons (C : Calls) : evL C b (e :: es) ρ = bR (evE C b e ρ) fun d => bR (evL C b es ρ) fun ds => .ok (d :: ds) := by rw [evL] <;> rfl
@[simp] theorem evA_nil (C : Calls) : evA C [] ρ = .ok [] := by rw [evA] <;> rfl
@[simp] theorem evA_cons (C : Calls) : evA C (e :: es) ρ = bR (evE C (isV e) e ρ) fun d => bR (evA C es ρ) fun ds => .ok (d :: ds) := by rw [evA] <;> rfl
@[simp] theorem evC_none (C : Calls) : evC C none ρ = .ok true := by rw [evC] <;> rfl
@[simp] theorem evC_some (C : Calls) : evC C (some e) ρ = bR (evE C false e ρ) fun x => asB x := by rw [evC] <;> rfl
@[simp] theorem evO_none (C : Calls) : evO C none ρ = .ok none := by rw [evO] <;> rfl
def asI (x : D) : R (Option Int) := match x with
  | .int b => .ok (some b)
  | _ => .bad
@[simp] theorem asI_b (b : Int) : asI (.int b) = .ok (some b) := rf_ rfl
@[simp] theorem evO_some (C : Calls) : evO C (some e) ρ = bR (evE C false e ρ) fun x => asI x := by rw [evO] <;> rfl
@[simp] theorem evAnd_one (C : Calls) : evAnd C [e] ρ = evE C false e ρ := by rw [evAnd] <;> rfl
@[simp] theorem evAnd_cons (C : Calls) : evAnd C (e :: f :: es) ρ = bR (evE C false e ρ) fun x => brD x (evAnd C (f :: es)) (okB (.bl false)) ρ := by rw [evAnd] <;> rfl
@[simp] theorem evOr_one (C : Calls) : evOr C [e] ρ = evE C false e ρ := by rw [evOr] <;> rfl
@[simp] theorem evOr_cons (C : Calls) : evOr C (e :: f :: es) ρ = bR (evE C false e ρ) fun x => brD x (okB (.bl true)) (evOr C (f :: es)) ρ := by rw [evOr] <;> rfl
@[simp] theorem exL_nil (C : Calls) (fr : Bool) : exL C fr [] ρ = .ok (.nx ρ) := by rw [exL] <;> rfl
@[simp] theorem exL_cons (C : Calls) (fr : Bool) : exL C fr (s :: r) ρ = bR (exS C fr s ρ) fun o => oRt o (exL C fr r) := by
  rw [exL]
  show R.bind _ _ = R.bind _ _
  congr 1
@[simp] theorem loop_nil (f : D → Rho → R Out) : loopF f [] ρ = .ok (.nx ρ) := by rw [loopF] <;> rfl
theorem loop_cons (f : D → Rho → R Out) : loopF f (d :: ds) ρ = bR (f d ρ) fun o => oRt o (loopF f ds) := by
  rw [loopF]
  show R.bind _ _ = R.bind _ _
  congr 1
@[simp] theorem comp_nil (f : D → R (Option D)) : compL f [] = .ok [] := by rw [compL] <;> rfl
@[simp] theorem dictX_seq (r : R Out) : dictX .seq r = r := rf_ rfl
@[simp] theorem dictX_rng1 (r : R Out) : dictX .rng1 r = r := rf_ rfl
@[simp] theorem dictX_rng2 (r : R Out) : dictX .rng2 r = r := rf_ rfl
@[simp] theorem dictX_rng3 (r : R Out) : dictX .rng3 r = r := rf_ rfl
@[simp] theorem dictX_enum (k : Int) (r : R Out) : dictX (.enum k) r = r := rf_ rfl
@[simp] theorem dictX_zip (r : R Out) : dictX .zip r = r := rf_ rfl
@[simp] theorem dictX_sgn (r : R Out) : dictX .sgn r = r := rf_ rfl
@[simp] theorem dictX_keys (r : R Out) : dictX .keys r = pr r := rf_ rfl
@[simp] theorem dictX_items (r : R Out) : dictX .items r = pr r := rf_ rfl
@[simp] theorem bodyF_eq (C : Calls) (fr : Bool) (p : Pat) (b : List S) (d : D) (ρ : Rho) : bodyF C fr p b d ρ = bR (pr (asgP p d ρ)) fun ρ' => exL C fr b ρ' := rf_ rfl
@[simp] theorem testF_eq (C : Calls) (c : E) (ρ : Rho) : testF C c ρ = evE C false c ρ := rf_ rfl
@[simp] theorem bodyW_eq (C : Calls) (fr : Bool) (b : List S) (ρ : Rho) : bodyW C fr b ρ = exL C fr b ρ := rf_ rfl
/-! both ways of a test are joined -/
@[simp] theorem ite_ok {α : Type} (c : Prop) [Decidable c] (a b : α) : (if c then R.ok a else R.ok b) = R.ok (if c then a else b) := by split <;> rfl
@[simp] theorem ite_nx (c : Prop) [Decidable c] (a b : Rho) : (if c then Out.nx a else Out.nx b) = Out.nx (if c then a else b) := by split <;> rfl
@[simp] theorem ite_rho (c : Prop) [Decidable c] (x y : Option (Bool × D)) (xs ys : Rho) : (if c then x :: xs else y :: ys : Rho) = (if c then x else y) :: (if c then xs else ys) := by split <;> rfl
@[simp] theorem ite_slot (c : Prop) [Decidable c] (o : Bool) (x y : D) : (if c then some (o, x) else some (o, y) : Option (Bool × D)) = some (o, if c then x else y) := by split <;> rfl
@[simp] theorem ite_int (c : Prop) [Decidable c] (x y : Int) : (if c then D.int x else D.int y) = D.int (if c then x else y) := by split <;> rfl
@[simp] theorem ite_bl (c : Prop) [Decidable c] (x y : Bool) : (if c then D.bl x else D.bl y) = D.bl (if c then x else y) := by split <;> rfl
@[simp] theorem ite_lst (c : Prop) [Decidable c] (x y : List D) : (if c then D.lst x else D.lst y) = D.lst (if c then x else y) := by split <;> rfl
@[simp] theorem ite_dic (c : Prop) [Decidable c] (t : Bool) (x y : List (D × D)) : (if c then D.dic t x else D.dic t y) = D.dic t (if c then x else y) := by split <;> rfl
/-! the state's words -/
@[simp] theorem rget_eq (ρ : Rho) (i : Nat) : rget ρ i = (match ρ[i]? with
  | some (some p) => .ok p
  | _ => .bad) := rfl
@[simp] theorem setR_eq (ρ : Rho) (i : Nat) (o : Bool) (d : D) : setR ρ i o d = ρ.set i (some (o, d)) := rf_ rfl
@[simp] theorem unown_nil (ρ : Rho) : unown [] ρ = ρ := rf_ rfl
@[simp] theorem unown_cons (i : Nat) (is : List Nat) (ρ : Rho) : unown (i :: is) ρ = unown is (unown1 ρ i) := rf_ rfl
@[simp] theorem unown1_eq (ρ : Rho) (i : Nat) : unown1 ρ i = (match ρ[i]? with
  | some (some (_, d)) => ρ.set i (some (false, d))
  | _ => ρ) := rfl
@[simp] theorem wipeR_nil (ρ : Rho) : wipeR ρ [] = ρ := rf_ rfl
@[simp] theorem wipeR_cons (i : Nat) (is : List Nat) (ρ : Rho) : wipeR ρ (i :: is) = (wipeR ρ is).set i none := rf_ rfl
@[simp] theorem owned_eq (ρ : Rho) (i : Nat) : owned ρ i = (match ρ[i]? with
  | some (some (o, _)) => o
  | _ => false) := rfl
@[simp] theorem lstAt_eq (ρ : Rho) (i : Nat) : lstAt ρ i = (match ρ[i]? with
  | some (some (_, .lst _)) => true
  | _ => false) := rfl
@[simp] theorem ixE_eq (i : Nat) (j : Int) : ixE i j = .idx (.var i) (.neg (.int j)) := rf_ rfl
@[simp] theorem ownedL_eq (ρ : Rho) (i : Nat) : ownedL ρ i = (match ρ[i]? with
  | some (some (true, .lst _)) => true
  | _ => false) := rfl
@[simp] theorem updI_eq (ρ : Rho) (i : Nat) (f : D → R D) : updI ρ i f = bR (rget ρ i) fun p => gd (p.1 = true) (bR (f p.2) fun d => .ok (setR ρ i true d)) := rf_ rfl
@[simp] theorem anyOwn_nil (ρ : Rho) : anyOwn [] ρ = false := rf_ rfl
@[simp] theorem anyOwn_cons (e : E) (es : List E) (ρ : Rho) : anyOwn (e :: es) ρ = ((match e with
  | .var i => owned ρ i
  | _ => false) || anyOwn es ρ) := rfl
@[simp] theorem noOwn_nil (ρ : Rho) : noOwn ρ [] = true := rf_ rfl
@[simp] theorem noOwn_cons (i : Nat) (is : List Nat) (ρ : Rho) : noOwn ρ (i :: is) = (!owned ρ i && noOwn ρ is) := rf_ rfl
@[simp] theorem patL_one (i : Nat) : patL (.one i) = [i] := rf_ rfl
@[simp] theorem patL_tup (is : List Nat) : patL (.tup is) = is := rf_ rfl
@[simp] theorem asgP_one (i : Nat) (d : D) (ρ : Rho) : asgP (.one i) d ρ = .ok (setR ρ i false d) := rf_ rfl
@[simp] theorem asgP_tup (is : List Nat) (ds : List D) (ρ : Rho) : asgP (.tup is) (.tup ds) ρ = setAll is ds ρ := rf_ rfl
@[simp] theorem setAll_nil (ρ : Rho) : setAll [] [] ρ = .ok ρ := rf_ rfl
@[simp] theorem setAll_cons (i : Nat) (is : List Nat) (d : D) (ds : List D) (ρ : Rho) : setAll (i :: is) (d :: ds) ρ = setAll is ds (setR ρ i false d) := rf_ rfl
@[simp] theorem endR_rt (d : D) : endR (.ok (.rt d)) = .ok d := rf_ rfl
@[simp] theorem endR_nx (ρ : Rho) : endR (.ok (.nx ρ)) = .ok .non := rf_ rfl
@[simp] theorem endR_exc (c : String) (fs : List D) : endR (.exc c fs) = .exc c fs := rf_ rfl
@[simp] theorem initR_eq (fd : FD) (ds : List D) : initR fd ds = ds.map (fun d => some (false, d)) ++ List.replicate (fd.nms.length - ds.length) none := rf_ rfl
@[simp] theorem isV_var (i : Nat) : isV (.var i) = true := rf_ rfl
@[simp] theorem pr_pr {α : Type} (r : R α) : pr (pr r) = pr r := by cases r <;> rfl
end Lib
end

section
set_option autoImplicit true
set_option maxRecDepth 100000
/-! what the operators make of values; loops -/
namespace Lib
open PySem Z
@[simp] theorem bin_int (o : Bin) (i j : Int) : binD o (.int i) (.int j) = bR (binI o i j) fun k => .ok (.int k) := by cases o <;> rfl
@[simp] theorem i_add (i j : Int) : binI .add i j = .ok (i + j) := rf_ rfl
@[simp] theorem i_sub (i j : Int) : binI .sub i j = .ok (i - j) := rf_ rfl
@[simp] theorem i_mod (i j : Int) : binI .mod i j = gd (j ≠ 0) (.ok (i.fmod j)) := rf_ rfl
@[simp] theorem i_fdiv (i j : Int) : binI .fdiv i j = gd (j ≠ 0 ∧ (j.natAbs < 1073741824 ∨ j.natAbs.log2 < 9000)) (.ok (i.fdiv j)) := rf_ rfl
@[simp] theorem i_mul (i j : Int) : binI .mul i j = gd (small i = true ∨ small j = true) (.ok (i * j)) := rf_ rfl
@[simp] theorem i_pow (i j : Int) : binI .pow i j = gd (0 ≤ j ∧ j ≤ 1000000 ∧ i.natAbs < 2 ^ 64) (.ok (i ^ j.toNat)) := rf_ rfl
@[simp] theorem i_shl (i j : Int) : binI .shl i j = gd (0 ≤ j ∧ j ≤ 1000000 ∧ i.natAbs < 2 ^ 64) (.ok (i * 2 ^ j.toNat)) := rf_ rfl
@[simp] theorem i_shr (i j : Int) : binI .shr i j = gd (0 ≤ j) (.ok (i / 2 ^ j.toNat)) := rf_ rfl
@[simp] theorem i_band (i j : Int) : binI .band i j = .ok (Builtin.bitAnd i j) := rf_ rfl
@[simp] theorem i_bxor (i j : Int) : binI .bxor i j = .ok (Builtin.bitXor i j) := rf_ rfl
@[simp] theorem bin_tup (xs ys : List D) : binD .add (.tup xs) (.tup ys) = gd (xs.length + ys.length ≤ szL) (.ok (.tup (xs ++ ys))) := rf_ rfl
@[simp] theorem bin_lst (xs ys : List D) : binD .add (.lst xs) (.lst ys) = gd (xs.length + ys.length ≤ szL) (.ok (.lst (xs ++ ys))) := rf_ rfl
@[simp] theorem bin_str (xs ys : Str) : binD .add (.str xs) (.str ys) = gd (xs.length + ys.length ≤ szL) (.ok (.str (xs ++ ys))) := rf_ rfl
@[simp] theorem mul_lst (xs : List D) (k : Int) : binD .mul (.lst xs) (.int k) = gd (k ≤ 1000 ∧ -1000 ≤ k ∧ xs.length ≤ 1000) (.ok (.lst (List.replicate k.toNat xs).flatten)) := rf_ rfl
@[simp] theorem mul_tup (xs : List D) (k : Int) : binD .mul (.tup xs) (.int k) = gd (-1000 ≤ k ∧ k ≤ 1000 ∧ xs.length ≤ 1000 ∧ xs ≠ []) (.ok (.tup (List.replicate k.toNat xs).flatten)) := rf_ rfl
@[simp] theorem cmp_lt (i j : Int) : cmpD .lt (.int i) (.int j) = .ok (decide (i < j)) := rf_ rfl
@[simp] theorem cmp_le (i j : Int) : cmpD .le (.int i) (.int j) = .ok (decide (i ≤ j)) := rf_ rfl
@[simp] theorem cmp_gt (i j : Int) : cmpD .gt (.int i) (.int j) = .ok (decide (j < i)) := rf_ rfl
@[simp] theorem cmp_ge (i j : Int) : cmpD .ge (.int i) (.int j) = .ok (decide (j ≤ i)) := rf_ rfl
@[simp] theorem cmp_eq (x y : D) : cmpD .eq x y = eqR x y := rf_ rfl
@[simp] theorem cmp_ne (x y : D) : cmpD .ne x y = bR (eqR x y) fun k => .ok (!k) := rf_ rfl
@[simp] theorem cmp_is (x y : D) : cmpD .is x y = isD x y := rf_ rfl
@[simp] theorem cmp_isn (x y : D) : cmpD .isn x y = bR (isD x y) fun k => .ok (!k) := rf_ rfl
@[simp] theorem cmp_in (x y : D) : cmpD .in_ x y = inD x y := rf_ rfl
@[simp] theorem cmp_nin (x y : D) : cmpD .nin x y = bR (inD x y) fun k => .ok (!k) := rf_ rfl
@[simp] theorem is_non (x : D) : isD x .non = .ok (match x with | .non => true | _ => false) := by cases x <;> rfl
@[simp] theorem is_bl (a b : Bool) : isD (.bl a) (.bl b) = .ok (a == b) := rf_ rfl
theorem eqR_def (x y : D) : eqR x y = gd (plD 20 x = true ∧ plD 20 y = true) (.ok (eqD x y)) := rfl
@[simp] theorem eqR_int (i j : Int) : eqR (.int i) (.int j) = .ok (decide (i = j)) := by
  show gd _ (.ok (i == j)) = _
  rw [gd_pos ⟨rfl, rfl⟩, Bool.beq_eq_decide_eq]
@[simp] theorem eqR_bl (i j : Bool) : eqR (.bl i) (.bl j) = .ok (i == j) := by
  show gd _ (.ok (i == j)) = _
  rw [gd_pos ⟨rfl, rfl⟩]
@[simp] theorem eqR_str (i j : Str) : eqR (.str i) (.str j) = .ok (i == j) := by
  show gd _ (.ok (i == j)) = _
  rw [gd_pos ⟨rfl, rfl⟩]
@[simp] theorem eqR_ints (i j : List Int) : eqR (.tup (i.map D.int)) (.tup (j.map D.int)) = .ok (decide (i = j)) := by
  rw [eqR_def]
  simp only [plD, plL_ints, eqD, eqL_ints]
  rfl
@[simp] theorem eqR_intsL (i j : List Int) : eqR (.lst (i.map D.int)) (.lst (j.map D.int)) = .ok (decide (i = j)) := by
  rw [eqR_def]
  simp only [plD, plL_ints, eqD, eqL_ints]
  rfl
@[simp] theorem in_tup_def (x : D) (ys : List D) : inD x (.tup ys) = gd (plD 20 x = true ∧ plL 19 ys = true) (.ok (ys.any fun z => eqD z x)) := rf_ rfl
@[simp] theorem in_lst_def (x : D) (ys : List D) : inD x (.lst ys) = gd (plD 20 x = true ∧ plL 19 ys = true) (.ok (ys.any fun z => eqD z x)) := rf_ rfl
@[simp] theorem in_dic_def (x : D) (t : Bool) (ys : List (D × D)) : inD x (.dic t ys) = gd (keyFit t x = true) (.ok (dget ys x).isSome) := rf_ rfl
@[simp] theorem cmp_leT (i j : List Int) : cmpD .le (.tup (i.map D.int)) (.tup (j.map D.int)) = .ok (lexLe i j) := by
  show (match allOf intOf (i.map D.int), allOf intOf (j.map D.int) with
    | some a, some b => R.ok (lexLe a b)
    | _, _ => .bad) = _
  rw [ints_all, ints_all]
@[simp] theorem idx_tup (xs : List D) (k : Int) : idxD (.tup xs) (.int k) = oR (atI xs k) := rf_ rfl
@[simp] theorem idx_lst (xs : List D) (k : Int) : idxD (.lst xs) (.int k) = oR (atI xs k) := rf_ rfl
@[simp] theorem idx_fls (xs : List D) (k : Int) : idxD (.fls xs) (.int k) = oR (atI xs k) := rf_ rfl
@[simp] theorem idx_dic (t : Bool) (kvs : List (D × D)) (k : D) : idxD (.dic t kvs) k = gd (keyFit t k = true) (oR (dget kvs k)) := rf_ rfl
@[simp] theorem oR_some {α : Type} (a : α) : oR (some a) = .ok a := rf_ rfl
@[simp] theorem oR_none {α : Type} : oR (none : Option α) = .bad := rf_ rfl
theorem oR_map {α β : Type} (f : α → β) (o : Option α) : oR (o.map f) = bR (oR o) fun a => .ok (f a) := by cases o <;> rfl
theorem at_nat {α : Type} (xs : List α) (k : Nat) : atI xs (k : Int) = xs[k]? := by
  unfold atI L2.atI L2.ixN
  rw [if_pos (Int.natCast_nonneg k)]
  by_cases h : k < xs.length
  · rw [if_pos (by omega)]; rfl
  · rw [if_neg (by omega), List.getElem?_eq_none (by omega)]; rfl
theorem at_map {α β : Type} (f : α → β) (xs : List α) (k : Int) : atI (xs.map f) k = (atI xs k).map f := by
  unfold atI L2.atI
  rw [List.length_map]
  cases L2.ixN xs.length k with
  | none => rfl
  | some j => show (xs.map f)[j]? = _; rw [List.getElem?_map]; rfl
theorem at_pos {α : Type} {xs : List α} {k : Int} (h : 0 ≤ k) : atI xs k = xs[k.toNat]? := by
  obtain ⟨j, rfl⟩ := Int.eq_ofNat_of_zero_le h
  exact at_nat xs j
theorem at_get {α : Type} {xs : List α} {k : Int} (h : 0 ≤ k) (h2 : k < xs.length) : atI xs k = some (xs[k.toNat]'(by omega)) := by
  rw [at_pos h, List.getElem?_eq_getElem]
theorem at_last {α : Type} (xs : List α) (x : α) : atI (xs ++ [x]) (-1) = some x := by
  unfold atI L2.atI L2.ixN
  have e : ((xs ++ [x]).length : Int) = xs.length + 1 := by simp
  rw [if_neg (by decide), if_pos (by omega)]
  have e2 : ((-1 : Int) + ((xs ++ [x]).length : Int)).toNat = xs.length := by omega
  show (xs ++ [x])[((-1 : Int) + ((xs ++ [x]).length : Int)).toNat]? = _
  rw [e2]
  simp
@[simp] theorem at_0 {α : Type} (x : α) (r : List α) : atI (x :: r) 0 = some x := at_nat (x :: r) 0
@[simp] theorem at_1 {α : Type} (x y : α) (r : List α) : atI (x :: y :: r) 1 = some y := at_nat (x :: y :: r) 1
@[simp] theorem at_2 {α : Type} (x y z : α) (r : List α) : atI (x :: y :: z :: r) 2 = some z := at_nat (x :: y :: z :: r) 2
@[simp] theorem at_m1 {α : Type} (x : α) : atI [x] (-1) = some x := at_last [] x
@[simp] theorem len_tup (xs : List D) : biD .len [.tup xs] = .ok (.int xs.length) := rf_ rfl
@[simp] theorem len_lst (xs : List D) : biD .len [.lst xs] = .ok (.int xs.length) := rf_ rfl
@[simp] theorem len_fls (xs : List D) : biD .len [.fls xs] = .ok (.int xs.length) := rf_ rfl
@[simp] theorem len_dic (t : Bool) (xs : List (D × D)) : biD .len [.dic t xs] = .ok (.int xs.length) := rf_ rfl
@[simp] theorem tuple_lst (xs : List D) : biD .tuple [.lst xs] = .ok (.tup xs) := rf_ rfl
@[simp] theorem tuple_tup (xs : List D) : biD .tuple [.tup xs] = .ok (.tup xs) := rf_ rfl
@[simp] theorem list_lst (xs : List D) : biD .list [.lst xs] = .ok (.lst xs) := rf_ rfl
@[simp] theorem list_tup (xs : List D) : biD .list [.tup xs] = .ok (.lst xs) := rf_ rfl
@[simp] theorem min2_i (i j : Int) : biD .min2 [.int i, .int j] = .ok (.int (if j < i then j else i)) := rf_ rfl
@[simp] theorem max2_i (i j : Int) : biD .max2 [.int i, .int j] = .ok (.int (if j > i then j else i)) := rf_ rfl
@[simp] theorem sum_lst (xs : List D) : biD .sum [.lst xs] = sumD xs := rf_ rfl
@[simp] theorem sum_tup (xs : List D) : biD .sum [.tup xs] = sumD xs := rf_ rfl
@[simp] theorem sumvals_d (kvs : List (D × D)) : biD .sumvals [.dic false kvs] = sumD (kvs.map (·.2)) := rf_ rfl
@[simp] theorem maxvals_d (kvs : List (D × D)) : biD .maxvals [.dic false kvs] = maxD (kvs.map (·.2)) := rf_ rfl
@[simp] theorem sorted_lst (xs : List D) : biD .sorted [.lst xs] = bR (sortD xs) fun ds => .ok (.lst ds) := rf_ rfl
@[simp] theorem sorted_tup (xs : List D) : biD .sorted [.tup xs] = bR (sortD xs) fun ds => .ok (.lst ds) := rf_ rfl
@[simp] theorem sorted_dic (t : Bool) (kvs : List (D × D)) : biD .sorted [.dic t kvs] = bR (sortD (kvs.map (·.1))) fun ds => .ok (.lst ds) := rf_ rfl
@[simp] theorem all_lst (xs : List D) : biD .all [.lst xs] = (match allOf blOf xs with
    | some bs => .ok (.bl (bs.all id))
    | none => .bad) := rfl
@[simp] theorem max_lst (xs : List D) : biD .max [.lst xs] = maxD xs := rf_ rfl
@[simp] theorem max_tup (xs : List D) : biD .max [.tup xs] = maxD xs := rf_ rfl
@[simp] theorem min_lst (xs : List D) : biD .min [.lst xs] = minD xs := rf_ rfl
@[simp] theorem min_tup (xs : List D) : biD .min [.tup xs] = minD xs := rf_ rfl
@[simp] theorem minT_lst (xs : List D) : biD .minT [.lst xs] = minT xs := rf_ rfl
@[simp] theorem abs_int (i : Int) : biD .abs [.int i] = .ok (.int (if i < 0 then -i else i)) := rf_ rfl
@[simp] theorem listrng_i (j : Int) : biD .listrng [.int j] = gd (big62 j = true ∧ j ≤ 1000000) (.ok (.lst (rngL 0 j.toNat 1))) := rf_ rfl
@[simp] theorem isi_int (i : Int) (t : Ty) : isiD (.int i) t = .ok (match t with | .int => true | _ => false) := by cases t <;> rfl
@[simp] theorem isi_bl (i : Bool) (t : Ty) : isiD (.bl i) t = .ok (match t with | .int => true | .bool => true | _ => false) := by cases t <;> rfl
@[simp] theorem isi_tup (i : List D) (t : Ty) : isiD (.tup i) t = .ok (match t with | .tup => true | _ => false) := by cases t <;> rfl
@[simp] theorem isi_lst (i : List D) (t : Ty) : isiD (.lst i) t = .ok (match t with | .lst => true | _ => false) := by cases t <;> rfl
@[simp] theorem isi_non (t : Ty) : isiD .non t = .ok false := by cases t <;> rfl
@[simp] theorem isi_str (x : Str) (t : Ty) : isiD (.str x) t = .ok (match t with | .str => true | _ => false) := by cases t <;> rfl
@[simp] theorem src_lst (xs : List D) : srcD .seq [.lst xs] = .ok xs := rf_ rfl
@[simp] theorem src_tup (xs : List D) : srcD .seq [.tup xs] = .ok xs := rf_ rfl
@[simp] theorem src_fls (xs : List D) : srcD .seq [.fls xs] = .ok xs := rf_ rfl
@[simp] theorem src_keys (t : Bool) (kvs : List (D × D)) : srcD .keys [.dic t kvs] = .ok (kvs.map (·.1)) := rf_ rfl
@[simp] theorem src_items (kvs : List (D × D)) : srcD .items [.dic false kvs] = .ok (kvs.map fun p => .tup [p.1, p.2]) := rf_ rfl
@[simp] theorem src_enum (xs : List D) : srcD (.enum 0) [.lst xs] = .ok (xs.zipIdx.map fun p => .tup [.int p.2, p.1]) := by simp [srcD]
@[simp] theorem src_rng1 (j : Int) : srcD .rng1 [.int j] = gd (big62 j = true ∧ j ≤ 1000000) (.ok (rngL 0 j.toNat 1)) := rf_ rfl
@[simp] theorem src_rng2 (i j : Int) : srcD .rng2 [.int i, .int j] = gd (big62 i = true ∧ big62 j = true ∧ j - i ≤ 1000000) (.ok (rngL i (j - i).toNat 1)) := rf_ rfl
@[simp] theorem src_zipL (xs ys : List D) : srcD .zip [.lst xs, .lst ys] = .ok ((xs.zip ys).map fun p => .tup [p.1, p.2]) := rf_ rfl
@[simp] theorem src_zipT (xs ys : List D) : srcD .zip [.tup xs, .tup ys] = .ok ((xs.zip ys).map fun p => .tup [p.1, p.2]) := rf_ rfl
@[simp] theorem slc_lst (xs : List D) (l h : Option Int) : slcD (.lst xs) l h = .ok (.lst (cut xs l h)) := rf_ rfl
@[simp] theorem slc_tup (xs : List D) (l h : Option Int) : slcD (.tup xs) l h = .ok (.tup (cut xs l h)) := rf_ rfl
@[simp] theorem slc_fls (xs : List D) (l h : Option Int) : slcD (.fls xs) l h = .ok (.lst (cut xs l h)) := rf_ rfl
@[simp] theorem rev_lst (xs : List D) : revD (.lst xs) = .ok (.lst xs.reverse) := rf_ rfl
@[simp] theorem rev_tup (xs : List D) : revD (.tup xs) = .ok (.tup xs.reverse) := rf_ rfl
@[simp] theorem app_lst (v : D) (xs : List D) : appD v (.lst xs) = gd (xs.length < szL) (.ok (.lst (xs ++ [v]))) := rf_ rfl
@[simp] theorem ext_lst (ys xs : List D) : extD (.lst ys) (.lst xs) = gd (xs.length + ys.length ≤ szL) (.ok (.lst (xs ++ ys))) := rf_ rfl
@[simp] theorem seti_dic (k v : D) (t : Bool) (kvs : List (D × D)) : setiD k v (.dic t kvs) = gd (keyFit t k = true ∧ kvs.length < szL) (.ok (.dic t (dput kvs k v))) := rf_ rfl
theorem ixN_pos {n : Nat} {j : Int} (h : 0 ≤ j) (h2 : j < n) : ixN n j = some j.toNat := by
  show L2.ixN n j = _
  unfold L2.ixN
  rw [if_pos h, if_pos h2]
theorem seti_lst (j : Int) (v : D) (xs : List D) : setiD (.int j) v (.lst xs) = bR (oR (ixN xs.length j)) fun m => .ok (.lst (xs.set m v)) := by
  show (match ixN xs.length j with
      | some m => R.ok (D.lst (xs.set m v))
      | none => .bad) = _
  cases ixN xs.length j <;> rfl
theorem seti_pos {j : Int} (v : D) {xs : List D} (h : 0 ≤ j) (h2 : j < xs.length) : setiD (.int j) v (.lst xs) = .ok (.lst (xs.set j.toNat v)) := by
  rw [seti_lst, ixN_pos h h2]
  rfl
@[simp] theorem aug_add (i j : Int) : augD .add (.int i) (.int j) = .ok (.int (i + j)) := rf_ rfl
@[simp] theorem aug_sub (i j : Int) : augD .sub (.int i) (.int j) = .ok (.int (i - j)) := rf_ rfl
@[simp] theorem get_dic (t : Bool) (kvs : List (D × D)) (k : D) : getD1 (.dic t kvs) k = gd (keyFit t k = true) (.ok (dget kvs k)) := rf_ rfl
@[simp] theorem isDic_d (t : Bool) (kvs : List (D × D)) : isDic (.dic t kvs) = true := rf_ rfl
@[simp] theorem isLst_d (kvs : List D) : isLst (.lst kvs) = true := rf_ rfl
@[simp] theorem kf_int (i : Int) : keyFit false (.int i) = true := rf_ rfl
@[simp] theorem kf_str (i : Str) : keyFit false (.str i) = true := rf_ rfl
@[simp] theorem kf_tup (i : List Int) : keyFit true (.tup (i.map D.int)) = true := by
  show ((allOf intOf (i.map D.int)).isSome && _) = true
  rw [ints_all]
  rfl
@[simp] theorem kf_two (i j : Int) : keyFit true (.tup [.int i, .int j]) = true := rf_ rfl
@[simp] theorem ic_int (i : Int) : isC (.int i) = false := rf_ rfl
@[simp] theorem ic_bl (i : Bool) : isC (.bl i) = false := rf_ rfl
@[simp] theorem ic_non : isC .non = false := rf_ rfl
@[simp] theorem ic_str (x : Str) : isC (.str x) = false := rf_ rfl
@[simp] theorem ic_tup (i : List D) : isC (.tup i) = false := rf_ rfl
@[simp] theorem ic_lst (i : List D) : isC (.lst i) = true := rf_ rfl
@[simp] theorem ic_dic (t : Bool) (i : List (D × D)) : isC (.dic t i) = true := rf_ rfl
@[simp] theorem pu_int (i : Int) : pureD (.int i) = true := rf_ rfl
@[simp] theorem pu_bl (i : Bool) : pureD (.bl i) = true := rf_ rfl
@[simp] theorem pu_non : pureD .non = true := rf_ rfl
@[simp] theorem pu_str (x : Str) : pureD (.str x) = true := rf_ rfl
@[simp] theorem pu_tup (ds : List D) : pureD (.tup ds) = pureL ds := rf_ rfl
@[simp] theorem pu_nil : pureL [] = true := rf_ rfl
@[simp] theorem pu_cons (d : D) (ds : List D) : pureL (d :: ds) = (pureD d && pureL ds) := rf_ rfl
@[simp] theorem pu_ints : ∀ ns : List Int, pureL (ns.map D.int) = true
  | [] => rfl
  | _ :: ns => pu_ints ns
@[simp] theorem fe_var (i : Nat) : frE (.var i) = false := rf_ rfl
@[simp] theorem fe_idx (a i : E) : frE (.idx a i) = false := rf_ rfl
@[simp] theorem fe_lst (es : List E) : frE (.lst es) = true := rf_ rfl
@[simp] theorem fe_tup (es : List E) : frE (.tup es) = true := rf_ rfl
@[simp] theorem fe_bin (o : Bin) (a b : E) : frE (.bin o a b) = true := rf_ rfl
@[simp] theorem fe_dsp (t : Bool) (a b : E) : frE (.dsp t a b) = true := rf_ rfl
@[simp] theorem fe_dct0 (t : Bool) : frE (.dct0 t) = true := rf_ rfl
@[simp] theorem fe_slc (a : E) (l h : Option E) : frE (.slc a l h) = true := rf_ rfl
@[simp] theorem fe_rev (a : E) : frE (.rev a) = true := rf_ rfl
@[simp] theorem fe_comp (a : E) (p : Pat) (s : Src) (es : List E) (c : Option E) : frE (.comp a p s es c) = true := rf_ rfl
@[simp] theorem fe_bi (b : Bi) (es : List E) : frE (.bi b es) = (match b with | .minT => false | _ => true) := by cases b <;> rfl
@[simp] theorem fe_ife (c a b : E) : frE (.ife c a b) = (frE a && frE b) := rf_ rfl
@[simp] theorem fe_non : frE .non = true := rf_ rfl
@[simp] theorem fe_bl (b : Bool) : frE (.bl b) = true := rf_ rfl
@[simp] theorem fe_int (b : Int) : frE (.int b) = true := rf_ rfl
@[simp] theorem fe_call (k : Nat) (fr : Bool) (es : List E) : frE (.call k fr es) = fr := rf_ rfl
@[simp] theorem sum_ints (hs : List Int) : sumD (hs.map D.int) = .ok (.int hs.sum) := by unfold sumD; rw [ints_all]
theorem small_of {i : Int} (h : 0 ≤ i) (h2 : i < 2147483648) : small i = true := by
  unfold small
  simp
  omega
theorem small_le {i : Int} (h : -1000000000000 ≤ i) (h2 : i ≤ 1000000000000) : small i = true := by
  unfold small
  simp
  omega
theorem big_of {i : Int} (h : -1000000000000 ≤ i) (h2 : i < 1000000000000) : big62 i = true := by
  unfold big62
  simp
  omega
/-! loops -/
theorem loop_fold {σ α : Type} (e : α → D) (r : σ → Rho) (g : σ → α → σ) (I : σ → Prop) {f : D → Rho → R Out} : ∀ (xs : List α) (s : σ), I s → (∀ s, ∀ x ∈ xs, I s → f (e x) (r s) = .ok (.nx (r (g s x))) ∧ I (g s x)) →
    loopF f (xs.map e) (r s) = .ok (.nx (r (xs.foldl g s))) ∧ I (xs.foldl g s)
  | [], s, h, _ => ⟨rfl, h⟩
  | x :: xs, s, h, k => by
    obtain ⟨k1, k2⟩ := k s x (List.mem_cons_self ..) h
    obtain ⟨i1, i2⟩ := loop_fold e r g I xs (g s x) k2 fun s y hy => k s y (List.mem_cons_of_mem _ hy)
    refine ⟨?_, i2⟩
    rw [List.map_cons, loop_cons, k1, bR_ok, oRt_nx, i1]
    rfl
/-- a loop that tests, and changes nothing -/
theorem loop_test {α : Type} (e : α → D) (p : α → Bool) (d : D) (ρ : Rho) {f : D → Rho → R Out} : ∀ (xs : List α), (∀ x ∈ xs, f (e x) ρ = if p x = true then .ok (.nx ρ) else .ok (.rt d)) →
    loopF f (xs.map e) ρ = if xs.all p = true then .ok (.nx ρ) else .ok (.rt d)
  | [], _ => rfl
  | x :: xs, k => by
    rw [List.map_cons, loop_cons, k x (List.mem_cons_self ..), List.all_cons]
    cases p x with
    | false => rfl
    | true =>
      rw [if_pos rfl, bR_ok, oRt_nx, loop_test e p d ρ xs fun y hy => k y (List.mem_cons_of_mem _ hy), Bool.true_and]
/-- an invariant over the turns -/
theorem loop_inv {α : Type} (e : α → D) (I : List α → Rho → Prop) {f : D → Rho → R Out} : ∀ (xs done : List α) (ρ : Rho), I done ρ → (∀ pre x post ρ, done ++ xs = pre ++ x :: post → done.length ≤ pre.length → I pre ρ → ∃ ρ', f (e x) ρ = .ok (.nx ρ') ∧ I (pre ++ [x]) ρ') →
    ∃ ρ', loopF f (xs.map e) ρ = .ok (.nx ρ') ∧ I (done ++ xs) ρ'
  | [], done, ρ, h, _ => ⟨ρ, rfl, by rw [List.append_nil]; exact h⟩
  | x :: xs, done, ρ, h, k => by
    obtain ⟨ρ', k1, k2⟩ := k done x xs ρ rfl (Nat.le_refl _) h
    obtain ⟨ρ2, i1, i2⟩ := loop_inv e I xs (done ++ [x]) ρ' k2 fun pre y post ρ h1 h2 => k pre y post ρ (by rw [← h1, List.append_assoc]; rfl) (by rw [List.length_append] at h2; omega)
    refine ⟨ρ2, ?_, by rw [List.append_assoc] at i2; exact i2⟩
    rw [List.map_cons, loop_cons, k1, bR_ok, oRt_nx, i1]
theorem loopW_succ (c : Rho → R D) (f : Rho → R Out) (k : Nat) (ρ : Rho) : loopW c f (k + 1) ρ = bR (c ρ) fun x => brV x (bR (f ρ) fun o => oRt o (loopW c f k)) (.ok (.nx ρ)) := by
  rw [loopW]
  show R.bind _ _ = R.bind _ _
  congr 1
/-- a while with a measure -/
theorem while_inv {σ : Type} (r : σ → Rho) (I : σ → Prop) (m : σ → Nat) {c : Rho → R D} {f : Rho → R Out} (hc : ∀ s, I s → ∃ b : Bool, c (r s) = .ok (.bl b) ∧ (b = true → ∃ s', f (r s) = .ok (.nx (r s')) ∧ I s' ∧ m s' < m s)) :
    ∀ (L : Nat) (s : σ), I s → m s < L → ∃ s', loopW c f L (r s) = .ok (.nx (r s')) ∧ I s' ∧ c (r s') = .ok (.bl false)
  | 0, s, _, h => by omega
  | L + 1, s, hs, h => by
    obtain ⟨b, h1, h2⟩ := hc s hs
    rw [loopW_succ, h1, bR_ok]
    cases b with
    | false => exact ⟨s, rfl, hs, h1⟩
    | true =>
      obtain ⟨s', k1, k2, k3⟩ := h2 rfl
      obtain ⟨s2, i1, i2⟩ := while_inv r I m hc L s' k2 (by omega)
      exact ⟨s2, by rw [brV_t, k1, bR_ok, oRt_nx, i1], i2⟩
/-! comprehensions -/
theorem compL_cons (f : D → R (Option D)) (d : D) (ds : List D) : compL f (d :: ds) = bR (f d) fun o => bR (compL f ds) fun r => .ok (o.toList ++ r) := by
  rw [compL]
  show R.bind _ _ = R.bind _ _
  congr 1
  funext o
  cases o <;> rfl
theorem compL_map {α β : Type} (e : α → D) (e' : β → D) (g : α → Option β) {f : D → R (Option D)} : ∀ (xs : List α), (∀ x ∈ xs, f (e x) = .ok ((g x).map e')) → compL f (xs.map e) = .ok ((xs.filterMap g).map e')
  | [], _ => rfl
  | x :: xs, h => by
    rw [List.map_cons, compL_cons, h x (List.mem_cons_self ..), bR_ok, compL_map e e' g xs fun y hy => h y (List.mem_cons_of_mem _ hy), bR_ok, List.filterMap_cons]
    cases g x <;> rfl
/-- .. that keeps all -/
theorem compL_all {α β : Type} (e : α → D) (e' : β → D) (g : α → β) {f : D → R (Option D)} (xs : List α) (h : ∀ x ∈ xs, f (e x) = .ok (some (e' (g x)))) : compL f (xs.map e) = .ok ((xs.map g).map e') := by
  rw [compL_map e e' (fun x => some (g x)) xs h]
  congr 2
  induction xs with
  | nil => rfl
  | cons a b ih => rw [List.filterMap_cons, List.map_cons, ih fun x hx => h x (List.mem_cons_of_mem _ hx)]
/-- .. that keeps some as they are -/
theorem compL_some {α : Type} (e : α → D) (p : α → Bool) {f : D → R (Option D)} : ∀ (xs : List α), (∀ x ∈ xs, f (e x) = .ok (if p x = true then some (e x) else none)) → compL f (xs.map e) = .ok ((xs.filter p).map e)
  | [], _ => rfl
  | x :: xs, h => by
    rw [List.map_cons, compL_cons, h x (List.mem_cons_self ..), bR_ok, compL_some e p xs fun y hy => h y (List.mem_cons_of_mem _ hy), bR_ok, List.filter_cons]
    cases p x <;> rfl
/-! ranges -/
theorem rngL_eq (lo : Int) (n : Nat) : rngL lo n 1 = (List.range n).map fun k => D.int (lo + (k : Nat)) := by
  unfold rngL
  apply List.map_congr_left
  intro k _
  rw [Int.mul_one]
theorem rngL_0 (n : Nat) : rngL 0 n 1 = (List.range n).map fun (k : Nat) => D.int (k : Nat) := by
  rw [rngL_eq]
  apply List.map_congr_left
  intro k _
  rw [Int.zero_add]
/-! slices -/
theorem cut_1 {α : Type} (xs : List α) : cut xs (some 1) none = xs.drop 1 := by
  unfold cut
  rw [show HT.sIx xs.length 0 (some 1) = min 1 xs.length from HT.sIx_nat xs.length 0 1, HT.sIx_none]
  cases xs with
  | nil => rfl
  | cons x r =>
    have e : min 1 (x :: r).length = 1 := by rw [List.length_cons]; omega
    rw [e]
    simp
theorem cut_m1 {α : Type} (xs : List α) : cut xs none (some (-1)) = xs.dropLast := by
  unfold cut HT.sIx
  simp only [Int.reduceNeg, Int.reduceLT, if_true, List.drop_zero, Nat.sub_zero]
  rw [List.dropLast_eq_take]
  congr 1
  omega
theorem cut_to {α : Type} (xs : List α) (k : Nat) : cut xs none (some (k : Int)) = xs.take k := by
  unfold cut
  rw [HT.sIx_nat, HT.sIx_none]
  simp only [List.drop_zero, Nat.sub_zero]
  by_cases h : k ≤ xs.length
  · rw [Nat.min_eq_left h]
  · rw [Nat.min_eq_right (by omega), List.take_of_length_le (Nat.le_refl _), List.take_of_length_le (by omega)]
theorem cut_from {α : Type} (xs : List α) (k : Nat) : cut xs (some (k : Int)) none = xs.drop k := by
  unfold cut
  rw [HT.sIx_nat, HT.sIx_none]
  by_cases h : k ≤ xs.length
  · rw [Nat.min_eq_left h, List.take_of_length_le (by rw [List.length_drop]; omega)]
  · rw [Nat.min_eq_right (by omega)]
    show (xs.drop xs.length).take (xs.length - xs.length) = _
    rw [List.drop_of_length_le (Nat.le_refl _), List.drop_of_length_le (by omega)]
    simp
theorem cut_both {α : Type} (xs : List α) (j k : Nat) : cut xs (some (j : Int)) (some (k : Int)) = (xs.drop j).take (k - j) := by
  unfold cut
  rw [HT.sIx_nat, HT.sIx_nat]
  show (xs.drop (min j xs.length)).take (min k xs.length - min j xs.length) = _
  by_cases h : j ≤ xs.length
  · rw [Nat.min_eq_left h]
    by_cases h2 : k ≤ xs.length
    · rw [Nat.min_eq_left h2]
    · rw [Nat.min_eq_right (by omega), List.take_of_length_le (by rw [List.length_drop]; omega), List.take_of_length_le (by rw [List.length_drop]; omega)]
  · rw [Nat.min_eq_right (by omega : xs.length ≤ j), List.drop_of_length_le (Nat.le_refl _), List.drop_of_length_le (by omega)]
    simp
theorem cut_map {α β : Type} (f : α → β) (xs : List α) (lo hi : Option Int) : cut (xs.map f) lo hi = (cut xs lo hi).map f := by
  unfold cut
  simp only [List.length_map, List.map_take, List.map_drop]
end Lib
end

namespace Lib
open PySem Z
def tblG : List (Nat × FD) := [(0, F0_is_whole),
  (1, F1_is_from),
  (2, F2_is_two),
  (3, F3_web_good),
  (5, F5_law_pairs),
  (6, F6_law_stir),
  (7, F7_law_web_by),
  (12, F12_law_same),
  (17, F17_need_web),
  (18, F18_need_place),
  (19, F19_near),
  (21, F21_fars),
  (22, F22_far),
  (30, F30_law_joined_by),
  (45, F45_need_number),
  (46, F46_need_few),
  (47, F47_heap_good),
  (48, F48_need_heap),
  (49, F49_is_step),
  (50, F50_all_steps),
  (51, F51_done),
  (53, F53_may_step),
  (55, F55_first_wrong),
  (56, F56_heaps_behind),
  (58, F58_steps_wrong),
  (59, F59_brings),
  (60, F60_all_behind),
  (61, F61_need_searched),
  (62, F62_most_at),
  (63, F63_steps_to),
  (64, F64_reach),
  (65, F65_reached),
  (66, F66_closed_holds),
  (67, F67_closed_for),
  (90, F90_law_heap_by),
  (99, F99_law_may),
  (101, F101_law_moved),
  (102, F102_law_end),
  (103, F103_law_steps),
  (107, F107_law_whole),
  (108, F108_law_is_step),
  (109, F109_law_wrong),
  (110, F110_law_steps),
  (111, F111_law_otherwise),
  (112, F112_law_refused),
  (131, F131_divisor),
  (132, F132_lowest),
  (133, F133_worth_of),
  (134, F134_worth_at),
  (135, F135_at_most),
  (136, F136_law_cell_at),
  (137, F137_law_web_by),
  (138, F138_law_heap_by),
  (139, F139_law_fars),
  (140, F140_law_lowest),
  (141, F141_law_worth),
  (143, F143_are_weights),
  (144, F144_sum_by),
  (145, F145_bars),
  (150, F150_weights_by_far),
  (151, F151_far_weights),
  (152, F152_bar_for),
  (154, F154_law_behind),
  (155, F155_law_most_there),
  (197, F197_law_behind)]
def PG : Prg := ⟨fun k => (tblG.find? fun p => p.1 == k).map (·.2), [], [], []⟩
theorem g0 : PG.fn 0 = some F0_is_whole := rfl
theorem g1 : PG.fn 1 = some F1_is_from := rfl
theorem g2 : PG.fn 2 = some F2_is_two := rfl
theorem g3 : PG.fn 3 = some F3_web_good := rfl
theorem g5 : PG.fn 5 = some F5_law_pairs := rfl
theorem g6 : PG.fn 6 = some F6_law_stir := rfl
theorem g7 : PG.fn 7 = some F7_law_web_by := rfl
theorem g12 : PG.fn 12 = some F12_law_same := rfl
theorem g17 : PG.fn 17 = some F17_need_web := rfl
theorem g18 : PG.fn 18 = some F18_need_place := rfl
theorem g19 : PG.fn 19 = some F19_near := rfl
theorem g21 : PG.fn 21 = some F21_fars := rfl
theorem g22 : PG.fn 22 = some F22_far := rfl
theorem g30 : PG.fn 30 = some F30_law_joined_by := rfl
theorem g45 : PG.fn 45 = some F45_need_number := rfl
theorem g46 : PG.fn 46 = some F46_need_few := rfl
theorem g47 : PG.fn 47 = some F47_heap_good := rfl
theorem g48 : PG.fn 48 = some F48_need_heap := rfl
theorem g49 : PG.fn 49 = some F49_is_step := rfl
theorem g50 : PG.fn 50 = some F50_all_steps := rfl
theorem g51 : PG.fn 51 = some F51_done := rfl
theorem g53 : PG.fn 53 = some F53_may_step := rfl
theorem g55 : PG.fn 55 = some F55_first_wrong := rfl
theorem g56 : PG.fn 56 = some F56_heaps_behind := rfl
theorem g58 : PG.fn 58 = some F58_steps_wrong := rfl
theorem g59 : PG.fn 59 = some F59_brings := rfl
theorem g60 : PG.fn 60 = some F60_all_behind := rfl
theorem g61 : PG.fn 61 = some F61_need_searched := rfl
theorem g62 : PG.fn 62 = some F62_most_at := rfl
theorem g63 : PG.fn 63 = some F63_steps_to := rfl
theorem g64 : PG.fn 64 = some F64_reach := rfl
theorem g65 : PG.fn 65 = some F65_reached := rfl
theorem g66 : PG.fn 66 = some F66_closed_holds := rfl
theorem g67 : PG.fn 67 = some F67_closed_for := rfl
theorem g90 : PG.fn 90 = some F90_law_heap_by := rfl
theorem g99 : PG.fn 99 = some F99_law_may := rfl
theorem g101 : PG.fn 101 = some F101_law_moved := rfl
theorem g102 : PG.fn 102 = some F102_law_end := rfl
theorem g103 : PG.fn 103 = some F103_law_steps := rfl
theorem g107 : PG.fn 107 = some F107_law_whole := rfl
theorem g108 : PG.fn 108 = some F108_law_is_step := rfl
theorem g109 : PG.fn 109 = some F109_law_wrong := rfl
theorem g110 : PG.fn 110 = some F110_law_steps := rfl
theorem g111 : PG.fn 111 = some F111_law_otherwise := rfl
theorem g112 : PG.fn 112 = some F112_law_refused := rfl
theorem g131 : PG.fn 131 = some F131_divisor := rfl
theorem g132 : PG.fn 132 = some F132_lowest := rfl
theorem g133 : PG.fn 133 = some F133_worth_of := rfl
theorem g134 : PG.fn 134 = some F134_worth_at := rfl
theorem g135 : PG.fn 135 = some F135_at_most := rfl
theorem g136 : PG.fn 136 = some F136_law_cell_at := rfl
theorem g137 : PG.fn 137 = some F137_law_web_by := rfl
theorem g138 : PG.fn 138 = some F138_law_heap_by := rfl
theorem g139 : PG.fn 139 = some F139_law_fars := rfl
theorem g140 : PG.fn 140 = some F140_law_lowest := rfl
theorem g141 : PG.fn 141 = some F141_law_worth := rfl
theorem g143 : PG.fn 143 = some F143_are_weights := rfl
theorem g144 : PG.fn 144 = some F144_sum_by := rfl
theorem g145 : PG.fn 145 = some F145_bars := rfl
theorem g150 : PG.fn 150 = some F150_weights_by_far := rfl
theorem g151 : PG.fn 151 = some F151_far_weights := rfl
theorem g152 : PG.fn 152 = some F152_bar_for := rfl
theorem g154 : PG.fn 154 = some F154_law_behind := rfl
theorem g155 : PG.fn 155 = some F155_law_most_there := rfl
theorem g197 : PG.fn 197 = some F197_law_behind := rfl
end Lib

section
set_option autoImplicit true
set_option maxRecDepth 100000
namespace Lib
open PySem Z
/-! numbers, places -/
def noDic : D → Bool
  | .dic _ _ => false
  | _ => true
@[simp] theorem nd_int (i : Int) : noDic (.int i) = true := rfl
@[simp] theorem nd_bl (i : Bool) : noDic (.bl i) = true := rfl
@[simp] theorem nd_non : noDic .non = true := rfl
@[simp] theorem nd_str (x : Str) : noDic (.str x) = true := rfl
@[simp] theorem nd_tup (i : List D) : noDic (.tup i) = true := rfl
@[simp] theorem nd_lst (i : List D) : noDic (.lst i) = true := rfl
def isWh : D → Bool
  | .int _ => true
  | _ => false
theorem is_whole (n : Nat) (d : D) (hd : noDic d = true) : run PG (n + 1) 0 [d] = .ok (.bl (isWh d)) := by
  rw [run_succ g0]
  cases d <;> first | rfl | cases hd
def inRg (d : D) (a b : Int) : Bool := match d with
  | .int i => decide (a ≤ i) && decide (i ≤ b)
  | _ => false
theorem is_from (n : Nat) (d : D) (a b : Int) (hd : noDic d = true) : run PG (n + 2) 1 [d, .int a, .int b] = .ok (.bl (inRg d a b)) := by
  rw [run_succ g1]
  simp [F1_is_from, is_whole n d hd]
  cases d <;> first | rfl | cases hd | skip
  rename_i i
  simp [isWh, inRg]
@[simp] theorem from_int (n : Nat) (i a b : Int) : run PG (n + 2) 1 [.int i, .int a, .int b] = .ok (.bl (decide (a ≤ i) && decide (i ≤ b))) := is_from n (.int i) a b rfl
/-- a tie as it should be -/
def prD (p : Int × Int) : D := .tup [.int p.1, .int p.2]
theorem pr_ints (p : Int × Int) : prD p = .tup ([p.1, p.2].map D.int) := rfl
@[simp] theorem pu_pr (p : Int × Int) : pureD (prD p) = true := rfl
@[simp] theorem ic_pr (p : Int × Int) : isC (prD p) = false := rfl
@[simp] theorem kf_pr (p : Int × Int) : keyFit true (prD p) = true := rfl
theorem prD_inj {p q : Int × Int} (h : prD p = prD q) : p = q := by
  unfold prD at h
  injection h with h
  injection h with h1 h2
  injection h2 with h2 _
  injection h1 with h1
  injection h2 with h2
  exact Prod.ext h1 h2
theorem eq_pr (p q : Int × Int) : eqD (prD p) (prD q) = decide (p = q) := by
  show (p.1 == q.1 && (p.2 == q.2 && true)) = _
  rw [Bool.and_true]
  by_cases h : p = q
  · subst h; simp
  · have : ¬ (p.1 = q.1 ∧ p.2 = q.2) := fun ⟨a, b⟩ => h (Prod.ext a b)
    rw [decide_eq_false h]
    by_cases h1 : p.1 = q.1
    · have h2 : p.2 ≠ q.2 := fun b => this ⟨h1, b⟩
      simp [h1, h2]
    · simp [h1]
def twoOk (d : D) (m : Int) : Bool := match d with
  | .tup [x, y] => inRg x 0 (m - 1) && (inRg y 0 (m - 1) && !eqD x y)
  | _ => false
theorem is_two (n : Nat) (p : Int × Int) (m : Int) : run PG (n + 3) 2 [prD p, .int m] = .ok (.bl (twoOk (prD p) m)) := by
  rw [run_succ g2]
  simp [F2_is_two, prD, twoOk, inRg, eqD, Bool.beq_eq_decide_eq]
  by_cases e1 : 0 ≤ p.1 <;> by_cases e2 : p.1 ≤ m - 1 <;> by_cases e3 : 0 ≤ p.2 <;> by_cases e4 : p.2 ≤ m - 1 <;> simp [e1, e2, e3, e4]
/-! the web -/
def webD (m : Int) (ts : List (Int × Int)) : D := .tup [.int m, .tup (ts.map prD)]
def lexP (p q : Int × Int) : Prop := p.1 < q.1 ∨ (p.1 = q.1 ∧ p.2 < q.2)
instance (p q : Int × Int) : Decidable (lexP p q) := by unfold lexP; infer_instance
/-- a web as it should be -/
def WebOk (m : Int) (ts : List (Int × Int)) : Prop := 1 ≤ m ∧ m ≤ 8 ∧ (∀ p ∈ ts, 0 ≤ p.1 ∧ p.1 < p.2 ∧ p.2 < m) ∧ ts.Pairwise lexP
theorem web_loop (n : Nat) (m : Int) (w : D) (hw : idxD w (.int 0) = .ok (.int m)) : ∀ (ts : List (Int × Int)) (last : Int × Int), (∀ p ∈ ts, 0 ≤ p.1 ∧ p.1 < p.2 ∧ p.2 < m) → (last :: ts).Pairwise lexP →
    ∃ l, loopF (bodyF (run PG (n + 3)) true (.one 2) B3_0) (ts.map prD) [some (false, w), some (false, prD last), none] = .ok (.nx [some (false, w), some (false, prD l), none])
  | [], last, _, _ => ⟨last, rfl⟩
  | p :: ts, last, hp, hs => by
    rw [List.pairwise_cons] at hs
    obtain ⟨a1, a2, a3⟩ := hp p (List.mem_cons_self ..)
    obtain ⟨l, e⟩ := web_loop n m w hw ts p (fun q hq => hp q (List.mem_cons_of_mem _ hq)) hs.2
    refine ⟨l, ?_⟩
    have t2 : twoOk (prD p) m = true := by
      unfold twoOk prD inRg
      simp [eqD]
      omega
    have nl : lexLe [p.1, p.2] [last.1, last.2] = false := by
      have := hs.1 p (List.mem_cons_self ..)
      unfold lexP at this
      simp only [lexLe]
      by_cases e1 : p.1 = last.1
      · rw [if_pos e1]
        by_cases e2 : p.2 = last.2
        · omega
        · rw [if_neg e2]; simp; omega
      · rw [if_neg e1]; simp; omega
    have ng : ¬ p.2 < p.1 := by omega
    have i0 : idxD (prD p) (.int 0) = .ok (.int p.1) := rfl
    have i1 : idxD (prD p) (.int 1) = .ok (.int p.2) := rfl
    have cl : cmpD .le (prD p) (prD last) = .ok (lexLe [p.1, p.2] [last.1, last.2]) := by rw [pr_ints, pr_ints, cmp_leT]
    have turn : bodyF (run PG (n + 3)) true (.one 2) B3_0 (prD p) [some (false, w), some (false, prD last), none] = .ok (.nx [some (false, w), some (false, prD p), none]) := by
      simp [bodyF, B3_0, hw, is_two, t2, i0, i1, ng, cl, nl]
    rw [List.map_cons, loop_cons, turn, bR_ok, oRt_nx]
    exact e
theorem web_good (n : Nat) {m : Int} {ts : List (Int × Int)} (hw : WebOk m ts) : run PG (n + 4) 3 [webD m ts] = .ok (.bl true) := by
  obtain ⟨w1, w2, w3, w4⟩ := hw
  rw [run_succ g3]
  obtain ⟨l, e⟩ := web_loop n m (webD m ts) rfl ts (-1, -1) w3 (List.pairwise_cons.mpr ⟨fun p hp => by
    have := w3 p hp
    unfold lexP
    simp
    omega, w4⟩)
  unfold webD at e ⊢
  simp [F3_web_good, w1, w2]
  have e0 : (D.tup [.int (-1), .int (-1)]) = prD (-1, -1) := rfl
  rw [e0, e]
  simp
@[simp] theorem idx_web0 (m : Int) (ts : List (Int × Int)) : idxD (webD m ts) (.int 0) = .ok (.int m) := rfl
@[simp] theorem idx_web1 (m : Int) (ts : List (Int × Int)) : idxD (webD m ts) (.int 1) = .ok (.tup (ts.map prD)) := rfl
@[simp] theorem ic_web (m : Int) (ts : List (Int × Int)) : isC (webD m ts) = false := rfl
@[simp] theorem pu_web (m : Int) (ts : List (Int × Int)) : pureD (webD m ts) = true := by
  show (true && (pureL (ts.map prD) && true)) = true
  have : pureL (ts.map prD) = true := by
    induction ts with
    | nil => rfl
    | cons p r ih => exact ih
  rw [this]; rfl
theorem need_web (n : Nat) {m : Int} {ts : List (Int × Int)} (hw : WebOk m ts) : run PG (n + 5) 17 [webD m ts] = .ok .non := by
  rw [run_succ g17]
  simp [F17_need_web, web_good n hw]
theorem need_place (n : Nat) {m : Int} {ts : List (Int × Int)} {p : Int} (h0 : 0 ≤ p) (h1 : p < m) : run PG (n + 3) 18 [webD m ts, .int p] = .ok .non := by
  rw [run_succ g18]
  have : p ≤ m - 1 := by omega
  simp [F18_need_place, h0, this]
theorem need_number (n : Nat) {p a b : Int} (h0 : a ≤ p) (h1 : p ≤ b) : run PG (n + 3) 45 [.int p, .int a, .int b] = .ok .non := by
  rw [run_succ g45]
  simp [F45_need_number, h0, h1]
theorem need_few (n : Nat) {a b : Int} (h : a ≤ b) : run PG (n + 1) 46 [.int a, .int b] = .ok .non := by
  rw [run_succ g46]
  have : ¬ b < a := by omega
  simp [F46_need_few, this]
/-! the drawing -/
def stirA (c k : Int) : Int := (c.fmod 2147483647 + 977 * k + 1) * 48271
def stirB (c k : Int) : Int := (stirA c k).fmod 2147483647
def stirZ (c k : Int) : Int := (((stirB c k * stirB c k).fmod 2147483629 + 40692 * (k + 3)) * 69621).fmod 2147483647 |>.fdiv 8
theorem stirB_rg (c k : Int) : 0 ≤ stirB c k ∧ stirB c k < 2147483647 := ⟨Int.fmod_nonneg_of_pos _ (by decide), Int.fmod_lt_of_pos _ (by decide)⟩
@[simp] theorem stir (n : Nat) (c k : Int) : run PG (n + 1) 6 [.int c, .int k] = .ok (.int (stirZ c k)) := by
  rw [run_succ g6]
  have s1 : small 977 = true := by decide
  have s2 : small 48271 = true := by decide
  have s3 : small 40692 = true := by decide
  have s4 : small 69621 = true := by decide
  have s5 : small (((c.fmod 2147483647 + 977 * k + 1) * 48271).fmod 2147483647) = true := small_of (stirB_rg c k).1 (by have := (stirB_rg c k).2; show stirB c k < _; omega)
  simp [F6_law_stir, s1, s2, s3, s4, s5]
  rfl
theorem stir_nonneg (c k : Int) : 0 ≤ stirZ c k := by
  unfold stirZ
  exact Int.fdiv_nonneg (Int.fmod_nonneg_of_pos _ (by decide)) (by decide)
theorem stir_lt (c k : Int) : stirZ c k < 300000000 := by
  unfold stirZ
  generalize hx : ((stirB c k * stirB c k).fmod 2147483629 + 40692 * (k + 3)) * 69621 = x
  have h := Int.fmod_lt_of_pos x (by decide : (0 : Int) < 2147483647)
  have h0 := Int.fmod_nonneg_of_pos x (by decide : (0 : Int) < 2147483647)
  rw [Int.fdiv_eq_ediv_of_nonneg _ (by decide)]
  omega
theorem cell_at (n : Nat) (ns : List Int) (k : Nat) : run PG (n + 1) 136 [.fls (ns.map D.int), .int k] = .ok (.int (ns.getD k 0)) := by
  rw [run_succ g136]
  by_cases h : (k : Int) < ns.length
  · have h' : k < ns.length := by omega
    simp [F136_law_cell_at, h', at_nat, List.getD]
  · have h' : ¬ k < ns.length := by omega
    simp [F136_law_cell_at, h', List.getD, List.getElem?_eq_none (by omega : ns.length ≤ k)]
/-! heaps -/
def hpD (hs : List Int) : D := .tup (hs.map D.int)
@[simp] theorem ic_hp (hs : List Int) : isC (hpD hs) = false := rfl
@[simp] theorem pu_hp (hs : List Int) : pureD (hpD hs) = true := pu_ints hs
@[simp] theorem kf_hp (hs : List Int) : keyFit true (hpD hs) = true := kf_tup hs
/-- what a heap's part may be -/
def partOk (d : D) : Bool := match d with
  | .int i => decide (0 ≤ i)
  | _ => false
theorem heap_loop (n : Nat) (w t : D) (ds : List D) (hd : ∀ d ∈ ds, noDic d = true) : loopF (bodyF (run PG (n + 1)) true (.one 2) B47_0) ds [some (false, w), some (false, t), none] = if ds.all partOk = true then .ok (.nx [some (false, w), some (false, t), none]) else .ok (.rt (.bl false)) := by
  have := loop_test id partOk (.bl false) [some (false, w), some (false, t), none] (f := bodyF (run PG (n + 1)) true (.one 2) B47_0) ds fun d h => by
    have nd := hd d h
    simp [B47_0, is_whole n d nd]
    cases d <;> first | (cases nd; done) | skip
    all_goals simp [isWh, partOk]
    rename_i i
    by_cases h1 : 0 ≤ i
    · have : ¬ i < 0 := by omega
      simp [h1, this]
    · have : i < 0 := by omega
      simp [h1, this]
  simpa using this
theorem heap_any (n : Nat) (m : Int) (r ds : List D) (hd : ∀ d ∈ ds, noDic d = true) (s : Int) (hs : ds.all partOk = true → sumD ds = .ok (.int s)) :
    run PG (n + 2) 47 [.tup (.int m :: r), .tup ds] = .ok (.bl (decide ((ds.length : Int) = m) && (ds.all partOk && decide (s ≤ 300)))) := by
  rw [run_succ g47]
  by_cases h1 : (ds.length : Int) = m
  · cases h2 : ds.all partOk with
    | false => simp [F47_heap_good, h1, heap_loop n _ _ ds hd, h2]
    | true => simp [F47_heap_good, h1, heap_loop n _ _ ds hd, h2, hs h2]
  · simp [F47_heap_good, h1]
theorem heap_good (n : Nat) (m : Int) (ts : List (Int × Int)) (hs : List Int) (hl : (hs.length : Int) = m) (hp : ∀ x ∈ hs, 0 ≤ x) : run PG (n + 2) 47 [webD m ts, hpD hs] = .ok (.bl (decide (hs.sum ≤ 300))) := by
  have := heap_any n m [.tup (ts.map prD)] (hs.map D.int) (by simp) hs.sum (fun _ => sum_ints hs)
  have ha : (hs.map D.int).all partOk = true := by
    rw [List.all_eq_true]
    intro d hd
    obtain ⟨x, hx, rfl⟩ := List.mem_map.mp hd
    exact decide_eq_true (hp x hx)
  unfold webD hpD
  rw [this, ha]
  simp [hl]
theorem need_heap (n : Nat) {m : Int} (ts : List (Int × Int)) {hs : List Int} (hl : (hs.length : Int) = m) (hp : ∀ x ∈ hs, 0 ≤ x) (h3 : hs.sum ≤ 300) : run PG (n + 3) 48 [webD m ts, hpD hs] = .ok .non := by
  rw [run_succ g48]
  simp [F48_need_heap, heap_good n m ts hs hl hp, h3]
theorem sum_nonneg : ∀ {hs : List Int}, (∀ x ∈ hs, 0 ≤ x) → 0 ≤ hs.sum
  | [], _ => by simp
  | x :: hs, h => by
    have := sum_nonneg fun y hy => h y (List.mem_cons_of_mem _ hy)
    have := h x (List.mem_cons_self ..)
    rw [List.sum_cons]
    omega
/-! sorted rows of pairs -/
def leP (p q : Int × Int) : Bool := lexLe [p.1, p.2] [q.1, q.2]
theorem keys_pr : ∀ ps : List (Int × Int), allOf (skey 1) (ps.map prD) = some (ps.map fun p => [p.1, p.2])
  | [] => rfl
  | p :: ps => by
    have e : skey 1 (prD p) = some [p.1, p.2] := rfl
    simp only [List.map_cons, allOf, e, keys_pr ps]
theorem sort_pr {ps qs : List (Int × Int)} (hl : ps.length ≤ szL) (hp : qs.Perm ps) (hs : qs.Pairwise fun a b => leP a b = true) : sortD (ps.map prD) = .ok (qs.map prD) := by
  have ko : ∀ p : Int × Int, keyOf 1 (prD p) = [p.1, p.2] := fun p => rfl
  have one := sort_one (c := 1) (out := qs.map prD) (keys_pr ps) (hp.map prD) (by rw [List.pairwise_map]; exact hs.imp fun {a b} h => by rw [ko, ko]; exact h)
  cases ps with
  | nil =>
    have : qs = [] := List.Perm.eq_nil hp
    subst this
    rfl
  | cons p r =>
    have sc : sclass (prD p) = 1 := rfl
    have k := keys_pr (p :: r)
    rw [List.map_cons] at k one ⊢
    simp only [sortD, sc, k]
    rw [gd_pos ⟨by simp, by simpa using hl⟩, ← one]
    rfl
theorem isortP (ps : List (Int × Int)) : (isort leP ps).Perm ps ∧ (isort leP ps).Pairwise fun a b => leP a b = true :=
  ⟨isort_perm leP ps, isort_sorted (le := leP) (fun a b c h1 h2 => lexLe_trans (a := [a.1, a.2]) (b := [b.1, b.2]) h1 h2) (fun a b => lexLe_total [a.1, a.2] [b.1, b.2]) ps⟩
theorem sort_prI {ps : List (Int × Int)} (hl : ps.length ≤ szL) : sortD (ps.map prD) = .ok ((isort leP ps).map prD) := sort_pr hl (isortP ps).1 (isortP ps).2
theorem leP_anti {p q : Int × Int} (h1 : leP p q = true) (h2 : leP q p = true) : p = q := by
  have := lexLe_anti (a := [p.1, p.2]) (b := [q.1, q.2]) h1 h2
  injection this with a b
  injection b with b _
  exact Prod.ext a b
theorem sorted_unique {ps qs : List (Int × Int)} (hp : ps.Perm qs) (h1 : ps.Pairwise fun a b => leP a b = true) (h2 : qs.Pairwise fun a b => leP a b = true) : ps = qs := by
  induction ps generalizing qs with
  | nil => exact (List.Perm.eq_nil hp.symm).symm
  | cons p ps ih =>
    cases qs with
    | nil => exact absurd (List.Perm.eq_nil hp) (List.cons_ne_nil _ _)
    | cons q qs =>
      rw [List.pairwise_cons] at h1 h2
      have e : p = q := by
        have m1 : p ∈ q :: qs := hp.mem_iff.mp (List.mem_cons_self ..)
        have m2 : q ∈ p :: ps := hp.mem_iff.mpr (List.mem_cons_self ..)
        rcases List.mem_cons.mp m1 with e | m1
        · exact e
        · rcases List.mem_cons.mp m2 with e | m2
          · exact e.symm
          · exact leP_anti (h1.1 q m2) (h2.1 p m1)
      subst e
      rw [ih ((List.perm_cons p).mp hp) h1.2 h2.2]
theorem lex_le {p q : Int × Int} (h : lexP p q) : leP p q = true := by
  unfold lexP at h
  unfold leP
  simp only [lexLe]
  by_cases e : p.1 = q.1
  · rw [if_pos e]
    by_cases e2 : p.2 = q.2
    · rw [if_pos e2]
    · rw [if_neg e2]; simp; omega
  · rw [if_neg e]; simp; omega
theorem lex_strict {p q : Int × Int} (h : leP p q = true) (n : p ≠ q) : lexP p q := by
  unfold leP at h
  simp only [lexLe] at h
  unfold lexP
  by_cases e : p.1 = q.1
  · rw [if_pos e] at h
    by_cases e2 : p.2 = q.2
    · exact absurd (Prod.ext e e2) n
    · rw [if_neg e2] at h
      simp at h
      exact .inr ⟨e, h⟩
  · rw [if_neg e] at h
    simp at h
    exact .inl h
/-! steps -/
def swp (p : Int × Int) : Int × Int := (p.2, p.1)
def stepsOf (ts : List (Int × Int)) : List (Int × Int) := isort leP (ts ++ ts.map swp)
theorem all_steps (n : Nat) (m : Int) (ts : List (Int × Int)) (hl : ts.length ≤ 1000) : run PG (n + 1) 50 [webD m ts] = .ok (.lst ((stepsOf ts).map prD)) := by
  rw [run_succ g50]
  have c := compL_all prD prD swp (f := cmpF (run PG n) (.tup [.var 2, .var 1]) (.tup [1, 2]) none [some (false, webD m ts), none, none]) ts fun p hp => by simp [cmpF, prD, swp]
  have s := sort_prI (ps := ts ++ ts.map swp) (by simp [szL]; omega)
  rw [List.map_append] at s
  have l1 : ts.length < szL := by unfold szL; omega
  have l2 : ts.length + ts.length ≤ szL := by unfold szL; omega
  simp [F50_all_steps, frE, c, l1, l2]
  simp only [List.map_map] at s
  rw [s]
  rfl
/-- what lies at a place -/
def hAt (hs : List Int) (i : Int) : Int := hs.getD i.toNat 0
theorem at_hp {hs : List Int} {i : Int} (h0 : 0 ≤ i) (h1 : i < hs.length) : atI (hs.map D.int) i = some (.int (hAt hs i)) := by
  obtain ⟨k, rfl⟩ := Int.eq_ofNat_of_zero_le h0
  rw [at_nat, List.getElem?_map, List.getElem?_eq_getElem (by omega)]
  unfold hAt
  simp [List.getD, List.getElem?_eq_getElem (by omega : k < hs.length)]
theorem idx_hp {hs : List Int} {i : Int} (h0 : 0 ≤ i) (h1 : i < hs.length) : idxD (hpD hs) (.int i) = .ok (.int (hAt hs i)) := by
  show oR (atI (hs.map D.int) i) = _
  rw [at_hp h0 h1]
  rfl
theorem idx_ints {hs : List Int} {i : Int} (h0 : 0 ≤ i) (h1 : i < hs.length) : idxD (.lst (hs.map D.int)) (.int i) = .ok (.int (hAt hs i)) := by
  show oR (atI (hs.map D.int) i) = _
  rw [at_hp h0 h1]
  rfl
def mayOf (ts : List (Int × Int)) (hs : List Int) : List (Int × Int) := (stepsOf ts).filter fun p => decide (2 ≤ hAt hs p.1)
theorem mem_steps {ts : List (Int × Int)} {p : Int × Int} : p ∈ stepsOf ts ↔ p ∈ ts ∨ swp p ∈ ts := by
  unfold stepsOf
  rw [(isortP _).1.mem_iff, List.mem_append, List.mem_map]
  refine or_congr_right ⟨fun ⟨q, h1, h2⟩ => by rw [← h2]; exact h1, fun h => ⟨swp p, h, rfl⟩⟩
theorem steps_rg {m : Int} {ts : List (Int × Int)} (hw : ∀ p ∈ ts, 0 ≤ p.1 ∧ p.1 < p.2 ∧ p.2 < m) : ∀ p ∈ stepsOf ts, 0 ≤ p.1 ∧ p.1 < m ∧ 0 ≤ p.2 ∧ p.2 < m ∧ p.1 ≠ p.2 := fun p hp => by
  rcases mem_steps.mp hp with h | h
  · have := hw p h; omega
  · have := hw _ h
    unfold swp at this
    simp at this
    omega
theorem steps_len {ts : List (Int × Int)} : (stepsOf ts).length = 2 * ts.length := by
  unfold stepsOf
  rw [(isortP _).1.length_eq]
  simp
  omega
theorem may_step (n : Nat) {m : Int} {ts : List (Int × Int)} {hs : List Int} (hw : ∀ p ∈ ts, 0 ≤ p.1 ∧ p.1 < p.2 ∧ p.2 < m) (hm : (hs.length : Int) = m) (hl : ts.length ≤ 1000) :
    run PG (n + 2) 53 [webD m ts, hpD hs] = .ok (.lst ((mayOf ts hs).map prD)) := by
  rw [run_succ g53]
  have c := compL_some prD (fun p => decide (2 ≤ hAt hs p.1)) (f := cmpF (run PG (n + 1)) (.var 2) (.one 2) (some (.cmp .ge (.idx (.var 1) (.idx (.var 2) (.int 0))) (.int 2))) [some (false, webD m ts), some (false, hpD hs), none]) (stepsOf ts) fun p hp => by
    have r := steps_rg hw p hp
    have i0 : idxD (prD p) (.int 0) = .ok (.int p.1) := rfl
    simp [cmpF, i0, idx_hp (hs := hs) r.1 (by omega)]
  have l1 : (stepsOf ts).length < szL := by rw [steps_len]; unfold szL; omega
  simp [F53_may_step, all_steps n m ts hl, c, l1, mayOf, frE]
/-- the heap behind a step -/
def addAt (hs : List Int) (i d : Int) : List Int := hs.set i.toNat (hAt hs i + d)
def doneL (hs : List Int) (p : Int × Int) : List Int := addAt (addAt hs p.1 (-2)) p.2 1
theorem augi_at {hs : List Int} {i d : Int} (h0 : 0 ≤ i) (h1 : i < hs.length) : setiD (.int i) (.int (hAt hs i + d)) (.lst (hs.map D.int)) = .ok (.lst ((addAt hs i d).map D.int)) := by
  rw [seti_pos _ h0 (by rw [List.length_map]; exact h1)]
  unfold addAt
  rw [List.map_set]
@[simp] theorem addAt_len (hs : List Int) (i d : Int) : (addAt hs i d).length = hs.length := by unfold addAt; simp
theorem done (n : Nat) {hs : List Int} {p : Int × Int} (h1 : 0 ≤ p.1) (h2 : p.1 < hs.length) (h3 : 0 ≤ p.2) (h4 : p.2 < hs.length) : run PG (n + 1) 51 [hpD hs, prD p] = .ok (hpD (doneL hs p)) := by
  rw [run_succ g51]
  have e1 := idx_ints h1 h2
  have e2 := augi_at (d := -2) h1 h2
  have e3 := idx_ints (hs := addAt hs p.1 (-2)) h3 (by simpa using h4)
  have e4 := augi_at (hs := addAt hs p.1 (-2)) (d := 1) h3 (by simpa using h4)
  simp only [idx_lst] at e1 e3
  have sub : hAt hs p.1 - 2 = hAt hs p.1 + -2 := rfl
  simp [F51_done, prD, hpD, frE, e1, sub, e2, e3, e4, doneL]
/-! two things that are the same -/
theorem same_loop {n : Nat} (ih : ∀ d, plD k d = true → run PG n 12 [d, d] = .ok (.bl true)) (a b : D) (ds : List D) (h : plL k ds = true) : loopF (bodyF (run PG n) true (.tup [2, 3]) B12_0) ((ds.zip ds).map fun p => .tup [p.1, p.2]) [some (false, a), some (false, b), none, none] = .ok (.nx [some (false, a), some (false, b), none, none]) := by
  have hm : ∀ {ds : List D}, plL k ds = true → ∀ d ∈ ds, plD k d = true := fun {ds} h => by
    induction ds with
    | nil => intro d hd; cases hd
    | cons x r ihh =>
      intro d hd
      simp only [plL, Bool.and_eq_true] at h
      rcases List.mem_cons.mp hd with rfl | hd
      · exact h.1
      · exact ihh h.2 d hd
  have ez : ds.zip ds = ds.map fun d => (d, d) := by
    clear h
    induction ds with
    | nil => rfl
    | cons x r ihh => rw [List.zip_cons_cons, ihh]; rfl
  have := loop_test (fun d : D => D.tup [d, d]) (fun _ => true) (.bl false) [some (false, a), some (false, b), none, none] (f := bodyF (run PG n) true (.tup [2, 3]) B12_0) ds fun d hd => by
    simp [B12_0, ih d (hm h d hd)]
  rw [ez, List.map_map]
  rw [if_pos (by simp)] at this
  exact this
theorem same : ∀ (k n : Nat) (d : D), plD k d = true → run PG (n + k + 1) 12 [d, d] = .ok (.bl true) := by
  intro k
  induction k with
  | zero =>
    intro n d hd
    rw [run_succ g12]
    cases d <;> first | (simp [plD] at hd; done) | skip
    all_goals simp [F12_law_same]
  | succ k ih =>
    intro n d hd
    have e : n + (k + 1) + 1 = (n + k + 1) + 1 := by omega
    rw [e, run_succ g12]
    cases d <;> first | (simp [plD] at hd; done) | skip
    · simp [F12_law_same]
    · simp [F12_law_same]
    · simp [F12_law_same]
    · simp [F12_law_same]
    · rename_i ds
      simp only [plD] at hd
      simp [F12_law_same, same_loop (fun d hd => ih n d hd) (.tup ds) (.tup ds) ds hd]
    · rename_i ds
      simp only [plD] at hd
      simp [F12_law_same, same_loop (fun d hd => ih n d hd) (.lst ds) (.lst ds) ds hd]
end Lib
end

section
set_option autoImplicit true
set_option maxRecDepth 100000
namespace Lib
open PySem Z
/-! drawings -/
theorem loop_ex {σ α : Type} (e : α → D) (r : σ → Rho) (I : Nat → σ → Prop) {f : D → Rho → R Out} : ∀ (xs : List α) (i : Nat) (s : σ), I i s → (∀ j s x, xs[j]? = some x → I (i + j) s → ∃ s', f (e x) (r s) = .ok (.nx (r s')) ∧ I (i + j + 1) s') →
    ∃ s', loopF f (xs.map e) (r s) = .ok (.nx (r s')) ∧ I (i + xs.length) s'
  | [], i, s, h, _ => ⟨s, rfl, h⟩
  | x :: xs, i, s, h, k => by
    obtain ⟨s1, k1, k2⟩ := k 0 s x rfl h
    obtain ⟨s2, i1, i2⟩ := loop_ex e r I xs (i + 1) s1 k2 fun j s y hy hi => by
      have e1 : i + 1 + j = i + (j + 1) := by omega
      rw [e1] at hi ⊢
      exact k (j + 1) s y (by simpa using hy) hi
    have e1 : i + 1 + xs.length = i + (x :: xs).length := by rw [List.length_cons]; omega
    rw [e1] at i2
    exact ⟨s2, by rw [List.map_cons, loop_cons, k1, bR_ok, oRt_nx, i1], i2⟩
def upI (n : Nat) : List Int := (List.range n).map fun (k : Nat) => (k : Int)
theorem rng_upI (n : Nat) : rngL 0 n 1 = (upI n).map D.int := by rw [rngL_0, upI, List.map_map]; rfl
theorem rng_upI1 (n : Nat) (a : Int) : rngL a n 1 = ((upI n).map fun k => a + k).map D.int := by rw [rngL_eq, upI, List.map_map, List.map_map]; rfl
theorem upI_get {n j : Nat} {x : Int} (h : (upI n)[j]? = some x) : x = j ∧ j < n := by
  unfold upI at h
  rw [List.getElem?_map] at h
  by_cases hj : j < n
  · rw [List.getElem?_range hj] at h; injection h with h; exact ⟨h.symm, hj⟩
  · rw [List.getElem?_eq_none (by simp; omega)] at h; cases h
@[simp] theorem upI_len (n : Nat) : (upI n).length = n := by simp [upI]
theorem mem_upI {n : Nat} {x : Int} : x ∈ upI n ↔ 0 ≤ x ∧ x < n := by
  unfold upI
  rw [List.mem_map]
  constructor
  · rintro ⟨k, hk, rfl⟩
    have := List.mem_range.mp hk
    omega
  · rintro ⟨h1, h2⟩
    exact ⟨x.toNat, List.mem_range.mpr (by omega), by omega⟩
theorem m_cases {m : Int} (h1 : 1 ≤ m) (h2 : m ≤ 8) : m = 1 ∨ m = 2 ∨ m = 3 ∨ m = 4 ∨ m = 5 ∨ m = 6 ∨ m = 7 ∨ m = 8 := by omega
def prs (m : Nat) : List (Int × Int) := (List.range m).flatMap fun a => (List.range (m - a - 1)).map fun j => ((a : Int), ((a + 1 + j : Nat) : Int))
theorem pairs (n : Nat) {m : Int} (h1 : 1 ≤ m) (h2 : m ≤ 8) : run PG (n + 1) 5 [.int m] = .ok (.lst ((prs m.toNat).map prD)) := by
  rw [run_succ g5]
  rcases m_cases h1 h2 with rfl | rfl | rfl | rfl | rfl | rfl | rfl | rfl <;> rfl
theorem prs_ok {m : Int} (h1 : 1 ≤ m) (h2 : m ≤ 8) : (∀ p ∈ prs m.toNat, 0 ≤ p.1 ∧ p.1 < p.2 ∧ p.2 < m) ∧ (prs m.toNat).Pairwise lexP ∧ (prs m.toNat).length ≤ 28 := by
  rcases m_cases h1 h2 with rfl | rfl | rfl | rfl | rfl | rfl | rfl | rfl <;> decide
/-- a loop that takes some of what it sees -/
theorem loop_sub {α : Type} (e : α → D) (r : List (Int × Int) → Rho) (g : α → Int × Int) {f : D → Rho → R Out} : ∀ (xs : List α) (acc : List (Int × Int)), acc.length + xs.length < 100000 → (∀ acc, ∀ x ∈ xs, acc.length < szL → ∃ b : Bool, f (e x) (r acc) = .ok (.nx (r (acc ++ if b = true then [g x] else [])))) →
    ∃ ts, ts.Sublist (xs.map g) ∧ loopF f (xs.map e) (r acc) = .ok (.nx (r (acc ++ ts)))
  | [], acc, _, _ => ⟨[], .slnil, by simp⟩
  | x :: xs, acc, hl, h => by
    rw [List.length_cons] at hl
    obtain ⟨b, hb⟩ := h acc x (List.mem_cons_self ..) (by unfold szL; omega)
    obtain ⟨ts, hs, e1⟩ := loop_sub e r g xs (acc ++ if b = true then [g x] else []) (by split <;> simp <;> omega) fun acc y hy => h acc y (List.mem_cons_of_mem _ hy)
    refine ⟨(if b = true then [g x] else []) ++ ts, ?_, ?_⟩
    · cases b with
      | true => exact hs.cons₂ _
      | false => exact hs.cons _
    · rw [List.map_cons, loop_cons, hb, bR_ok, oRt_nx, e1, List.append_assoc]
theorem mod2 (c : Int) : c.fmod 2 = 0 ∨ c.fmod 2 = 1 := by
  have a := Int.fmod_nonneg_of_pos c (by decide : (0 : Int) < 2)
  have b := Int.fmod_lt_of_pos c (by decide : (0 : Int) < 2)
  omega
theorem mod_rg (c : Int) {k : Int} (h : 0 < k) : 0 ≤ c.fmod k ∧ c.fmod k < k := ⟨Int.fmod_nonneg_of_pos c h, Int.fmod_lt_of_pos c h⟩
theorem web_by (n : Nat) {m : Int} (c : Int) (h1 : 1 ≤ m) (h2 : m ≤ 8) : ∃ ts, WebOk m ts ∧ ts.length ≤ 28 ∧ run PG (n + 2) 7 [.int m, .int c] = .ok (webD m ts) := by
  obtain ⟨p1, p2, p3⟩ := prs_ok h1 h2
  obtain ⟨ts, hs, e⟩ := loop_sub (fun p : (Int × Int) × Nat => D.tup [.int p.2, prD p.1]) (fun acc => [some (false, .int m), some (false, .int c), some (true, .lst (acc.map prD)), none, none]) (·.1) (f := bodyF (run PG (n + 1)) true (.tup [3, 4]) B7_0) (prs m.toNat).zipIdx [] (by simp; omega) fun acc x hx hl => by
    obtain ⟨p, k⟩ := x
    rcases mod2 c with e | e
    · by_cases e2 : (c.fdiv 2 / 2 ^ k).fmod 2 = 1
      · exact ⟨true, by simp [bodyF, B7_0, e, e2, hl]⟩
      · exact ⟨false, by simp [bodyF, B7_0, e, e2, hl]⟩
    · by_cases e2 : (stirZ c k).fmod 5 < 2 + (c.fdiv 2).fmod 2
      · exact ⟨true, by simp [bodyF, B7_0, e, e2, hl]⟩
      · exact ⟨false, by simp [bodyF, B7_0, e, e2, hl]⟩
  have em : ((prs m.toNat).zipIdx.map (·.1)) = prs m.toNat := by simp
  rw [em] at hs
  refine ⟨ts, ⟨h1, h2, fun p hp => p1 p (hs.subset hp), p2.sublist hs⟩, Nat.le_trans hs.length_le p3, ?_⟩
  rw [run_succ g7]
  have ez : (((prs m.toNat).map prD).zipIdx.map fun p => D.tup [.int p.2, p.1]) = (prs m.toNat).zipIdx.map fun p => .tup [.int p.2, prD p.1] := by
    rw [List.zipIdx_map, List.map_map]
    rfl
  simp only [List.map_nil, List.nil_append] at e
  simp [F7_law_web_by, webD, pairs n h1 h2, ez, e]
/-! webs by a cell, drawn tie by tie, then sorted -/
theorem in_loop (n : Nat) (most : D) (cc lf m b inn : Int) (j : Bool) (hb : 0 ≤ b) (hb8 : b < 8) (as : List Int) (acc : List (Int × Int)) (ha : ∀ a ∈ as, 0 ≤ a) (hl : acc.length + as.length < 1000) :
    ∃ ts, ts.Sublist (as.map fun a => (a, b)) ∧ loopF (bodyF (run PG (n + 1)) true (.one 8) B137_0) (as.map D.int) [some (false, .int cc), some (false, most), some (false, .bl j), some (false, .int m), some (false, .int lf), some (true, .lst (acc.map prD)), some (false, .int b), some (false, .int inn), none, none] =
      .ok (.nx [some (false, .int cc), some (false, most), some (false, .bl j), some (false, .int m), some (false, .int lf), some (true, .lst ((acc ++ ts).map prD)), some (false, .int b), some (false, .int inn), none, none]) := by
  refine loop_sub D.int (fun acc => [some (false, .int cc), some (false, most), some (false, .bl j), some (false, .int m), some (false, .int lf), some (true, .lst (acc.map prD)), some (false, .int b), some (false, .int inn), none, none]) (fun a => (a, b)) as acc (by omega) fun acc a ha' l1 => ?_
  have ha := ha a ha'
  have s8 : small 8 = true := by decide
  have sb : small b = true := small_of hb (by omega)
  have sh : 0 ≤ (b * (b - 1)).fdiv 2 + a := by
    have : 0 ≤ b * (b - 1) := by
      rcases Int.lt_or_le b 1 with h | h
      · have : b = 0 := by omega
        subst this; decide
      · exact Int.mul_nonneg hb (by omega)
    have := Int.fdiv_nonneg this (by decide : (0 : Int) ≤ 2)
    omega
  obtain ⟨dr, hd⟩ : ∃ dr : Int, dr = if lf.fmod 2 = 1 then ((stirZ cc (8 * a + b)).fmod 3).fdiv 2 else (lf.fdiv 2 / 2 ^ ((b * (b - 1)).fdiv 2 + a).toNat).fmod 2 := ⟨_, rfl⟩
  refine ⟨decide (dr = 1) || (j && decide (a = inn)), ?_⟩
  by_cases e : lf.fmod 2 = 1
  · rw [if_pos e] at hd
    by_cases e1 : ((stirZ cc (8 * a + b)).fmod 3).fdiv 2 = 1
    · simp [bodyF, B137_0, s8, sb, sh, e, e1, hd, l1, prD]
    · cases j with
      | false => simp [bodyF, B137_0, s8, sb, sh, e, e1, hd, l1, prD]
      | true =>
        by_cases e2 : a = inn
        · subst e2; simp [bodyF, B137_0, s8, sb, sh, e, e1, hd, l1, prD]
        · simp [bodyF, B137_0, s8, sb, sh, e, e1, e2, hd, l1, prD]
  · rw [if_neg e] at hd
    by_cases e1 : (lf.fdiv 2 / 2 ^ ((b * (b - 1)).fdiv 2 + a).toNat).fmod 2 = 1
    · simp [bodyF, B137_0, s8, sb, sh, e, e1, hd, l1, prD]
    · cases j with
      | false => simp [bodyF, B137_0, s8, sb, sh, e, e1, hd, l1, prD]
      | true =>
        by_cases e2 : a = inn
        · subst e2; simp [bodyF, B137_0, s8, sb, sh, e, e1, hd, l1, prD]
        · simp [bodyF, B137_0, s8, sb, sh, e, e1, e2, hd, l1, prD]
def rowP (b : Int) : List (Int × Int) := (upI b.toNat).map fun a => (a, b)
theorem out_loop (n : Nat) (most : D) (cc lf m : Int) (j : Bool) : ∀ (bs : List Int) (acc : List (Int × Int)), (∀ b ∈ bs, 1 ≤ b ∧ b < 8) → acc.length + 8 * bs.length < 900 →
    ∃ ts, ts.Sublist (bs.flatMap rowP) ∧ loopF (bodyF (run PG (n + 1)) true (.one 6) B137_1) (bs.map D.int) [some (false, .int cc), some (false, most), some (false, .bl j), some (false, .int m), some (false, .int lf), some (true, .lst (acc.map prD)), none, none, none, none] =
      .ok (.nx [some (false, .int cc), some (false, most), some (false, .bl j), some (false, .int m), some (false, .int lf), some (true, .lst ((acc ++ ts).map prD)), none, none, none, none])
  | [], acc, _, _ => ⟨[], .slnil, by simp⟩
  | b :: bs, acc, hb, hl => by
    rw [List.length_cons] at hl
    obtain ⟨b1, b2⟩ := hb b (List.mem_cons_self ..)
    obtain ⟨t1, s1, e1⟩ := in_loop n most cc lf m b ((stirZ cc (100 + b)).fmod b) j (by omega) b2 (upI b.toNat) acc (fun a ha => (mem_upI.mp ha).1) (by simp; omega)
    have lt : t1.length ≤ 8 := Nat.le_trans s1.length_le (by simp; omega)
    obtain ⟨ts, hs, e⟩ := out_loop n most cc lf m j bs (acc ++ t1) (fun z hz => hb z (List.mem_cons_of_mem _ hz)) (by simp; omega)
    refine ⟨t1 ++ ts, by rw [List.flatMap_cons]; exact s1.append hs, ?_⟩
    have nb : ¬ b = 0 := by omega
    have bg : big62 b = true := big_of (by omega) (by omega)
    have bm : b ≤ 1000000 := by omega
    have turn : bodyF (run PG (n + 1)) true (.one 6) B137_1 (.int b) [some (false, .int cc), some (false, most), some (false, .bl j), some (false, .int m), some (false, .int lf), some (true, .lst (acc.map prD)), none, none, none, none] =
        .ok (.nx [some (false, .int cc), some (false, most), some (false, .bl j), some (false, .int m), some (false, .int lf), some (true, .lst ((acc ++ t1).map prD)), none, none, none, none]) := by
      simp [bodyF, B137_1, nb, bg, bm, rng_upI]
      rw [e1]
      simp
    rw [List.map_cons, loop_cons, turn, bR_ok, oRt_nx, e, List.append_assoc]
def allP (m : Nat) : List (Int × Int) := ((upI (m - 1)).map fun k => 1 + k).flatMap rowP
theorem allP_ok {m : Int} (h1 : 1 ≤ m) (h2 : m ≤ 8) : (∀ p ∈ allP m.toNat, 0 ≤ p.1 ∧ p.1 < p.2 ∧ p.2 < m) ∧ (allP m.toNat).Nodup ∧ (allP m.toNat).length ≤ 28 := by
  rcases m_cases h1 h2 with rfl | rfl | rfl | rfl | rfl | rfl | rfl | rfl <;> decide
/-- ties that are drawn, then sorted -/
theorem sorted_web {m : Int} {ts : List (Int × Int)} (h1 : 1 ≤ m) (h2 : m ≤ 8) (hw : ∀ p ∈ ts, 0 ≤ p.1 ∧ p.1 < p.2 ∧ p.2 < m) (nd : ts.Nodup) : WebOk m (isort leP ts) := by
  have pm := (isortP ts).1
  refine ⟨h1, h2, fun p hp => hw p (pm.mem_iff.mp hp), ?_⟩
  have nd : (isort leP ts).Nodup := pm.nodup_iff.mpr nd
  exact (isortP ts).2.imp₂ (fun a b h1 h2 => lex_strict h1 h2) nd
theorem web_by2 (n : Nat) (c most : Int) (j : Bool) (h1 : 1 ≤ most) (h2 : most ≤ 8) : ∃ m ts, m = 1 + c.fmod most ∧ m ≤ most ∧ WebOk m ts ∧ ts.length ≤ 28 ∧ run PG (n + 2) 137 [.int c, .int most, .bl j] = .ok (webD m ts) := by
  obtain ⟨g0, g1⟩ := mod_rg c (by omega : 0 < most)
  obtain ⟨m, hm⟩ : ∃ m, m = 1 + c.fmod most := ⟨_, rfl⟩
  have m1 : 1 ≤ m := by omega
  have m8 : m ≤ 8 := by omega
  obtain ⟨ts, hs, e⟩ := out_loop n (.int most) c (c.fdiv most) m j ((upI (m.toNat - 1)).map fun k => 1 + k) [] (fun b hb => by
    obtain ⟨k, hk, rfl⟩ := List.mem_map.mp hb
    have := mem_upI.mp hk
    omega) (by simp; omega)
  have em : (m - 1).toNat = m.toNat - 1 := by omega
  obtain ⟨p1, p2, p3⟩ := allP_ok m1 m8
  have hl : ts.length ≤ 28 := Nat.le_trans hs.length_le p3
  refine ⟨m, isort leP ts, hm, by omega, sorted_web m1 m8 (fun p hp => p1 p (hs.subset hp)) (p2.sublist hs), by rw [(isortP ts).1.length_eq]; exact hl, ?_⟩
  rw [run_succ g137]
  have ne : ¬ most = 0 := by omega
  have na : most.natAbs < 1073741824 := by omega
  have b1 : big62 1 = true := by decide
  have b2 : big62 m = true := big_of (by omega) (by omega)
  have b3 : m - 1 ≤ 1000000 := by omega
  have so := sort_prI (ps := ts) (by unfold szL; omega)
  rw [← rng_upI1] at e
  simp only [List.map_nil, List.nil_append] at e
  simp [F137_law_web_by, webD, ne, na, ← hm, b1, b2, b3, em, e, so]
/-! heaps, drawn stone by stone -/
theorem rep_one {α : Type} (x : α) (k : Nat) : (List.replicate k [x]).flatten = List.replicate k x := by
  induction k with
  | zero => rfl
  | succ k ih => rw [List.replicate_succ, List.flatten_cons, ih, List.replicate_succ]; rfl
theorem sum_set : ∀ (hs : List Int) (k : Nat) (d : Int), k < hs.length → (hs.set k (hs.getD k 0 + d)).sum = hs.sum + d
  | [], k, d, h => by simp at h
  | x :: hs, 0, d, _ => by simp; omega
  | x :: hs, k + 1, d, h => by
    have := sum_set hs k d (by simpa using h)
    simp only [List.set_cons_succ, List.sum_cons]
    have e : (x :: hs).getD (k + 1) 0 = hs.getD k 0 := by simp [List.getD]
    rw [e, this]
    omega
theorem sum_addAt {hs : List Int} {i : Int} (d : Int) (h0 : 0 ≤ i) (h1 : i < hs.length) : (addAt hs i d).sum = hs.sum + d := sum_set hs i.toNat d (by omega)
theorem hAt_nonneg {hs : List Int} (h : ∀ x ∈ hs, 0 ≤ x) (i : Int) : 0 ≤ hAt hs i := by
  unfold hAt List.getD
  cases e : hs[i.toNat]? with
  | none => simp
  | some x => exact h x (List.mem_of_getElem? e)
theorem addAt_nonneg {hs : List Int} (h : ∀ x ∈ hs, 0 ≤ x) {i d : Int} (hv : 0 ≤ hAt hs i + d) : ∀ x ∈ addAt hs i d, 0 ≤ x := fun x hx => by
  rcases List.mem_or_eq_of_mem_set hx with hx | rfl
  · exact h x hx
  · exact hv
/-- a heap as it should be -/
structure HpOk (m : Int) (hs : List Int) : Prop where
  len : (hs.length : Int) = m
  pos : ∀ x ∈ hs, 0 ≤ x
def StI (m : Int) (i : Nat) (hs : List Int) : Prop := HpOk m hs ∧ hs.sum = i
theorem st_turn (n : Nat) {m : Int} (c : Int) (most : D) (k : Int) (m1 : 1 ≤ m) (i : Nat) (hs : List Int) (h : StI m i hs) :
    ∃ hs', bodyF (run PG (n + 1)) true (.one 4) B138_0 (.int k) [some (false, .int m), some (false, .int c), some (false, most), some (true, .lst (hs.map D.int)), none, none] = .ok (.nx [some (false, .int m), some (false, .int c), some (false, most), some (true, .lst (hs'.map D.int)), none, none]) ∧ StI m (i + 1) hs' := by
  obtain ⟨⟨e1, e3⟩, e2⟩ := h
  have nm : ¬ m = 0 := by omega
  have fin : ∀ pl : Int, 0 ≤ pl → pl < m → StI m (i + 1) (addAt hs pl 1) := fun pl p0 p1 =>
    ⟨⟨by rw [addAt_len]; exact e1, addAt_nonneg e3 (by have := hAt_nonneg e3 pl; omega)⟩, by rw [sum_addAt 1 p0 (by omega), e2]; rfl⟩
  by_cases q : c.fmod 3 = 1 ∧ 0 < k
  · obtain ⟨q1, q2⟩ := q
    obtain ⟨p0, p1⟩ := mod_rg (stirZ c (21 + k.fdiv 4)) (by omega : 0 < m)
    have a := at_hp (hs := hs) p0 (by omega)
    have ag := augi_at (hs := hs) (d := 1) p0 (by omega)
    exact ⟨_, by simp [bodyF, B138_0, nm, q1, q2, a, ag], fin _ p0 p1⟩
  · obtain ⟨p0, p1⟩ := mod_rg (stirZ c (21 + k)) (by omega : 0 < m)
    have a := at_hp (hs := hs) p0 (by omega)
    have ag := augi_at (hs := hs) (d := 1) p0 (by omega)
    refine ⟨_, ?_, fin _ p0 p1⟩
    by_cases q1 : c.fmod 3 = 1
    · have q2 : ¬ 0 < k := fun z => q ⟨q1, z⟩
      simp [bodyF, B138_0, nm, q1, q2, a, ag]
    · simp [bodyF, B138_0, nm, q1, a, ag]
theorem heap_by2 (n : Nat) {m : Int} (c most : Int) (m1 : 1 ≤ m) (m8 : m ≤ 8) (h1 : 0 ≤ most) (h2 : most ≤ 300) : ∃ hs : List Int, HpOk m hs ∧ hs.sum ≤ most ∧ run PG (n + 2) 138 [.int m, .int c, .int most] = .ok (hpD hs) := by
  rw [run_succ g138]
  obtain ⟨g0, g1⟩ := mod_rg (stirZ c 20) (by omega : 0 < most + 1)
  obtain ⟨hs, e, ⟨e1, e2⟩⟩ := loop_ex D.int (fun hs : List Int => [some (false, .int m), some (false, .int c), some (false, .int most), some (true, .lst (hs.map D.int)), none, none]) (StI m) (f := bodyF (run PG (n + 1)) true (.one 4) B138_0) (upI ((stirZ c 20).fmod (most + 1)).toNat) 0 (List.replicate m.toNat 0)
    ⟨⟨by rw [List.length_replicate]; omega, fun z hz => by rw [(List.mem_replicate.mp hz).2]; decide⟩, by simp⟩ fun j hs k _ hi => st_turn n c (.int most) k m1 _ hs hi
  refine ⟨hs, e1, by rw [e2, upI_len]; omega, ?_⟩
  have b : big62 ((stirZ c 20).fmod (most + 1)) = true := big_of (by omega) (by omega)
  have l : (stirZ c 20).fmod (most + 1) ≤ 1000000 := by omega
  have ne : ¬ most + 1 = 0 := by omega
  have k1 : m ≤ 1000 := by omega
  have k2 : -1000 ≤ m := by omega
  rw [← rng_upI] at e
  simp only [List.map_replicate] at e
  have na : (most + 1).natAbs < 1073741824 := by omega
  simp [F138_law_heap_by, b, l, ne, na, k1, k2, rep_one, e, hpD]
/-- heaps by digits -/
theorem heap_by (n : Nat) {m : Int} (c most : Int) (m1 : 1 ≤ m) (m2 : m ≤ 8) (h1 : 0 ≤ most) (h2 : most ≤ 300) : ∃ hs : List Int, HpOk m hs ∧ hs.sum ≤ most ∧ run PG (n + 2) 90 [.int m, .int c, .int most] = .ok (hpD hs) := by
  rw [run_succ g90]
  obtain ⟨⟨left, dg, hs⟩, e, e1, e2, e3, e4⟩ := loop_ex D.int (fun s : Int × Int × List Int => [some (false, .int m), some (false, .int c), some (false, .int most), some (false, .int s.1), some (true, .lst (s.2.2.map D.int)), some (false, .int s.2.1), none, none])
    (fun i s => s.2.2.length = i ∧ 0 ≤ s.1 ∧ s.1 + s.2.2.sum = most ∧ ∀ z ∈ s.2.2, 0 ≤ z) (f := bodyF (run PG (n + 1)) true (.one 6) B90_0) (upI m.toNat) 0 (most, c.fdiv 2, [])
    ⟨rfl, h1, by simp, fun z hz => by cases hz⟩ fun j s k hk hi => by
      obtain ⟨left, dg, hs⟩ := s
      obtain ⟨i1, i2, i3, i4⟩ := hi
      obtain ⟨rfl, hj⟩ := upI_get hk
      simp only at i1 i2 i3 i4 ⊢
      have l1 : hs.length < szL := by unfold szL; omega
      have s0 := sum_nonneg i4
      have ne1 : ¬ left + 1 = 0 := by omega
      have ne2 : ¬ most + 1 = 0 := by omega
      have na : (most + 1).natAbs < 1073741824 := by omega
      have na2 : (left + 1).natAbs < 1073741824 := by omega
      have add : ∀ st : Int, 0 ≤ st → st ≤ left → (hs ++ [st]).length = 0 + j + 1 ∧ 0 ≤ left - st ∧ left - st + (hs ++ [st]).sum = most ∧ ∀ z ∈ hs ++ [st], 0 ≤ z := fun st s1 s2 =>
        ⟨by simp [i1], by omega, by rw [List.sum_append]; simp; omega, fun z hz => by
          rcases List.mem_append.mp hz with hz | hz
          · exact i4 z hz
          · have : z = st := by simpa using hz
            omega⟩
      by_cases e : c.fmod 2 = 0
      · have g := mod_rg dg (by omega : 0 < most + 1)
        refine ⟨(left - (if dg.fmod (most + 1) < left then dg.fmod (most + 1) else left), dg.fdiv (most + 1), hs ++ [if dg.fmod (most + 1) < left then dg.fmod (most + 1) else left]), ?_, add _ (by split <;> omega) (by split <;> omega)⟩
        simp [bodyF, B90_0, e, ne1, ne2, na, na2, l1]
      · have g := mod_rg (stirZ c (60 + (j : Int))) (by omega : 0 < left + 1)
        refine ⟨(left - (stirZ c (60 + (j : Int))).fmod (left + 1), dg, hs ++ [(stirZ c (60 + (j : Int))).fmod (left + 1)]), ?_, add _ g.1 (by omega)⟩
        simp [bodyF, B90_0, e, ne1, ne2, na, na2, l1]
  simp only at e1 e2 e3 e4
  refine ⟨hs, ⟨by rw [e1, upI_len]; omega, e4⟩, by omega, ?_⟩
  have b : big62 m = true := big_of (by omega) (by omega)
  have l : m ≤ 1000000 := by omega
  have ne2 : ¬ most + 1 = 0 := by omega
  rw [← rng_upI] at e
  simp only [List.map_nil] at e
  simp [F90_law_heap_by, b, l, e, hpD]
end Lib
end

section
set_option autoImplicit true
set_option maxRecDepth 100000
namespace Lib
open PySem Z
/-! whole numbers in order -/
def leI (a b : Int) : Bool := decide (a ≤ b)
theorem leI_key (a b : Int) : lexLe [a] [b] = leI a b := by
  unfold leI
  simp only [lexLe]
  by_cases e : a = b
  · subst e; simp [-List.map_map]
  · rw [if_neg e]
    apply Bool.eq_iff_iff.mpr
    simp [-List.map_map]
    omega
theorem keys_int : ∀ ps : List Int, allOf (skey 0) (ps.map D.int) = some (ps.map fun p => [p])
  | [] => rfl
  | p :: ps => by
    have e : skey 0 (.int p) = some [p] := rfl
    simp only [List.map_cons, allOf, e, keys_int ps]
theorem isortI (ps : List Int) : (isort leI ps).Perm ps ∧ (isort leI ps).Pairwise fun a b => leI a b = true :=
  ⟨isort_perm leI ps, isort_sorted (le := leI) (fun a b c h1 h2 => by unfold leI at *; simp [-List.map_map] at *; omega) (fun a b => by unfold leI; simp [-List.map_map]; omega) ps⟩
@[simp] theorem sort_int {ps : List Int} : sortD (ps.map D.int) = gd (ps.length ≤ szL) (.ok ((isort leI ps).map D.int)) := by
  obtain ⟨hp, hs⟩ := isortI ps
  have ko : ∀ p : Int, keyOf 0 (.int p) = [p] := fun p => rfl
  have one := sort_one (c := 0) (out := (isort leI ps).map D.int) (keys_int ps) (hp.map D.int) (by rw [List.pairwise_map]; exact hs.imp fun {a b} h => by rw [ko, ko, leI_key]; exact h)
  cases ps with
  | nil => rfl
  | cons p r =>
    have sc : sclass (.int p) = 0 := rfl
    have k := keys_int (p :: r)
    rw [List.map_cons (f := D.int)] at k one ⊢
    simp only [sortD, sc, k]
    rw [one]
    have e : ((List.map (fun p => [p]) (p :: r)).all fun k => !k.isEmpty) = true := by simp [-List.map_map]
    simp [-List.map_map, e]
/-! places tied -/
def Tied (ts : List (Int × Int)) (a b : Int) : Prop := (a, b) ∈ ts ∨ (b, a) ∈ ts
theorem Tied.symm {ts : List (Int × Int)} {a b : Int} (h : Tied ts a b) : Tied ts b a := Or.symm h
theorem tied_steps {ts : List (Int × Int)} {a b : Int} : Tied ts a b ↔ (a, b) ∈ stepsOf ts := by
  rw [mem_steps]; rfl
def nearL (ts : List (Int × Int)) (p : Int) : List Int := isort leI ((ts.filter fun q => decide (q.1 = p) || decide (q.2 = p)).map fun q => q.1 + q.2 - p)
theorem eqD_int (a b : Int) : eqD (.int a) (.int b) = decide (a = b) := by
  show (a == b) = _
  rw [Bool.beq_eq_decide_eq]
@[simp] theorem near (n : Nat) (m : Int) {ts : List (Int × Int)} (p : Int) (hl : ts.length ≤ 1000) : run PG (n + 1) 19 [webD m ts, .int p] = .ok (.lst ((nearL ts p).map D.int)) := by
  rw [run_succ g19]
  have c := compL_map prD D.int (fun q : Int × Int => if (decide (q.1 = p) || decide (q.2 = p)) = true then some (q.1 + q.2 - p) else none) (f := cmpF (run PG n) (.bin .sub (.bin .add (.var 2) (.var 3)) (.var 1)) (.tup [2, 3]) (some (.cmp .in_ (.var 1) (.tup [.var 2, .var 3]))) [some (false, webD m ts), some (false, .int p), none, none]) ts fun q hq => by
    simp [-List.map_map, cmpF, prD, eqD_int, plD, plL]
  have e : (ts.filterMap fun q : Int × Int => if (decide (q.1 = p) || decide (q.2 = p)) = true then some (q.1 + q.2 - p) else none) = (ts.filter fun q => decide (q.1 = p) || decide (q.2 = p)).map fun q => q.1 + q.2 - p := by
    clear c hl
    induction ts with
    | nil => rfl
    | cons a r ih =>
      rw [List.filterMap_cons, List.filter_cons, ih]
      split <;> rename_i h <;> split at h <;> simp_all [-List.map_map]
  have l1 : ts.length < szL := by unfold szL; omega
  have l2 : (ts.filter fun q => decide (q.1 = p) || decide (q.2 = p)).length ≤ szL := by
    have := List.length_filter_le (fun q : Int × Int => decide (q.1 = p) || decide (q.2 = p)) ts
    omega
  rw [e] at c
  simp [-List.map_map, F19_near]
  rw [c]
  simp [-List.map_map, l1, l2, nearL]
theorem mem_near {ts : List (Int × Int)} {p x : Int} : x ∈ nearL ts p ↔ Tied ts p x := by
  unfold nearL Tied
  rw [(isortI _).1.mem_iff, List.mem_map]
  constructor
  · rintro ⟨⟨a, b⟩, h, rfl⟩
    rw [List.mem_filter] at h
    obtain ⟨h1, h2⟩ := h
    simp [-List.map_map] at h2
    rcases h2 with rfl | rfl
    · exact .inl (by have : a + b - a = b := by omega
                     rw [this]; exact h1)
    · exact .inr (by have : a + b - b = a := by omega
                     rw [this]; exact h1)
  · rintro (h | h)
    · exact ⟨(p, x), List.mem_filter.mpr ⟨h, by simp [-List.map_map]⟩, by simp [-List.map_map]; omega⟩
    · exact ⟨(x, p), List.mem_filter.mpr ⟨h, by simp [-List.map_map]⟩, by simp [-List.map_map]⟩
/-! dicts of whole numbers -/
def kvI (q : List (Int × Int)) : List (D × D) := q.map fun p => (.int p.1, .int p.2)
def lkI (q : List (Int × Int)) (x : Int) : Option Int := match q with
  | [] => none
  | (a, b) :: r => if a = x then some b else lkI r x
@[simp] theorem dget_I (x : Int) : ∀ q : List (Int × Int), dget (kvI q) (.int x) = (lkI q x).map D.int
  | [] => rfl
  | (a, b) :: r => by
    show (if eqD (.int a) (.int x) = true then some (D.int b) else dget (kvI r) (.int x)) = _
    rw [eqD_int, dget_I x r]
    conv => rhs; unfold lkI
    by_cases h : a = x <;> simp [-List.map_map, h]
theorem lkI_none {q : List (Int × Int)} {x : Int} : lkI q x = none ↔ x ∉ q.map (·.1) := by
  induction q with
  | nil => simp [-List.map_map, lkI]
  | cons p r ih =>
    obtain ⟨a, b⟩ := p
    unfold lkI
    by_cases h : a = x
    · simp [-List.map_map, h]
    · rw [if_neg h, ih, List.map_cons, List.mem_cons]
      constructor
      · intro h1 h2
        rcases h2 with rfl | h2
        · exact h rfl
        · exact h1 h2
      · exact fun h1 h2 => h1 (.inr h2)
theorem lkI_mem {q : List (Int × Int)} (nd : (q.map (·.1)).Nodup) {x d : Int} : lkI q x = some d ↔ (x, d) ∈ q := by
  induction q with
  | nil => simp [-List.map_map, lkI]
  | cons p r ih =>
    obtain ⟨a, b⟩ := p
    rw [List.map_cons, List.nodup_cons] at nd
    unfold lkI
    by_cases h : a = x
    · subst h
      rw [if_pos rfl]
      constructor
      · intro h; injection h with h; subst h; exact List.mem_cons_self ..
      · intro h
        rcases List.mem_cons.mp h with h | h
        · injection h with _ h; rw [h]
        · exact absurd (List.mem_map_of_mem (f := (·.1)) h) nd.1
    · rw [if_neg h, ih nd.2, List.mem_cons]
      constructor
      · exact .inr
      · rintro (h1 | h1)
        · injection h1 with h1 _; exact absurd h1.symm h
        · exact h1
@[simp] theorem dput_I {q : List (Int × Int)} {x d : Int} (h : lkI q x = none) : dput (kvI q) (.int x) (.int d) = kvI (q ++ [(x, d)]) := by
  have n : ((kvI q).any fun p => eqD p.1 (.int x)) = false := by
    rw [List.any_eq_false]
    intro p hp
    obtain ⟨⟨a, b⟩, hq, rfl⟩ := List.mem_map.mp hp
    have : a ≠ x := fun e => lkI_none.mp h (by rw [← e]; exact List.mem_map_of_mem (f := (·.1)) hq)
    simp [-List.map_map, eqD_int, this]
  unfold dput
  rw [n]
  simp [-List.map_map, kvI]
@[simp] theorem kvI_len (q : List (Int × Int)) : (kvI q).length = q.length := List.length_map ..
@[simp] theorem kvI_keys (q : List (Int × Int)) : (kvI q).map (·.1) = (q.map (·.1)).map D.int := by unfold kvI; rw [List.map_map, List.map_map]; rfl
@[simp] theorem kvI_vals (q : List (Int × Int)) : (kvI q).map (·.2) = (q.map (·.2)).map D.int := by unfold kvI; rw [List.map_map, List.map_map]; rfl
/-! how far -/
inductive Walk (ts : List (Int × Int)) (p : Int) : Int → Nat → Prop
  | nil : Walk ts p p 0
  | snoc {x y : Int} {d : Nat} : Walk ts p x d → Tied ts x y → Walk ts p y (d + 1)
/-- what walking outwards finds: each place with how far it is -/
structure FarQ (m : Int) (ts : List (Int × Int)) (p : Int) (q : List (Int × Int)) : Prop where
  nd : (q.map (·.1)).Nodup
  rg : ∀ x ∈ q, 0 ≤ x.1 ∧ x.1 < m
  sound : ∀ x ∈ q, ∃ d : Nat, x.2 = d ∧ Walk ts p x.1 d
  full : ∀ x d, Walk ts p x d → ∃ e : Nat, (x, (e : Int)) ∈ q ∧ e ≤ d
  low : ∀ (i : Nat) (x : Int × Int), q[i]? = some x → x.2 ≤ i
  mono : q.Pairwise fun a b => a.2 ≤ b.2
  len : q.length ≤ m
structure FarI (m : Int) (ts : List (Int × Int)) (p : Int) (q : List (Int × Int)) (i : Nat) : Prop where
  nd : (q.map (·.1)).Nodup
  rg : ∀ x ∈ q, 0 ≤ x.1 ∧ x.1 < m
  sound : ∀ x ∈ q, ∃ d : Nat, x.2 = d ∧ Walk ts p x.1 d
  hd : (p, 0) ∈ q
  low : ∀ (i : Nat) (x : Int × Int), q[i]? = some x → x.2 ≤ i
  mono : q.Pairwise fun a b => a.2 ≤ b.2
  top : ∀ (x : Int × Int), q[i]? = some x → ∀ z ∈ q, z.2 ≤ x.2 + 1
  done : ∀ (j : Nat) (x : Int × Int), j < i → q[j]? = some x → ∀ y, Tied ts x.1 y → ∃ e : Int, (y, e) ∈ q ∧ e ≤ x.2 + 1
theorem sub_len : ∀ {l k : List Int}, l.Nodup → l ⊆ k → l.length ≤ k.length
  | [], _, _, _ => Nat.zero_le _
  | x :: l, k, nd, h => by
    rw [List.nodup_cons] at nd
    have hx : x ∈ k := h (List.mem_cons_self ..)
    have := sub_len (l := l) (k := k.erase x) nd.2 fun y hy => (List.mem_erase_of_ne (by rintro rfl; exact nd.1 hy)).mpr (h (List.mem_cons_of_mem _ hy))
    rw [List.length_erase_of_mem hx] at this
    have := List.length_pos_of_mem hx
    rw [List.length_cons]
    omega
theorem nodup_len {l : List Int} (nd : l.Nodup) {m : Int} (h0 : 0 ≤ m) (h : ∀ x ∈ l, 0 ≤ x ∧ x < m) : (l.length : Int) ≤ m := by
  have : l ⊆ upI m.toNat := fun x hx => mem_upI.mpr (by have := h x hx; omega)
  have := sub_len nd this
  rw [upI_len] at this
  omega
theorem FarI.len_le {m : Int} {ts : List (Int × Int)} {p : Int} {q : List (Int × Int)} {i : Nat} (F : FarI m ts p q i) (h0 : 0 ≤ m) : (q.length : Int) ≤ m := by
  have := nodup_len F.nd h0 fun x hx => by
    obtain ⟨y, hy, rfl⟩ := List.mem_map.mp hx
    exact F.rg y hy
  simpa [-List.map_map] using this
theorem FarI.done_q {m : Int} {ts : List (Int × Int)} {p : Int} {q : List (Int × Int)} (F : FarI m ts p q q.length) (h0 : 0 ≤ m) : FarQ m ts p q where
  nd := F.nd
  rg := F.rg
  sound := F.sound
  low := F.low
  mono := F.mono
  len := F.len_le h0
  full := by
    intro x d w
    induction w with
    | nil => exact ⟨0, F.hd, Nat.le_refl _⟩
    | snoc w t ih =>
      obtain ⟨e, h1, h2⟩ := ih
      obtain ⟨j, hj, h3⟩ := List.mem_iff_getElem.mp h1
      obtain ⟨e', h4, h5⟩ := F.done j _ hj (by rw [List.getElem?_eq_getElem hj, h3]) _ t
      obtain ⟨d', h6, _⟩ := F.sound _ h4
      simp only at h5 h6
      subst h6
      exact ⟨d', h4, by omega⟩
/-- one neighbour more is looked at -/
theorem far_in (n : Nat) {m : Int} {ts : List (Int × Int)} {p x dx : Int} (i : Nat) (w : D) (pp : D) : ∀ (ys : List Int) (q : List (Int × Int)), (∀ y ∈ ys, Tied ts x y ∧ 0 ≤ y ∧ y < m) → FarI m ts p q i → q[i]? = some (x, dx) → 0 ≤ m → m ≤ 8 →
    ∃ r, FarI m ts p (q ++ r) i ∧ (∀ y ∈ ys, ∃ e : Int, (y, e) ∈ q ++ r ∧ e ≤ dx + 1) ∧ loopF (bodyF (run PG (n + 1)) true (.one 5) B21_0) (ys.map D.int) [some (false, w), some (false, pp), some (true, .dic false (kvI q)), some (true, .lst ((q.map (·.1)).map D.int)), some (false, .int i), none] =
      .ok (.nx [some (false, w), some (false, pp), some (true, .dic false (kvI (q ++ r))), some (true, .lst (((q ++ r).map (·.1)).map D.int)), some (false, .int i), none])
  | [], q, _, F, _, _, _ => ⟨[], by simpa [-List.map_map] using F, by simp [-List.map_map], by simp [-List.map_map]⟩
  | y :: ys, q, hy, F, hq, h0, h8 => by
    obtain ⟨ty, y0, y1⟩ := hy y (List.mem_cons_self ..)
    have lq : q.length < szL := by have := F.len_le h0; unfold szL; omega
    have hi : i < q.length := by
      by_cases h : i < q.length
      · exact h
      · rw [List.getElem?_eq_none (by omega)] at hq; cases hq
    have hr : atI ((q.map (·.1)).map D.int) (i : Int) = some (.int x) := by
      rw [at_nat, List.getElem?_map, List.getElem?_map, hq]; rfl
    have hx : lkI q x = some dx := (lkI_mem F.nd).mpr (List.mem_of_getElem? hq)
    cases hl : lkI q y with
    | some e =>
      have turn : bodyF (run PG (n + 1)) true (.one 5) B21_0 (.int y) [some (false, w), some (false, pp), some (true, .dic false (kvI q)), some (true, .lst ((q.map (·.1)).map D.int)), some (false, .int i), none] =
          .ok (.nx [some (false, w), some (false, pp), some (true, .dic false (kvI q)), some (true, .lst ((q.map (·.1)).map D.int)), some (false, .int i), none]) := by
        simp [-List.map_map, bodyF, B21_0, hl]
      obtain ⟨r, k1, k2, k3⟩ := far_in n i w pp ys q (fun z hz => hy z (List.mem_cons_of_mem _ hz)) F hq h0 h8
      refine ⟨r, k1, fun z hz => ?_, by rw [List.map_cons, loop_cons, turn, bR_ok, oRt_nx, k3]⟩
      rcases List.mem_cons.mp hz with rfl | hz
      · have : (z, e) ∈ q := (lkI_mem F.nd).mp hl
        exact ⟨e, List.mem_append_left _ this, F.top _ hq _ this⟩
      · exact k2 z hz
    | none =>
      have ny := lkI_none.mp hl
      have turn : bodyF (run PG (n + 1)) true (.one 5) B21_0 (.int y) [some (false, w), some (false, pp), some (true, .dic false (kvI q)), some (true, .lst ((q.map (·.1)).map D.int)), some (false, .int i), none] =
          .ok (.nx [some (false, w), some (false, pp), some (true, .dic false (kvI (q ++ [(y, dx + 1)]))), some (true, .lst (((q ++ [(y, dx + 1)]).map (·.1)).map D.int)), some (false, .int i), none]) := by
        simp [-List.map_map, bodyF, B21_0, hl, hr, hx, lq]
      have F2 : FarI m ts p (q ++ [(y, dx + 1)]) i := by
        refine ⟨?_, ?_, ?_, List.mem_append_left _ F.hd, ?_, ?_, ?_, ?_⟩
        · rw [List.map_append]
          exact List.nodup_append.mpr ⟨F.nd, by simp [-List.map_map], fun a ha b hb => by
            have : b = y := by simpa [-List.map_map] using hb
            subst this
            intro e; subst e; exact ny ha⟩
        · intro z hz
          rcases List.mem_append.mp hz with hz | hz
          · exact F.rg z hz
          · have : z = (y, dx + 1) := by simpa [-List.map_map] using hz
            subst this; exact ⟨y0, y1⟩
        · intro z hz
          rcases List.mem_append.mp hz with hz | hz
          · exact F.sound z hz
          · have : z = (y, dx + 1) := by simpa [-List.map_map] using hz
            subst this
            obtain ⟨d, h1, h2⟩ := F.sound _ (List.mem_of_getElem? hq)
            simp only at h1 h2
            exact ⟨d + 1, by simp only; omega, .snoc h2 ty⟩
        · intro j z hz
          by_cases hj : j < q.length
          · rw [List.getElem?_append_left hj] at hz; exact F.low j z hz
          · rw [List.getElem?_append_right (by omega)] at hz
            have : j = q.length := by
              by_cases h : j - q.length = 0
              · omega
              · rw [List.getElem?_eq_none (by simp [-List.map_map]; omega)] at hz; cases hz
            subst this
            simp [-List.map_map] at hz
            subst hz
            have := F.low i _ hq
            simp only at this ⊢
            omega
        · exact List.pairwise_append.mpr ⟨F.mono, by simp [-List.map_map], fun a ha b hb => by
            have : b = (y, dx + 1) := by simpa [-List.map_map] using hb
            subst this
            exact F.top _ hq a ha⟩
        · intro x' hx' z hz
          rw [List.getElem?_append_left hi, hq] at hx'
          injection hx' with hx'
          subst hx'
          rcases List.mem_append.mp hz with hz | hz
          · exact F.top _ hq z hz
          · have : z = (y, dx + 1) := by simpa [-List.map_map] using hz
            subst this
            exact Int.le_refl _
        · intro j z hj hz y' ht
          rw [List.getElem?_append_left (by omega)] at hz
          obtain ⟨e, h1, h2⟩ := F.done j z hj hz y' ht
          exact ⟨e, List.mem_append_left _ h1, h2⟩
      obtain ⟨r, k1, k2, k3⟩ := far_in n i w pp ys (q ++ [(y, dx + 1)]) (fun z hz => hy z (List.mem_cons_of_mem _ hz)) F2 (by rw [List.getElem?_append_left hi]; exact hq) h0 h8
      refine ⟨(y, dx + 1) :: r, by simpa [-List.map_map] using k1, fun z hz => ?_, by rw [List.map_cons, loop_cons, turn, bR_ok, oRt_nx, k3]; simp [-List.map_map]⟩
      rcases List.mem_cons.mp hz with rfl | hz
      · exact ⟨dx + 1, by simp [-List.map_map], Int.le_refl _⟩
      · obtain ⟨e, h1, h2⟩ := k2 z hz
        exact ⟨e, by simpa [-List.map_map] using h1, h2⟩

theorem tied_rg {m : Int} {ts : List (Int × Int)} (hw : ∀ p ∈ ts, 0 ≤ p.1 ∧ p.1 < p.2 ∧ p.2 < m) {x y : Int} (h : Tied ts x y) : 0 ≤ x ∧ x < m ∧ 0 ≤ y ∧ y < m ∧ x ≠ y := by
  rcases h with h | h
  · have := hw _ h
    simp only at this
    omega
  · have := hw _ h
    simp only at this
    omega
/-- walking outwards -/
theorem fars (n : Nat) {m : Int} {ts : List (Int × Int)} (hw : WebOk m ts) (hl : ts.length ≤ 1000) {p : Int} (p0 : 0 ≤ p) (p1 : p < m) : ∃ q, FarQ m ts p q ∧ run PG (n + 2) 21 [webD m ts, .int p] = .ok (.dic false (kvI q)) := by
  obtain ⟨w1, w2, w3, w4⟩ := hw
  have wl := while_inv (σ := List (Int × Int) × Nat) (fun s => [some (false, webD m ts), some (false, .int p), some (true, .dic false (kvI s.1)), some (true, .lst ((s.1.map (·.1)).map D.int)), some (false, .int s.2), none])
    (fun s => FarI m ts p s.1 s.2 ∧ s.2 ≤ s.1.length) (fun s => 8 - s.2) (c := testF (run PG (n + 1)) C21_1) (f := bodyW (run PG (n + 1)) true B21_1) (fun s hs => by
      obtain ⟨q, i⟩ := s
      obtain ⟨F, hi⟩ := hs
      simp only at F hi
      refine ⟨decide (i < q.length), by simp [-List.map_map, testF, C21_1], fun hb => ?_⟩
      have hb := of_decide_eq_true hb
      obtain ⟨⟨x, dx⟩, hq⟩ : ∃ z, q[i]? = some z := ⟨_, List.getElem?_eq_getElem hb⟩
      have hr : atI ((q.map (·.1)).map D.int) (i : Int) = some (.int x) := by
        rw [at_nat, List.getElem?_map, List.getElem?_map, hq]; rfl
      obtain ⟨r, k1, k2, k3⟩ := far_in n (m := m) (x := x) (dx := dx) i (webD m ts) (.int p) (nearL ts x) q (fun y hy => by
        have := mem_near.mp hy
        have r := tied_rg w3 this
        exact ⟨this, r.2.2.1, r.2.2.2.1⟩) F hq (by omega) w2
      refine ⟨(q ++ r, i + 1), ?_, ⟨⟨k1.nd, k1.rg, k1.sound, k1.hd, k1.low, k1.mono, fun x' hx' z hz => ?_, fun j z hj hz y hy => ?_⟩, by simp [-List.map_map]; omega⟩, ?_⟩
      · simp [-List.map_map, bodyW, B21_1, hr, near n m x hl]
        rw [k3]
        simp [-List.map_map]
      · have hq' : (q ++ r)[i]? = some (x, dx) := by rw [List.getElem?_append_left hb]; exact hq
        have h1 := k1.top _ hq' z hz
        obtain ⟨hi1, hx1⟩ := List.getElem?_eq_some_iff.mp hx'
        obtain ⟨hi2, hx2⟩ := List.getElem?_eq_some_iff.mp hq'
        have h2 := List.pairwise_iff_getElem.mp k1.mono i (i + 1) hi2 hi1 (by omega)
        rw [hx1, hx2] at h2
        simp only at h1 h2
        omega
      · by_cases h : j < i
        · exact k1.done j z h hz y hy
        · have : j = i := by omega
          subst this
          rw [List.getElem?_append_left hb, hq] at hz
          injection hz with hz
          subst hz
          exact k2 y (mem_near.mpr hy)
      · have := F.len_le (by omega)
        simp only
        omega)
  have F0 : FarI m ts p [(p, 0)] 0 := by
    have one : ∀ z ∈ [(p, (0 : Int))], z = (p, 0) := fun z hz => by simpa [-List.map_map] using hz
    refine ⟨by simp [-List.map_map], fun x h => ?_, fun x h => ?_, by simp [-List.map_map], fun i x h => ?_, by simp [-List.map_map], fun x h z hz => ?_, fun j x h => by omega⟩
    · rw [one x h]; exact ⟨p0, p1⟩
    · rw [one x h]; exact ⟨0, rfl, .nil⟩
    · cases i with
      | zero => simp [-List.map_map] at h; subst h; simp [-List.map_map]
      | succ i => simp [-List.map_map] at h
    · rw [one z hz]
      have h3 : x = (p, 0) := by simpa [-List.map_map] using h.symm
      subst h3; simp [-List.map_map]
  obtain ⟨⟨q, i⟩, e, ⟨F, hi⟩, hf⟩ := wl 1000000 ([(p, 0)], 0) ⟨F0, by simp [-List.map_map]⟩ (by simp [-List.map_map])
  simp only at e F hi hf
  have hi2 : i = q.length := by
    simp [-List.map_map, testF, C21_1] at hf
    omega
  subst hi2
  refine ⟨q, F.done_q (by omega), ?_⟩
  rw [run_succ g21]
  have k0 : kvI [(p, 0)] = [(D.int p, D.int 0)] := rfl
  simp only [k0] at e
  simp [-List.map_map, F21_fars]
  simp [-List.map_map] at e
  rw [e]
  simp [-List.map_map]
end Lib
end

section
set_option autoImplicit true
set_option maxRecDepth 100000
namespace Lib
open PySem Z
/-! how far, as the laws reckon it -/
def oD : Option Int → D
  | none => .non
  | some i => .int i
@[simp] theorem oD_none : oD none = .non := rfl
@[simp] theorem oD_some (i : Int) : oD (some i) = .int i := rfl
def oAt (L : List (Option Int)) (x : Int) : Option Int := L.getD x.toNat none
theorem at_o {L : List (Option Int)} {x : Int} (h0 : 0 ≤ x) (h1 : x < L.length) : atI (L.map oD) x = some (oD (oAt L x)) := by
  rw [at_pos h0, List.getElem?_map, List.getElem?_eq_getElem (by omega)]
  unfold oAt
  simp [-List.map_map, List.getD, List.getElem?_eq_getElem (by omega : x.toNat < L.length)]
theorem oAt_set {L : List (Option Int)} {x y : Int} (h0 : 0 ≤ x) (h1 : x < L.length) (h2 : 0 ≤ y) (v : Option Int) : oAt (L.set x.toNat v) y = if x = y then v else oAt L y := by
  unfold oAt List.getD
  rw [List.getElem?_set]
  by_cases h : x = y
  · subst h; rw [if_pos rfl, if_pos (by omega), if_pos rfl]; rfl
  · rw [if_neg h, if_neg (by omega)]
def relax (L : List (Option Int)) (p : Int × Int) : List (Option Int) := match oAt L p.1 with
  | none => L
  | some d => match oAt L p.2 with
    | none => L.set p.2.toNat (some (d + 1))
    | some e => if d + 1 < e then L.set p.2.toNat (some (d + 1)) else L
@[simp] theorem relax_len (L : List (Option Int)) (p : Int × Int) : (relax L p).length = L.length := by
  unfold relax
  split
  · rfl
  · split
    · simp [-List.map_map]
    · split <;> simp [-List.map_map]
/-- no entry greater -/
def LeO (L L' : List (Option Int)) : Prop := ∀ x d, 0 ≤ x → oAt L x = some d → ∃ d', oAt L' x = some d' ∧ d' ≤ d
theorem LeO.refl (L : List (Option Int)) : LeO L L := fun x d _ h => ⟨d, h, Int.le_refl _⟩
theorem LeO.trans {L M N : List (Option Int)} (h1 : LeO L M) (h2 : LeO M N) : LeO L N := fun x d h0 h => by
  obtain ⟨d1, a1, a2⟩ := h1 x d h0 h
  obtain ⟨d2, b1, b2⟩ := h2 x d1 h0 a1
  exact ⟨d2, b1, by omega⟩
theorem relax_le {m : Nat} {L : List (Option Int)} (hl : L.length = m) {p : Int × Int} (h1 : 0 ≤ p.2) (h2 : p.2 < m) : LeO L (relax L p) := by
  intro x d x0 hx
  unfold relax
  split
  · exact ⟨d, hx, Int.le_refl _⟩
  · rename_i e he
    split
    · rename_i hb
      rw [oAt_set h1 (by omega) x0]
      by_cases h : p.2 = x
      · rw [← h, hb] at hx; cases hx
      · rw [if_neg h]; exact ⟨d, hx, Int.le_refl _⟩
    · rename_i f hb
      split
      · rw [oAt_set h1 (by omega) x0]
        by_cases h : p.2 = x
        · rw [← h, hb] at hx; injection hx with hx; rw [if_pos h]; exact ⟨_, rfl, by omega⟩
        · rw [if_neg h]; exact ⟨d, hx, Int.le_refl _⟩
      · exact ⟨d, hx, Int.le_refl _⟩
theorem relax_at {m : Nat} {L : List (Option Int)} (hl : L.length = m) {p : Int × Int} (h1 : 0 ≤ p.2) (h2 : p.2 < m) {d : Int} (hd : oAt L p.1 = some d) : ∃ e, oAt (relax L p) p.2 = some e ∧ e ≤ d + 1 := by
  unfold relax
  rw [hd]
  simp only
  split
  · rw [oAt_set h1 (by omega) h1, if_pos rfl]; exact ⟨_, rfl, Int.le_refl _⟩
  · rename_i f hb
    split
    · rw [oAt_set h1 (by omega) h1, if_pos rfl]; exact ⟨_, rfl, Int.le_refl _⟩
    · exact ⟨f, hb, by omega⟩
/-- entries are lengths of walks -/
def SoundO (ts : List (Int × Int)) (p : Int) (L : List (Option Int)) : Prop := ∀ x d, 0 ≤ x → oAt L x = some d → ∃ e : Nat, d = e ∧ Walk ts p x e
theorem relax_sound {m : Nat} {ts : List (Int × Int)} {p : Int} {L : List (Option Int)} (hl : L.length = m) {q : Int × Int} (h1 : 0 ≤ q.2) (h2 : q.2 < m) (h0 : 0 ≤ q.1) (ht : Tied ts q.1 q.2) (S : SoundO ts p L) : SoundO ts p (relax L q) := by
  intro x d x0 hx
  unfold relax at hx
  split at hx
  · exact S x d x0 hx
  · rename_i e he
    have w : ∀ {x d}, q.2 = x → some (e + 1) = some d → ∃ e : Nat, d = e ∧ Walk ts p x e := fun h hd => by
      obtain ⟨k, k1, k2⟩ := S _ _ h0 he
      injection hd with hd
      subst h
      exact ⟨k + 1, by omega, .snoc k2 ht⟩
    split at hx
    · rw [oAt_set h1 (by omega) x0] at hx
      by_cases h : q.2 = x
      · rw [if_pos h] at hx; exact w h hx
      · rw [if_neg h] at hx; exact S x d x0 hx
    · split at hx
      · rw [oAt_set h1 (by omega) x0] at hx
        by_cases h : q.2 = x
        · rw [if_pos h] at hx; exact w h hx
        · rw [if_neg h] at hx; exact S x d x0 hx
      · exact S x d x0 hx
structure StepOk (m : Nat) (ts : List (Int × Int)) (q : Int × Int) : Prop where
  a0 : 0 ≤ q.1
  a1 : q.1 < m
  b0 : 0 ≤ q.2
  b1 : q.2 < m
  t : Tied ts q.1 q.2
theorem fold_relax {m : Nat} {ts : List (Int × Int)} {p : Int} : ∀ (qs : List (Int × Int)) (L : List (Option Int)), (∀ q ∈ qs, StepOk m ts q) → L.length = m → SoundO ts p L →
    (qs.foldl relax L).length = m ∧ SoundO ts p (qs.foldl relax L) ∧ LeO L (qs.foldl relax L) ∧ ∀ q ∈ qs, ∀ d, oAt L q.1 = some d → ∃ e, oAt (qs.foldl relax L) q.2 = some e ∧ e ≤ d + 1
  | [], L, _, hl, S => ⟨hl, S, .refl _, by simp [-List.map_map]⟩
  | q :: qs, L, hq, hl, S => by
    have k := hq q (List.mem_cons_self ..)
    obtain ⟨i1, i2, i3, i4⟩ := fold_relax (p := p) qs (relax L q) (fun z hz => hq z (List.mem_cons_of_mem _ hz)) (by rw [relax_len]; exact hl) (relax_sound hl k.b0 k.b1 k.a0 k.t S)
    have le := relax_le hl k.b0 k.b1
    refine ⟨i1, i2, le.trans i3, fun z hz d hd => ?_⟩
    rcases List.mem_cons.mp hz with rfl | hz'
    · obtain ⟨e, h1, h2⟩ := relax_at hl k.b0 k.b1 hd
      obtain ⟨e', h3, h4⟩ := i3 _ _ k.b0 h1
      exact ⟨e', h3, by omega⟩
    · have kz := hq z hz
      obtain ⟨d', h1, h2⟩ := le _ _ kz.a0 hd
      obtain ⟨e, h3, h4⟩ := i4 z hz' d' h1
      exact ⟨e, h3, by omega⟩
def bothW (ts : List (Int × Int)) : List (Int × Int) := ts ++ ts.map swp
theorem both_ok {m : Int} {ts : List (Int × Int)} (hw : ∀ p ∈ ts, 0 ≤ p.1 ∧ p.1 < p.2 ∧ p.2 < m) : ∀ q ∈ bothW ts, StepOk m.toNat ts q := fun q hq => by
  have t : Tied ts q.1 q.2 := by
    rcases List.mem_append.mp hq with h | h
    · exact .inl h
    · obtain ⟨z, h1, rfl⟩ := List.mem_map.mp h
      exact .inr h1
  have r := tied_rg hw t
  exact ⟨r.1, by omega, r.2.2.1, by omega, t⟩
theorem mem_both {ts : List (Int × Int)} {a b : Int} : (a, b) ∈ bothW ts ↔ Tied ts a b := by
  unfold bothW Tied
  rw [List.mem_append, List.mem_map]
  refine or_congr_right ⟨fun ⟨q, h1, h2⟩ => ?_, fun h => ⟨(b, a), h, rfl⟩⟩
  unfold swp at h2
  injection h2 with h2 h3
  subst h2 h3
  exact h1
theorem relax_loop (n : Nat) (w pp kk : D) (m : Nat) (ts : List (Int × Int)) (qs : List (Int × Int)) (L : List (Option Int)) (hq : ∀ q ∈ qs, StepOk m ts q) (hl : L.length = m) :
    loopF (bodyF (run PG n) true (.tup [4, 5]) B139_0) (qs.map prD) [some (false, w), some (false, pp), some (true, .lst (L.map oD)), some (false, kk), none, none] = .ok (.nx [some (false, w), some (false, pp), some (true, .lst ((qs.foldl relax L).map oD)), some (false, kk), none, none]) :=
  (loop_fold prD (fun L : List (Option Int) => [some (false, w), some (false, pp), some (true, .lst (L.map oD)), some (false, kk), none, none]) relax (fun L => L.length = m) qs L hl fun L q h hl => by
    have k := hq q h
    refine ⟨?_, by rw [relax_len]; exact hl⟩
    have ha := at_o (L := L) k.a0 (by rw [hl]; exact k.a1)
    have hb := at_o (L := L) k.b0 (by rw [hl]; exact k.b1)
    have sp := fun v => seti_pos (j := q.2) v (xs := L.map oD) k.b0 (by rw [List.length_map, hl]; exact k.b1)
    unfold relax
    cases ea : oAt L q.1 with
    | none => rw [ea] at ha; simp [-List.map_map, bodyF, B139_0, prD, ha]
    | some d =>
      rw [ea] at ha
      cases eb : oAt L q.2 with
      | none => rw [eb] at hb; simp [-List.map_map, bodyF, B139_0, prD, ha, hb, sp, List.map_set]
      | some e =>
        rw [eb] at hb
        by_cases h : d + 1 < e <;> simp [-List.map_map, bodyF, B139_0, prD, ha, hb, sp, List.map_set, h]).1
theorem law_fars (n : Nat) {m : Int} {ts : List (Int × Int)} (hw : WebOk m ts) (hl : ts.length ≤ 1000) {p : Int} (p0 : 0 ≤ p) (p1 : p < m) {q : List (Int × Int)} (F : FarQ m ts p q) : run PG (n + 1) 139 [webD m ts, .int p] = .ok (.lst ((upI m.toNat).map fun x => oD (lkI q x))) := by
  obtain ⟨w1, w2, w3, w4⟩ := hw
  have sp := seti_pos (j := p) (D.int 0) (xs := (List.replicate m.toNat (none : Option Int)).map oD) p0 (by simp [-List.map_map]; omega)
  have bk := both_ok w3
  have S0 : SoundO ts p ((List.replicate m.toNat none).set p.toNat (some 0)) := fun x d x0 hx => by
    rw [oAt_set p0 (by simp [-List.map_map]; omega) x0] at hx
    by_cases h : p = x
    · rw [if_pos h] at hx; injection hx with hx; subst hx h; exact ⟨0, rfl, .nil⟩
    · rw [if_neg h] at hx
      unfold oAt List.getD at hx
      rw [List.getElem?_replicate] at hx
      split at hx <;> exact nomatch hx
  have F0 : ∀ x d, Walk ts p x d → d ≤ 0 → ∃ e : Int, oAt ((List.replicate m.toNat none).set p.toNat (some 0)) x = some e ∧ e ≤ d := fun x d w hd => by
    have : d = 0 := by omega
    subst this
    cases w
    exact ⟨0, by rw [oAt_set p0 (by simp [-List.map_map]; omega) p0, if_pos rfl], Int.le_refl _⟩
  obtain ⟨L, e, hL, hS, hF⟩ := loop_ex D.int (fun L : List (Option Int) => [some (false, webD m ts), some (false, .int p), some (true, .lst (L.map oD)), none, none, none])
    (fun i L => L.length = m.toNat ∧ SoundO ts p L ∧ ∀ x d, Walk ts p x d → d ≤ i → ∃ e : Int, oAt L x = some e ∧ e ≤ d) (f := bodyF (run PG n) true (.one 3) B139_1) (upI m.toNat) 0 ((List.replicate m.toNat none).set p.toNat (some 0))
    ⟨by simp [-List.map_map], S0, F0⟩ fun j L k hk hi => by
    obtain ⟨hL, hS, hF⟩ := hi
    obtain ⟨f1, f2, f3, f4⟩ := fold_relax (p := p) (bothW ts) L bk hL hS
    refine ⟨(bothW ts).foldl relax L, ?_, f1, f2, fun x d w hd => ?_⟩
    · have lp := relax_loop n (webD m ts) (.int p) (.int k) m.toNat ts (bothW ts) L bk hL
      have c := compL_all prD prD swp (f := cmpF (run PG n) (.tup [.var 5, .var 4]) (.tup [4, 5]) none [some (false, webD m ts), some (false, .int p), some (true, .lst (L.map oD)), some (false, .int k), none, none]) ts fun p hp => by simp [-List.map_map, cmpF, prD, swp]
      have l1 : ts.length < szL := by unfold szL; omega
      have l2 : ts.length + ts.length ≤ szL := by unfold szL; omega
      unfold bothW at lp
      rw [List.map_append] at lp
      simp [-List.map_map, bodyF, B139_1, c, l1, l2]
      rw [lp]
      simp [-List.map_map, bothW]
    · cases w with
      | nil => exact (hF _ 0 .nil (by omega)).elim fun e h => f3 p e p0 h.1 |>.elim fun e' h' => ⟨e', h'.1, by omega⟩
      | snoc w t =>
        obtain ⟨e, h1, h2⟩ := hF _ _ w (by omega)
        obtain ⟨e', h3, h4⟩ := f4 _ (mem_both.mpr t) e h1
        exact ⟨e', h3, by omega⟩
  have fin : L = (upI m.toNat).map fun x => lkI q x := by
    apply List.ext_getElem?
    intro i
    by_cases hi : i < m.toNat
    · rw [List.getElem?_map, List.getElem?_eq_getElem (by omega)]
      have hu : (upI m.toNat)[i]? = some (i : Int) := by
        unfold upI; rw [List.getElem?_map, List.getElem?_range hi]; rfl
      rw [hu]
      have ha : oAt L (i : Int) = L[i]'(by omega) := by
        unfold oAt; simp [-List.map_map, List.getD, List.getElem?_eq_getElem (by omega : i < L.length)]
      show some _ = some _
      rw [← ha]
      congr 1
      show oAt L (i : Int) = lkI q (i : Int)
      cases hq : lkI q i with
      | some d =>
        have hm := (lkI_mem F.nd).mp hq
        obtain ⟨e, h1, h2⟩ := F.sound _ hm
        obtain ⟨j, hj, h3⟩ := List.mem_iff_getElem.mp hm
        have lw := F.low j _ (List.getElem?_eq_getElem hj)
        rw [h3] at lw
        simp only at h1 h2 lw
        have ln := F.len
        obtain ⟨e', h4, h5⟩ := hF _ _ h2 (by rw [upI_len]; omega)
        obtain ⟨k, k1, k2⟩ := hS _ _ (by omega) h4
        obtain ⟨k', k3, k4⟩ := F.full _ _ k2
        have := (lkI_mem F.nd).mpr k3
        rw [hq] at this
        injection this with this
        rw [h4]
        congr 1
        omega
      | none =>
        cases ho : oAt L i with
        | none => rfl
        | some d =>
          obtain ⟨k, k1, k2⟩ := hS _ _ (by omega) ho
          obtain ⟨k', k3, k4⟩ := F.full _ _ k2
          have := (lkI_mem F.nd).mpr k3
          rw [hq] at this
          cases this
    · rw [List.getElem?_eq_none (by omega), List.getElem?_eq_none (by simp [-List.map_map]; omega)]
  rw [run_succ g139]
  have b : big62 m = true := big_of (by omega) (by omega)
  have l : m ≤ 1000000 := by omega
  have k1 : m ≤ 1000 := by omega
  have k2 : -1000 ≤ m := by omega
  rw [← rng_upI] at e
  rw [List.map_set] at e
  simp only [List.map_replicate, oD_none, oD_some] at e sp
  simp [-List.map_map, F139_law_fars, b, l, k1, k2, rep_one, sp]
  rw [e, fin]
  simp [-List.map_map, List.map_map]
end Lib
end

section
set_option autoImplicit true
set_option maxRecDepth 100000
namespace Lib
open PySem Z
/-! the greatest, all, lists by their entries -/
theorem maxL_top : ∀ (r : List Int) (n : Int), (n ≤ maxL n r ∧ ∀ x ∈ r, x ≤ maxL n r) ∧ maxL n r ∈ n :: r
  | [], n => ⟨⟨Int.le_refl _, by simp [-List.map_map]⟩, by simp [-List.map_map, maxL]⟩
  | x :: r, n => by
    unfold maxL
    by_cases h : x > n
    · rw [if_pos h]
      obtain ⟨⟨h1, h2⟩, h3⟩ := maxL_top r x
      refine ⟨⟨by omega, fun y hy => (List.mem_cons.mp hy).elim (fun e => by omega) (h2 y)⟩, List.mem_cons_of_mem _ h3⟩
    · rw [if_neg h]
      obtain ⟨⟨h1, h2⟩, h3⟩ := maxL_top r n
      refine ⟨⟨h1, fun y hy => (List.mem_cons.mp hy).elim (fun e => by omega) (h2 y)⟩, ?_⟩
      rcases List.mem_cons.mp h3 with h3 | h3
      · rw [h3]; exact List.mem_cons_self ..
      · exact List.mem_cons_of_mem _ (List.mem_cons_of_mem _ h3)
theorem max_ex {xs : List Int} (h : xs ≠ []) : ∃ d, d ∈ xs ∧ ∀ x ∈ xs, x ≤ d := by
  cases xs with
  | nil => exact absurd rfl h
  | cons n r =>
    obtain ⟨⟨h1, h2⟩, h3⟩ := maxL_top r n
    exact ⟨_, h3, fun x hx => (List.mem_cons.mp hx).elim (fun e => e ▸ h1) (h2 x)⟩
theorem maxD_is {xs : List Int} {d : Int} (h1 : d ∈ xs) (h2 : ∀ x ∈ xs, x ≤ d) : maxD (xs.map D.int) = .ok (.int d) := by
  cases xs with
  | nil => cases h1
  | cons n r =>
    unfold maxD
    rw [ints_all]
    obtain ⟨⟨k1, k2⟩, k3⟩ := maxL_top r n
    have a := h2 _ k3
    have b : d ≤ maxL n r := (List.mem_cons.mp h1).elim (fun e => e ▸ k1) (k2 d)
    have : maxL n r = d := by omega
    rw [← this]
theorem all_bls : ∀ bs : List Bool, allOf blOf (bs.map D.bl) = some bs
  | [] => rfl
  | b :: bs => by simp only [List.map_cons, allOf, blOf, all_bls bs]
theorem get_up {m : Nat} {i : Nat} (hi : i < m) : (upI m)[i]? = some (i : Int) := by
  unfold upI; rw [List.getElem?_map, List.getElem?_range hi]; rfl
theorem hAt_up {m : Int} {f : Int → Int} {x : Int} (h0 : 0 ≤ x) (h1 : x < m) : hAt ((upI m.toNat).map f) x = f x := by
  unfold hAt List.getD
  rw [List.getElem?_map, get_up (by omega)]
  show f _ = f _
  congr 1
  omega
theorem hAt_ext {A B : List Int} {m : Int} (ha : (A.length : Int) = m) (hb : (B.length : Int) = m) (h : ∀ x, 0 ≤ x → x < m → hAt A x = hAt B x) : A = B := by
  apply List.ext_getElem?
  intro i
  by_cases hi : i < A.length
  · have := h i (by omega) (by omega)
    unfold hAt List.getD at this
    rw [List.getElem?_eq_getElem (by simpa [-List.map_map] using hi), List.getElem?_eq_getElem (by simp [-List.map_map]; omega)] at this
    rw [List.getElem?_eq_getElem hi, List.getElem?_eq_getElem (by omega)]
    simpa [-List.map_map] using this
  · rw [List.getElem?_eq_none (by omega), List.getElem?_eq_none (by omega)]
theorem hAt_set {A : List Int} {x y v : Int} (h0 : 0 ≤ x) (h1 : x < A.length) (h2 : 0 ≤ y) : hAt (A.set x.toNat v) y = if x = y then v else hAt A y := by
  unfold hAt List.getD
  rw [List.getElem?_set]
  by_cases h : x = y
  · subst h; rw [if_pos rfl, if_pos (by omega), if_pos rfl]; rfl
  · rw [if_neg h, if_neg (by omega)]
theorem fold_set {f : Int → Int} {m : Int} : ∀ (q : List (Int × Int)) (L : List Int), (q.map (·.1)).Nodup → (∀ z ∈ q, 0 ≤ z.1 ∧ z.1 < m) → (L.length : Int) = m → ((q.foldl (fun L z => L.set z.1.toNat (f z.2)) L).length : Int) = m ∧ ∀ x, 0 ≤ x → hAt (q.foldl (fun L z => L.set z.1.toNat (f z.2)) L) x = ((lkI q x).map f).getD (hAt L x)
  | [], L, _, _, hl => ⟨hl, fun x _ => rfl⟩
  | (a, b) :: q, L, nd, hz, hl => by
    rw [List.map_cons, List.nodup_cons] at nd
    have h := hz (a, b) (List.mem_cons_self ..)
    obtain ⟨i1, i2⟩ := fold_set (f := f) (m := m) q (L.set a.toNat (f b)) nd.2 (fun z h => hz z (List.mem_cons_of_mem _ h)) (by simpa [-List.map_map] using hl)
    refine ⟨i1, fun x hx => ?_⟩
    rw [List.foldl_cons, i2 x hx, hAt_set h.1 (by simp only at h; omega) hx]
    conv => rhs; unfold lkI
    by_cases e : a = x
    · subst e
      have : lkI q a = none := lkI_none.mpr nd.1
      simp [-List.map_map, this]
    · rw [if_neg e, if_neg e]
/-! weights -/
theorem zip_ints (hs ws : List Int) : (((hs.map D.int).zip (ws.map D.int)).map fun p => D.tup [p.1, p.2]) = (hs.zip ws).map prD := by
  induction hs generalizing ws with
  | nil => rfl
  | cons x r ih => cases ws with
    | nil => rfl
    | cons y s => simp only [List.map_cons, List.zip_cons_cons, ih]; rfl
def dotI (hs ws : List Int) : Int := ((hs.zip ws).map fun p => p.1 * p.2).sum
theorem sum_by (n : Nat) (hs ws : List Int) (hl : hs.length ≤ 1000) (h : (∀ x ∈ hs, small x = true) ∨ (∀ x ∈ ws, small x = true)) : run PG (n + 1) 144 [hpD hs, hpD ws] = .ok (.int (dotI hs ws)) := by
  rw [run_succ g144]
  have c := compL_all prD D.int (fun p => p.1 * p.2) (f := cmpF (run PG n) (.bin .mul (.var 2) (.var 3)) (.tup [2, 3]) none [some (false, hpD hs), some (false, hpD ws), none, none]) (hs.zip ws) fun p hp => by
    have s : small p.1 = true ∨ small p.2 = true := h.imp (fun h => h _ (List.of_mem_zip hp).1) (fun h => h _ (List.of_mem_zip hp).2)
    simp [-List.map_map, cmpF, prD, s]
  have l : (hs.zip ws).length < szL := by rw [List.length_zip]; unfold szL; omega
  unfold hpD at c ⊢
  rw [List.length_zip] at l
  simp [-List.map_map, F144_sum_by, zip_ints, c, l, dotI]
/-- whether whole numbers are weights -/
def wOk (m : Int) (ts : List (Int × Int)) (ws : List Int) : Bool := ts.all fun p => decide (hAt ws p.1 ≤ 2 * hAt ws p.2) && decide (hAt ws p.2 ≤ 2 * hAt ws p.1)
theorem wts_loop (n : Nat) (w t : D) (ds : List D) (hd : ∀ d ∈ ds, noDic d = true) : loopF (bodyF (run PG (n + 1)) true (.one 2) B143_0) ds [some (false, w), some (false, t), none, none, none] = if ds.all partOk = true then .ok (.nx [some (false, w), some (false, t), none, none, none]) else .ok (.rt (.bl false)) := by
  have := loop_test id partOk (.bl false) [some (false, w), some (false, t), none, none, none] (f := bodyF (run PG (n + 1)) true (.one 2) B143_0) ds fun d h => by
    have nd := hd d h
    simp [-List.map_map, bodyF, B143_0, is_whole n d nd]
    cases d <;> first | (cases nd; done) | skip
    all_goals simp [-List.map_map, isWh, partOk]
    rename_i i
    by_cases h1 : 0 ≤ i
    · have : ¬ i < 0 := by omega
      simp [-List.map_map, h1, this]
    · have : i < 0 := by omega
      simp [-List.map_map, h1, this]
  simpa [-List.map_map] using this
theorem are_weights (n : Nat) {m : Int} {ts : List (Int × Int)} (hw : ∀ p ∈ ts, 0 ≤ p.1 ∧ p.1 < p.2 ∧ p.2 < m) (hl : ts.length ≤ 1000) {ws : List Int} (hm : (ws.length : Int) = m) (h0 : ∀ x ∈ ws, 0 ≤ x) : run PG (n + 2) 143 [webD m ts, hpD ws] = .ok (.bl (wOk m ts ws)) := by
  rw [run_succ g143]
  have lp := wts_loop n (webD m ts) (hpD ws) (ws.map D.int) (by simp [-List.map_map])
  have ha : (ws.map D.int).all partOk = true := by
    rw [List.all_eq_true]
    intro d hd
    obtain ⟨x, hx, rfl⟩ := List.mem_map.mp hd
    exact decide_eq_true (h0 x hx)
  rw [ha, if_pos rfl] at lp
  have c := compL_all prD D.bl (fun p : Int × Int => decide (hAt ws p.1 ≤ 2 * hAt ws p.2) && decide (hAt ws p.2 ≤ 2 * hAt ws p.1)) (f := cmpF (run PG (n + 1)) (.and [(.cmp .le (.idx (.var 1) (.var 3)) (.bin .mul (.int 2) (.idx (.var 1) (.var 4)))), (.cmp .le (.idx (.var 1) (.var 4)) (.bin .mul (.int 2) (.idx (.var 1) (.var 3))))]) (.tup [3, 4]) none [some (false, webD m ts), some (false, hpD ws), none, none, none]) ts fun p hp => by
    have r := hw p hp
    have i1 := idx_hp (hs := ws) (i := p.1) r.1 (by omega)
    have i2 := idx_hp (hs := ws) (i := p.2) (by omega) (by omega)
    have s2 : small 2 = true := by decide
    simp [-List.map_map, cmpF, prD, i1, i2, s2]
  have l1 : ts.length < szL := by unfold szL; omega
  simp only [F143_are_weights]
  have e1 : idxD (webD m ts) (.int 0) = .ok (.int m) := rfl
  unfold hpD at lp c ⊢
  simp [-List.map_map, hm]
  rw [lp]
  simp [-List.map_map]
  rw [c]
  simp [-List.map_map, l1, all_bls, wOk, List.all_map]
/-- the weights that are halved with each tie -/
def farW (m : Int) (q : List (Int × Int)) (deep : Int) : List Int := (upI m.toNat).map fun x => ((lkI q x).map fun d => 2 ^ (deep - d).toNat).getD 0
theorem farW_len {m : Int} (h : 0 ≤ m) (q : List (Int × Int)) (deep : Int) : ((farW m q deep).length : Int) = m := by unfold farW; simp [-List.map_map]; omega
theorem p2_pos (k : Nat) : (0 : Int) < 2 ^ k := Int.pow_pos (by decide)
theorem p2_mono {a b : Nat} (h : a ≤ b) : (2 : Int) ^ a ≤ 2 ^ b := by
  obtain ⟨c, rfl⟩ := Nat.exists_eq_add_of_le h
  rw [Int.pow_add]
  have h1 := p2_pos a
  have h2 := p2_pos c
  have := Int.mul_le_mul_of_nonneg_left (show (1 : Int) ≤ 2 ^ c by omega) (Int.le_of_lt h1)
  omega
theorem farW_pos (m : Int) (q : List (Int × Int)) (deep : Int) : ∀ x ∈ farW m q deep, 0 ≤ x := fun x hx => by
  obtain ⟨y, _, rfl⟩ := List.mem_map.mp hx
  cases lkI q y with
  | none => exact Int.le_refl _
  | some d => exact Int.le_of_lt (p2_pos _)
theorem farW_ok {m : Int} {ts : List (Int × Int)} (hw : ∀ p ∈ ts, 0 ≤ p.1 ∧ p.1 < p.2 ∧ p.2 < m) {p : Int} {q : List (Int × Int)} (F : FarQ m ts p q) {deep : Int} (hd : ∀ z ∈ q, z.2 ≤ deep) : wOk m ts (farW m q deep) = true := by
  unfold wOk
  rw [List.all_eq_true]
  -- of two that are tied
  have key : ∀ a b, Tied ts a b → hAt (farW m q deep) a ≤ 2 * hAt (farW m q deep) b := fun a b t => by
    have r := tied_rg hw t
    unfold farW
    rw [hAt_up r.1 r.2.1, hAt_up r.2.2.1 r.2.2.2.1]
    cases ha : lkI q a with
    | none =>
      show (0 : Int) ≤ _
      cases lkI q b with
      | none => simp [-List.map_map]
      | some e => have := p2_pos (deep - e).toNat; show (0 : Int) ≤ 2 * 2 ^ (deep - e).toNat; omega
    | some d =>
      have ma := (lkI_mem F.nd).mp ha
      obtain ⟨k, k1, k2⟩ := F.sound _ ma
      obtain ⟨e, h1, h2⟩ := F.full _ _ (k2.snoc t)
      rw [(lkI_mem F.nd).mpr h1]
      show (2 : Int) ^ (deep - d).toNat ≤ 2 * 2 ^ (deep - e).toNat
      have z1 := hd _ ma
      have z2 := hd _ h1
      simp only at k1 z1 z2
      have : (deep - d).toNat ≤ (deep - e).toNat + 1 := by omega
      have h3 : (2 : Int) ^ (deep - d).toNat ≤ 2 ^ ((deep - e).toNat + 1) := p2_mono this
      rw [Int.pow_succ] at h3
      omega
  intro x hx
  have t : Tied ts x.1 x.2 := .inl hx
  simp [-List.map_map, key _ _ t, key _ _ t.symm]
theorem FarQ.ne {m : Int} {ts : List (Int × Int)} {p : Int} {q : List (Int × Int)} (F : FarQ m ts p q) : q ≠ [] := fun e => by
  obtain ⟨e', h, _⟩ := F.full _ _ .nil
  rw [e] at h; cases h
/-- how far the farthest place is -/
theorem FarQ.deep {m : Int} {ts : List (Int × Int)} {p : Int} {q : List (Int × Int)} (F : FarQ m ts p q) : ∃ d, d ∈ q.map (·.2) ∧ (∀ x ∈ q.map (·.2), x ≤ d) ∧ 0 ≤ d ∧ d < m := by
  obtain ⟨d, h1, h2⟩ := max_ex (xs := q.map (·.2)) (by simpa [-List.map_map] using F.ne)
  obtain ⟨z, hz, rfl⟩ := List.mem_map.mp h1
  refine ⟨_, h1, h2, ?_, ?_⟩
  · obtain ⟨k, h, _⟩ := F.sound _ hz; omega
  · obtain ⟨j, hj, h3⟩ := List.mem_iff_getElem.mp hz
    have := F.low j _ (List.getElem?_eq_getElem hj)
    rw [h3] at this
    have := F.len
    omega
theorem by_far (n : Nat) {m : Int} {ts : List (Int × Int)} (hw : WebOk m ts) (hl : ts.length ≤ 1000) {p : Int} (p0 : 0 ≤ p) (p1 : p < m) : ∃ q deep, FarQ m ts p q ∧ deep ∈ q.map (·.2) ∧ (∀ x ∈ q.map (·.2), x ≤ deep) ∧ 0 ≤ deep ∧ deep < m ∧ run PG (n + 3) 150 [webD m ts, .int p] = .ok (hpD (farW m q deep)) := by
  obtain ⟨q, F, e⟩ := fars n hw hl p0 p1
  obtain ⟨w1, w2, w3, w4⟩ := hw
  obtain ⟨deep, d1, d2, d3, d4⟩ := F.deep
  refine ⟨q, deep, F, d1, d2, d3, d4, ?_⟩
  obtain ⟨f1, f2⟩ := fold_set (f := fun d => 2 ^ (deep - d).toNat) (m := m) q (List.replicate m.toNat 0) F.nd F.rg (by simp [-List.map_map]; omega)
  have lp := (loop_fold (fun z : Int × Int => D.int z.1) (fun L : List Int => [some (false, webD m ts), some (false, .int p), some (false, .dic false (kvI q)), some (false, .int deep), some (true, .lst (L.map D.int)), none]) (fun L z => L.set z.1.toNat (2 ^ (deep - z.2).toNat)) (fun L => (L.length : Int) = m)
    (f := bodyF (run PG (n + 2)) true (.one 5) B150_0) q (List.replicate m.toNat 0) (by simp [-List.map_map]; omega) fun L z hz hL => by
      have r := F.rg z hz
      have lk := (lkI_mem F.nd).mpr (show (z.1, z.2) ∈ q from hz)
      have le := d2 z.2 (List.mem_map_of_mem hz)
      obtain ⟨k, k1, _⟩ := F.sound z hz
      have s0 : 0 ≤ deep - z.2 := by omega
      have s1 : deep - z.2 ≤ 1000000 := by omega
      have sp := fun v => seti_pos (j := z.1) v (xs := L.map D.int) r.1 (by simpa [-List.map_map] using (by omega : z.1 < L.length))
      refine ⟨?_, by simpa [-List.map_map] using hL⟩
      simp [-List.map_map, bodyF, B150_0, lk, le, s1, sp, List.map_set]).1
  have fin : q.foldl (fun L z => L.set z.1.toNat (2 ^ (deep - z.2).toNat)) (List.replicate m.toNat 0) = farW m q deep := by
    refine hAt_ext f1 (farW_len (by omega) q deep) fun x h0 h1 => ?_
    rw [f2 x h0]
    unfold farW
    rw [hAt_up h0 h1]
    congr 1
    unfold hAt List.getD
    rw [List.getElem?_replicate]
    split <;> rfl
  rw [fin] at lp
  have mv := maxD_is d1 d2
  rw [run_succ g150]
  have k1 : m ≤ 1000 := by omega
  have k2 : -1000 ≤ m := by omega
  have ek : q.map (fun z : Int × Int => D.int z.1) = (q.map (·.1)).map D.int := by rw [List.map_map]; rfl
  rw [ek] at lp
  simp only [List.map_replicate] at lp
  simp [-List.map_map, F150_weights_by_far, e, mv, k1, k2, rep_one]
  rw [lp]
  simp [-List.map_map, hpD]
end Lib
end

section
set_option autoImplicit true
set_option maxRecDepth 100000
namespace Lib
open PySem Z
/-! laws, cell by cell -/
theorem cells_loop {f : D → Rho → R Out} {ρ : Rho} (h : ∀ c : Int, f (.int c) ρ = .ok (.nx ρ)) : ∀ cs : List Int, loopF f (cs.map D.int) ρ = .ok (.nx ρ)
  | [] => by simp [-List.map_map]
  | c :: cs => by rw [List.map_cons, loop_cons, h c, bR_ok, oRt_nx, cells_loop h cs]
theorem cut_ints (ns : List Int) (a b : Option Int) : cut (ns.map D.int) a b = (cut ns a b).map D.int := by
  unfold cut
  simp only [List.length_map, List.map_drop, List.map_take]
theorem cut_len {α : Type} (ns : List α) (a b : Option Int) : (cut ns a b).length ≤ ns.length := by
  unfold cut
  simp only [List.length_take, List.length_drop]
  omega
@[simp] theorem src_zipLT (xs ys : List D) : srcD .zip [.lst xs, .tup ys] = .ok ((xs.zip ys).map fun p => .tup [p.1, p.2]) := rfl
@[simp] theorem src_zipTL (xs ys : List D) : srcD .zip [.tup xs, .lst ys] = .ok ((xs.zip ys).map fun p => .tup [p.1, p.2]) := rfl
@[simp] theorem int_bl (b : Bool) : biD .int [.bl b] = .ok (.int (if b = true then 1 else 0)) := by cases b <;> rfl
/-- a law's loop over its cells -/
theorem law_cells {C : Calls} {fr : Bool} {p : Pat} {b : List S} {ρ : Rho} {xs : List D} {ns : List Int} (hx : xs = ns.map D.int) (h : ∀ c : Int, bodyF C fr p b (.int c) ρ = .ok (.nx ρ)) : loopF (bodyF C fr p b) xs ρ = .ok (.nx ρ) := by
  rw [hx]; exact cells_loop h ns
theorem pl_ints (ns : List Int) (k : Nat) : plL k (ns.map D.int) = true := by
  induction ns with
  | nil => rfl
  | cons n r ih => simp only [List.map_cons, plL, ih, Bool.and_true]; cases k <;> rfl
theorem same_tup (n : Nat) (ns : List Int) : run PG (n + 2) 12 [hpD ns, hpD ns] = .ok (.bl true) := same 1 n (hpD ns) (pl_ints ns 0)
theorem same_non (n : Nat) : run PG (n + 1) 12 [.non, .non] = .ok (.bl true) := same 0 n .non rfl
theorem same_int (n : Nat) (i : Int) : run PG (n + 1) 12 [.int i, .int i] = .ok (.bl true) := same 0 n (.int i) rfl
theorem same_bl (n : Nat) (i : Bool) : run PG (n + 1) 12 [.bl i, .bl i] = .ok (.bl true) := same 0 n (.bl i) rfl
theorem cell0 (n : Nat) (ns : List Int) : run PG (n + 1) 136 [.fls (ns.map D.int), .int 0] = .ok (.int (ns.getD 0 0)) := cell_at n ns 0
/-! bars -/
theorem bars (n : Nat) {m : Int} {ts : List (Int × Int)} (hw : ∀ p ∈ ts, 0 ≤ p.1 ∧ p.1 < p.2 ∧ p.2 < m) (hl : ts.length ≤ 1000) {hs ws : List Int} (hh : (hs.length : Int) = m) (hm : (ws.length : Int) = m) (m8 : m ≤ 8) (h0 : ∀ x ∈ ws, 0 ≤ x) {p : Int} (p0 : 0 ≤ p) (p1 : p < m) (hs0 : ∀ x ∈ hs, small x = true) :
    run PG (n + 3) 145 [webD m ts, hpD hs, .int p, hpD ws] = .ok (.bl (wOk m ts ws && decide (dotI hs ws < hAt ws p))) := by
  rw [run_succ g145]
  have a := are_weights n hw hl hm h0
  have s : run PG (n + 2) 144 _ = _ := sum_by (n + 1) hs ws (by omega) (.inl hs0)
  have i := idx_hp (hs := ws) p0 (by omega)
  simp [-List.map_map, F145_bars, a, s, i]
  cases wOk m ts ws <;> simp [-List.map_map, s, i]
theorem far_weights (n : Nat) {m : Int} {ts : List (Int × Int)} (hw : WebOk m ts) {p : Int} (p0 : 0 ≤ p) (p1 : p < m) {d : D} (e : run PG (n + 5) 150 [webD m ts, .int p] = .ok d) : run PG (n + 6) 151 [webD m ts, .int p] = .ok d := by
  rw [run_succ g151]
  have b : run PG (n + 5) 18 [webD m ts, .int p] = .ok .non := need_place (n + 2) p0 p1
  simp [-List.map_map, F151_far_weights, need_web n hw, b, e]
theorem small_hp {hs : List Int} (h0 : ∀ x ∈ hs, 0 ≤ x) (h1 : hs.sum ≤ 300) : ∀ x ∈ hs, small x = true := fun x hx => by
  have : x ≤ hs.sum := by
    clear h1
    induction hs with
    | nil => cases hx
    | cons y r ih =>
      have r0 : ∀ z ∈ r, 0 ≤ z := fun z hz => h0 z (List.mem_cons_of_mem _ hz)
      have := sum_nonneg r0
      have y0 := h0 y (List.mem_cons_self ..)
      rw [List.sum_cons]
      rcases List.mem_cons.mp hx with rfl | hx
      · omega
      · have := ih r0 hx; omega
  exact small_of (h0 x hx) (by omega)
theorem bar_for (n : Nat) {m : Int} {ts : List (Int × Int)} (hw : WebOk m ts) (hl : ts.length ≤ 1000) {hs : List Int} (H : HpOk m hs) (h3 : hs.sum ≤ 300) {p : Int} (p0 : 0 ≤ p) (p1 : p < m) {ws : List Int} (hm : (ws.length : Int) = m) (h0 : ∀ x ∈ ws, 0 ≤ x) (ho : wOk m ts ws = true) (e : run PG (n + 5) 150 [webD m ts, .int p] = .ok (hpD ws)) :
    run PG (n + 6) 152 [webD m ts, hpD hs, .int p] = .ok (if dotI hs ws < hAt ws p then hpD ws else .non) := by
  rw [run_succ g152]
  have a : run PG (n + 5) 48 [webD m ts, hpD hs] = .ok .non := need_heap (n + 2) ts H.len H.pos h3
  have b : run PG (n + 5) 18 [webD m ts, .int p] = .ok .non := need_place (n + 2) p0 p1
  have c : run PG (n + 5) 145 [webD m ts, hpD hs, .int p, hpD ws] = _ := bars (n + 2) hw.2.2.1 hl H.len hm hw.2.1 h0 p0 p1 (small_hp H.pos h3)
  simp [-List.map_map, F152_bar_for, need_web n hw, a, b, c, e, ho]
  by_cases h : dotI hs ws < hAt ws p <;> simp [-List.map_map, h]
theorem set_sum : ∀ (hs : List Int) (k : Nat) (v : Int), k < hs.length → (hs.set k v).sum = hs.sum - hs.getD k 0 + v
  | [], k, v, h => by simp [-List.map_map] at h
  | x :: hs, 0, v, _ => by simp [-List.map_map]; omega
  | x :: hs, k + 1, v, h => by
    have := set_sum hs k v (by simpa [-List.map_map] using h)
    simp only [List.set_cons_succ, List.sum_cons]
    have e : (x :: hs).getD (k + 1) 0 = hs.getD k 0 := by simp [-List.map_map, List.getD]
    rw [e, this]
    omega
/-- one place made empty -/
theorem set0_ok {m : Int} {hs : List Int} (H : HpOk m hs) {p : Int} (p0 : 0 ≤ p) (p1 : p < m) : HpOk m (hs.set p.toNat 0) ∧ (hs.set p.toNat 0).sum ≤ hs.sum := by
  have := H.len
  refine ⟨⟨by simpa [-List.map_map] using H.len, fun x hx => ?_⟩, ?_⟩
  · rcases List.mem_or_eq_of_mem_set hx with hx | rfl
    · exact H.pos x hx
    · exact Int.le_refl _
  · rw [set_sum hs _ 0 (by omega)]
    have := hAt_nonneg H.pos p
    unfold hAt at this
    omega
end Lib
end

section
set_option autoImplicit true
set_option maxRecDepth 100000
namespace Lib
open PySem Z
/-! what heaps come of a heap -/
def Moves (ts : List (Int × Int)) (x y : List Int) : Prop := ∃ a b, Tied ts a b ∧ 2 ≤ hAt x a ∧ y = doneL x (a, b)
inductive Reach (ts : List (Int × Int)) (h : List Int) : List Int → Prop
  | nil : Reach ts h h
  | snoc {x y : List Int} : Reach ts h x → Moves ts x y → Reach ts h y
theorem Reach.trans {ts : List (Int × Int)} {a b c : List Int} (h1 : Reach ts a b) (h2 : Reach ts b c) : Reach ts a c := by
  induction h2 with
  | nil => exact h1
  | snoc _ m ih => exact ih.snoc m
/-- heaps of few stones -/
def HpLe (m s : Int) (x : List Int) : Prop := HpOk m x ∧ x.sum ≤ s
theorem moves_ok {m s : Int} {ts : List (Int × Int)} (hw : ∀ p ∈ ts, 0 ≤ p.1 ∧ p.1 < p.2 ∧ p.2 < m) {x y : List Int} (H : HpLe m s x) (h : Moves ts x y) : HpLe m s y ∧ y.sum = x.sum - 1 := by
  obtain ⟨a, b, t, h2, rfl⟩ := h
  have r := tied_rg hw t
  have hl := H.1.len
  have p1 := addAt_nonneg H.1.pos (i := a) (d := -2) (by omega)
  have es : (doneL x (a, b)).sum = x.sum - 1 := by
    unfold doneL
    rw [sum_addAt 1 r.2.2.1 (by rw [addAt_len]; omega), sum_addAt (-2) r.1 (by omega)]
    omega
  refine ⟨⟨⟨by unfold doneL; rw [addAt_len, addAt_len]; exact hl, addAt_nonneg p1 (by have := hAt_nonneg p1 b; simp only; omega)⟩, ?_⟩, es⟩
  have := H.2
  omega
theorem reach_ok {m s : Int} {ts : List (Int × Int)} (hw : ∀ p ∈ ts, 0 ≤ p.1 ∧ p.1 < p.2 ∧ p.2 < m) {h x : List Int} (H : HpLe m s h) (r : Reach ts h x) : HpLe m s x := by
  induction r with
  | nil => exact H
  | snoc _ mv ih => exact (moves_ok hw ih mv).1
/-! how many there are at most -/
def allT (s : Nat) : Nat → List (List Int)
  | 0 => [[]]
  | m + 1 => (upI (s + 1)).flatMap fun x => (allT s m).map fun r => x :: r
theorem flat_len {α β : Type} (f : α → List β) (k : Nat) : ∀ l : List α, (∀ x ∈ l, (f x).length = k) → (l.flatMap f).length = l.length * k
  | [], _ => by simp [-List.map_map]
  | x :: l, h => by
    rw [List.flatMap_cons, List.length_append, h x (List.mem_cons_self ..), flat_len f k l fun y hy => h y (List.mem_cons_of_mem _ hy), List.length_cons, Nat.succ_mul]
    omega
theorem allT_len (s : Nat) : ∀ m : Nat, (allT s m).length = (s + 1) ^ m
  | 0 => rfl
  | m + 1 => by
    unfold allT
    rw [flat_len _ ((s + 1) ^ m) _ fun x _ => by rw [List.length_map, allT_len s m], upI_len, Nat.pow_succ, Nat.mul_comm]
theorem mem_allT (s : Nat) : ∀ (m : Nat) (x : List Int), x.length = m → (∀ y ∈ x, 0 ≤ y) → x.sum ≤ s → x ∈ allT s m
  | 0, x, hl, _, _ => by
    have : x = [] := List.length_eq_zero_iff.mp hl
    subst this; simp [-List.map_map, allT]
  | m + 1, [], hl, _, _ => by simp [-List.map_map] at hl
  | m + 1, y :: r, hl, h0, hs => by
    rw [List.sum_cons] at hs
    have r0 : ∀ z ∈ r, 0 ≤ z := fun z hz => h0 z (List.mem_cons_of_mem _ hz)
    have y0 := h0 y (List.mem_cons_self ..)
    have s0 := sum_nonneg r0
    exact List.mem_flatMap.mpr ⟨y, mem_upI.mpr ⟨y0, by omega⟩, List.mem_map.mpr ⟨r, mem_allT s m r (by simpa [-List.map_map] using hl) r0 (by omega), rfl⟩⟩
theorem sub_lenD {α : Type} [DecidableEq α] : ∀ {l k : List α}, l.Nodup → l ⊆ k → l.length ≤ k.length
  | [], _, _, _ => Nat.zero_le _
  | x :: l, k, nd, h => by
    rw [List.nodup_cons] at nd
    have hx : x ∈ k := h (List.mem_cons_self ..)
    have := sub_lenD (l := l) (k := k.erase x) nd.2 fun y hy => (List.mem_erase_of_ne (by rintro rfl; exact nd.1 hy)).mpr (h (List.mem_cons_of_mem _ hy))
    rw [List.length_erase_of_mem hx] at this
    have := List.length_pos_of_mem hx
    rw [List.length_cons]
    omega
/-- all heaps of at most s stones on m places -/
def allH : Nat → Nat → List (List Int)
  | _, 0 => [[]]
  | s, m + 1 => (List.range (s + 1)).flatMap fun i => (allH (s - i) m).map fun r => (i : Int) :: r
/-- how many these are -/
def hpN : Nat → Nat → Nat
  | _, 0 => 1
  | s, m + 1 => ((List.range (s + 1)).map fun i => hpN (s - i) m).sum
theorem allH_len : ∀ (m s : Nat), (allH s m).length = hpN s m
  | 0, s => rfl
  | m + 1, s => by
    unfold allH hpN
    rw [List.length_flatMap]
    congr 1
    apply List.map_congr_left
    intro i _
    rw [List.length_map, allH_len m]
theorem mem_allH : ∀ (m s : Nat) (x : List Int), x.length = m → (∀ y ∈ x, 0 ≤ y) → x.sum ≤ s → x ∈ allH s m
  | 0, s, x, hl, _, _ => by
    have : x = [] := List.length_eq_zero_iff.mp hl
    subst this; simp [-List.map_map, allH]
  | m + 1, s, [], hl, _, _ => by simp [-List.map_map] at hl
  | m + 1, s, y :: r, hl, h0, hs => by
    rw [List.sum_cons] at hs
    have r0 : ∀ z ∈ r, 0 ≤ z := fun z hz => h0 z (List.mem_cons_of_mem _ hz)
    have y0 := h0 y (List.mem_cons_self ..)
    have s0 := sum_nonneg r0
    exact List.mem_flatMap.mpr ⟨y.toNat, List.mem_range.mpr (by omega), List.mem_map.mpr ⟨r, mem_allH m (s - y.toNat) r (by simpa [-List.map_map] using hl) r0 (by omega), by rw [Int.toNat_of_nonneg y0]⟩⟩
theorem sum_le_mul (k : Nat) : ∀ (l : List Nat), (∀ x ∈ l, x ≤ k) → l.sum ≤ l.length * k
  | [], _ => by simp [-List.map_map]
  | x :: l, h => by
    have h1 := h x (List.mem_cons_self ..)
    have h2 := sum_le_mul k l fun y hy => h y (List.mem_cons_of_mem _ hy)
    rw [List.sum_cons, List.length_cons, Nat.succ_mul]
    omega
theorem hpN_pow : ∀ (m s : Nat), hpN s m ≤ (s + 1) ^ m
  | 0, s => Nat.le_refl _
  | m + 1, s => by
    unfold hpN
    refine Nat.le_trans (sum_le_mul ((s + 1) ^ m) _ fun x hx => ?_) ?_
    · obtain ⟨i, hi, rfl⟩ := List.mem_map.mp hx
      exact Nat.le_trans (hpN_pow m (s - i)) (Nat.pow_le_pow_left (by omega) m)
    · rw [List.length_map, List.length_range, Nat.pow_succ, Nat.mul_comm]
      exact Nat.le_refl _
theorem allH_sub {s t : Nat} (h : s ≤ t) : ∀ (m : Nat) (x : List Int), x ∈ allH s m → x.length = m ∧ (∀ y ∈ x, 0 ≤ y) ∧ x.sum ≤ s
  | 0, x, hx => by simp [-List.map_map, allH] at hx; subst hx; simp [-List.map_map]
  | m + 1, x, hx => by
    obtain ⟨i, hi, hx⟩ := List.mem_flatMap.mp hx
    obtain ⟨r, hr, rfl⟩ := List.mem_map.mp hx
    have hi := List.mem_range.mp hi
    obtain ⟨h1, h2, h3⟩ := allH_sub (s := s - i) (t := t) (by omega) m r hr
    refine ⟨by simp [-List.map_map, h1], fun y hy => ?_, ?_⟩
    · rcases List.mem_cons.mp hy with rfl | hy
      · omega
      · exact h2 y hy
    · rw [List.sum_cons]; omega
theorem hpN_s {m : Nat} : ∀ {s t : Nat}, s ≤ t → hpN s m ≤ hpN t m := by
  induction m with
  | zero => intro s t _; exact Nat.le_refl _
  | succ m ih =>
    intro s t h
    unfold hpN
    have e : List.range (t + 1) = List.range (s + 1) ++ (List.range (t - s)).map (fun i => s + 1 + i) := by
      rw [← List.range_add]; congr 1; omega
    rw [e, List.map_append, List.sum_append]
    have key : ∀ l : List Nat, (l.map fun i => hpN (s - i) m).sum ≤ (l.map fun i => hpN (t - i) m).sum := by
      intro l
      induction l with
      | nil => exact Nat.le_refl _
      | cons a l ih2 =>
        rw [List.map_cons, List.map_cons, List.sum_cons, List.sum_cons]
        have := ih (s := s - a) (t := t - a) (by omega)
        omega
    have := key (List.range (s + 1))
    omega
theorem hpN_m1 (m s : Nat) : hpN s m ≤ hpN s (m + 1) := by
  show hpN s m ≤ ((List.range (s + 1)).map fun i => hpN (s - i) m).sum
  rw [List.range_succ_eq_map, List.map_cons, List.sum_cons]
  simp [-List.map_map]
theorem hpN_m {s m k : Nat} (h : m ≤ k) : hpN s m ≤ hpN s k := by
  obtain ⟨d, rfl⟩ := Nat.le.dest h
  clear h
  induction d with
  | zero => exact Nat.le_refl _
  | succ d ih => exact Nat.le_trans ih (hpN_m1 _ _)
theorem hpN_pos (m s : Nat) : 0 < hpN s m := Nat.lt_of_lt_of_le Nat.one_pos (hpN_m (s := s) (Nat.zero_le m))
theorem hpN_le {s t m k : Nat} (h1 : s ≤ t) (h2 : m ≤ k) : hpN s m ≤ hpN t k := Nat.le_trans (hpN_s h1) (hpN_m h2)
theorem rows_le {m s : Int} (h0 : 0 ≤ s) (m0 : 0 ≤ m) {rows : List (List Int)} (nd : rows.Nodup) (h : ∀ x ∈ rows, HpLe m s x) : rows.length ≤ hpN s.toNat m.toNat := by
  rw [← allH_len]
  exact sub_lenD nd fun x hx => by
    have H := h x hx
    have := H.1.len
    exact mem_allH _ _ x (by omega) H.1.pos (by have := H.2; omega)
/-! dicts whose keys are heaps -/
def kvW (ps : List (List Int × D)) : List (D × D) := ps.map fun p => (hpD p.1, p.2)
theorem eq_hp (a b : List Int) : eqD (hpD a) (hpD b) = decide (a = b) := eqL_ints a b
def lkW (ps : List (List Int × D)) (x : List Int) : Option D := match ps with
  | [] => none
  | (a, d) :: r => if a = x then some d else lkW r x
@[simp] theorem dget_W (x : List Int) : ∀ ps : List (List Int × D), dget (kvW ps) (hpD x) = lkW ps x
  | [] => rfl
  | (a, d) :: r => by
    show (if eqD (hpD a) (hpD x) = true then some d else dget (kvW r) (hpD x)) = _
    rw [eq_hp, dget_W x r]
    conv => rhs; unfold lkW
    by_cases h : a = x <;> simp [-List.map_map, h]
theorem lkW_none {ps : List (List Int × D)} {x : List Int} : lkW ps x = none ↔ x ∉ ps.map (·.1) := by
  induction ps with
  | nil => simp [-List.map_map, lkW]
  | cons p r ih =>
    obtain ⟨a, b⟩ := p
    unfold lkW
    by_cases h : a = x
    · simp [-List.map_map, h]
    · rw [if_neg h, ih, List.map_cons, List.mem_cons]
      constructor
      · intro h1 h2
        rcases h2 with rfl | h2
        · exact h rfl
        · exact h1 h2
      · exact fun h1 h2 => h1 (.inr h2)
theorem dput_W {ps : List (List Int × D)} {x : List Int} {d : D} (h : lkW ps x = none) : dput (kvW ps) (hpD x) d = kvW (ps ++ [(x, d)]) := by
  have n : ((kvW ps).any fun p => eqD p.1 (hpD x)) = false := by
    rw [List.any_eq_false]
    intro p hp
    obtain ⟨⟨a, b⟩, hq, rfl⟩ := List.mem_map.mp hp
    have : a ≠ x := fun e => lkW_none.mp h (by rw [← e]; exact List.mem_map_of_mem (f := (·.1)) hq)
    simp [-List.map_map, eq_hp, this]
  unfold dput
  rw [n]
  simp [-List.map_map, kvW]
@[simp] theorem kvW_len (ps : List (List Int × D)) : (kvW ps).length = ps.length := List.length_map ..
theorem kvW_keys (ps : List (List Int × D)) : (kvW ps).map (·.1) = (ps.map (·.1)).map hpD := by unfold kvW; rw [List.map_map, List.map_map]; rfl
theorem lkW_mem {ps : List (List Int × D)} {x : List Int} {d : D} (h : lkW ps x = some d) : (x, d) ∈ ps := by
  induction ps with
  | nil => cases h
  | cons p r ih =>
    obtain ⟨a, b⟩ := p
    unfold lkW at h
    split at h
    · rename_i e; injection h with h; subst e h; exact List.mem_cons_self ..
    · exact List.mem_cons_of_mem _ (ih h)
/-- the search goes on -/
structure SrI (m s : Int) (ts : List (Int × Int)) (h : List Int) (rows : List (List Int)) : Prop where
  nd : rows.Nodup
  ok : ∀ x ∈ rows, HpLe m s x
  re : ∀ x ∈ rows, Reach ts h x
  hd : h ∈ rows
theorem SrI.full {m s : Int} {ts : List (Int × Int)} {h : List Int} {rows : List (List Int)} (S : SrI m s ts h rows) (c : ∀ x ∈ rows, ∀ y, Moves ts x y → y ∈ rows) (x : List Int) : x ∈ rows ↔ Reach ts h x :=
  ⟨S.re x, fun r => by
    induction r with
    | nil => exact S.hd
    | snoc _ mv ih => exact c _ ih _ mv⟩
theorem SrI.add {m s : Int} {ts : List (Int × Int)} (hw : ∀ p ∈ ts, 0 ≤ p.1 ∧ p.1 < p.2 ∧ p.2 < m) {h : List Int} {rows : List (List Int)} (S : SrI m s ts h rows) {x y : List Int} (hx : x ∈ rows) (mv : Moves ts x y) (hy : y ∉ rows) : SrI m s ts h (rows ++ [y]) where
  nd := List.nodup_append.mpr ⟨S.nd, by simp [-List.map_map], fun a ha b hb => by
    have : b = y := by simpa [-List.map_map] using hb
    subst this
    intro e; subst e; exact hy ha⟩
  ok := fun z hz => by
    rcases List.mem_append.mp hz with hz | hz
    · exact S.ok z hz
    · have : z = y := by simpa [-List.map_map] using hz
      subst this
      exact (moves_ok hw (S.ok x hx) mv).1
  re := fun z hz => by
    rcases List.mem_append.mp hz with hz | hz
    · exact S.re z hz
    · have : z = y := by simpa [-List.map_map] using hz
      subst this
      exact (S.re x hx).snoc mv
  hd := List.mem_append_left _ S.hd
theorem SrI.len {m s : Int} {ts : List (Int × Int)} {h : List Int} {rows : List (List Int)} (S : SrI m s ts h rows) (m0 : 0 ≤ m) (s0 : 0 ≤ s) : rows.length ≤ hpN s.toNat m.toNat := rows_le s0 m0 S.nd S.ok
end Lib
end

section
set_option autoImplicit true
set_option maxRecDepth 100000
namespace Lib
open PySem Z
/-! the steps that can be done, as the laws find them -/
def may1 (hs : List Int) (p : Int × Int) : List (Int × Int) := (if 1 < hAt hs p.1 then [p] else []) ++ (if 1 < hAt hs p.2 then [swp p] else [])
theorem may_loop (n : Nat) (w : D) {m : Int} {hs : List Int} (hm : (hs.length : Int) = m) : ∀ (ts acc : List (Int × Int)), (∀ p ∈ ts, 0 ≤ p.1 ∧ p.1 < p.2 ∧ p.2 < m) → acc.length + 2 * ts.length < 10000 →
    loopF (bodyF (run PG n) true (.tup [3, 4]) B99_0) (ts.map prD) [some (false, w), some (false, hpD hs), some (true, .lst (acc.map prD)), none, none] = .ok (.nx [some (false, w), some (false, hpD hs), some (true, .lst ((acc ++ ts.flatMap (may1 hs)).map prD)), none, none])
  | [], acc, _, _ => by simp [-List.map_map]
  | p :: ts, acc, hw, hl => by
    rw [List.length_cons] at hl
    obtain ⟨r1, r2, r3⟩ := hw p (List.mem_cons_self ..)
    have a1 := idx_hp (hs := hs) r1 (by omega)
    have a2 := idx_hp (hs := hs) (i := p.2) (by omega) (by omega)
    have l1 : acc.length < szL := by unfold szL; omega
    have l2 : acc.length + 1 < szL := by unfold szL; omega
    have turn : bodyF (run PG n) true (.tup [3, 4]) B99_0 (prD p) [some (false, w), some (false, hpD hs), some (true, .lst (acc.map prD)), none, none] =
        .ok (.nx [some (false, w), some (false, hpD hs), some (true, .lst ((acc ++ may1 hs p).map prD)), none, none]) := by
      by_cases e1 : 1 < hAt hs p.1 <;> by_cases e2 : 1 < hAt hs p.2 <;> simp [-List.map_map, bodyF, B99_0, prD, a1, a2, e1, e2, l1, l2, may1, swp]
    have lm : (may1 hs p).length ≤ 2 := by
      unfold may1
      by_cases e1 : 1 < hAt hs p.1 <;> by_cases e2 : 1 < hAt hs p.2 <;> simp [-List.map_map, e1, e2]
    have e := may_loop n w hm ts (acc ++ may1 hs p) (fun q hq => hw q (List.mem_cons_of_mem _ hq)) (by rw [List.length_append]; omega)
    rw [List.map_cons, loop_cons, turn, bR_ok, oRt_nx, e, List.flatMap_cons, List.append_assoc]
theorem may_perm (hs : List Int) : ∀ ts : List (Int × Int), ((ts ++ ts.map swp).filter fun p => decide (2 ≤ hAt hs p.1)).Perm (ts.flatMap (may1 hs))
  | [] => .nil
  | p :: ts => by
    have ih := may_perm hs ts
    rw [List.flatMap_cons]
    refine List.Perm.trans ?_ (ih.append_left (may1 hs p))
    rw [List.filter_append] at ih ⊢
    rw [List.filter_append, List.map_cons]
    have e1 : (1 < hAt hs p.1) ↔ 2 ≤ hAt hs p.1 := by omega
    have e2 : (1 < hAt hs p.2) ↔ 2 ≤ hAt hs p.2 := by omega
    unfold may1
    simp only [e1, e2]
    have s1 : (swp p).1 = p.2 := rfl
    by_cases c1 : 2 ≤ hAt hs p.1 <;> by_cases c2 : 2 ≤ hAt hs p.2
    · rw [List.filter_cons_of_pos (by simpa [-List.map_map] using c1), List.filter_cons_of_pos (by simpa [-List.map_map, s1] using c2), if_pos c1, if_pos c2]
      simp only [List.cons_append, List.nil_append]
      refine .cons _ ?_
      exact List.perm_middle
    · rw [List.filter_cons_of_pos (by simpa [-List.map_map] using c1), List.filter_cons_of_neg (by simpa [-List.map_map, s1] using c2), if_pos c1, if_neg c2]
      exact .refl _
    · rw [List.filter_cons_of_neg (by simpa [-List.map_map] using c1), List.filter_cons_of_pos (by simpa [-List.map_map, s1] using c2), if_neg c1, if_pos c2]
      simp only [List.cons_append, List.nil_append]
      exact List.perm_middle
    · rw [List.filter_cons_of_neg (by simpa [-List.map_map] using c1), List.filter_cons_of_neg (by simpa [-List.map_map, s1] using c2), if_neg c1, if_neg c2]
      exact .refl _
theorem may_len (hs : List Int) : ∀ ts : List (Int × Int), (ts.flatMap (may1 hs)).length ≤ 2 * ts.length
  | [] => by simp [-List.map_map]
  | p :: ts => by
    have lm : (may1 hs p).length ≤ 2 := by
      unfold may1
      by_cases e1 : 1 < hAt hs p.1 <;> by_cases e2 : 1 < hAt hs p.2 <;> simp [-List.map_map, e1, e2]
    have := may_len hs ts
    rw [List.flatMap_cons, List.length_append, List.length_cons]
    omega
theorem law_may (n : Nat) {m : Int} {ts : List (Int × Int)} {hs : List Int} (hw : ∀ p ∈ ts, 0 ≤ p.1 ∧ p.1 < p.2 ∧ p.2 < m) (hm : (hs.length : Int) = m) (hl : ts.length ≤ 1000) :
    run PG (n + 1) 99 [webD m ts, hpD hs] = .ok (.lst ((mayOf ts hs).map prD)) := by
  rw [run_succ g99]
  have e := may_loop n (webD m ts) hm ts [] hw (by simp [-List.map_map]; omega)
  have pp : (mayOf ts hs).Perm (ts.flatMap (may1 hs)) := ((isortP (ts ++ ts.map swp)).1.filter _).trans (may_perm hs ts)
  have ss : (mayOf ts hs).Pairwise fun a b => leP a b = true := (isortP (ts ++ ts.map swp)).2.sublist List.filter_sublist
  have s := sort_pr (by have := may_len hs ts; unfold szL; omega) pp ss
  simp only [List.map_nil, List.nil_append] at e
  simp [-List.map_map, F99_law_may]
  rw [e]
  simp [-List.map_map, s]
theorem mem_may {ts : List (Int × Int)} {hs : List Int} {p : Int × Int} : p ∈ mayOf ts hs ↔ Tied ts p.1 p.2 ∧ 2 ≤ hAt hs p.1 := by
  unfold mayOf
  rw [List.mem_filter, ← tied_steps]
  simp [-List.map_map]
theorem moves_may {ts : List (Int × Int)} {x y : List Int} : Moves ts x y ↔ ∃ p ∈ mayOf ts x, y = doneL x p :=
  ⟨fun ⟨a, b, t, h, e⟩ => ⟨(a, b), mem_may.mpr ⟨t, h⟩, e⟩, fun ⟨p, h, e⟩ => ⟨p.1, p.2, (mem_may.mp h).1, (mem_may.mp h).2, e⟩⟩
theorem law_moved (n : Nat) {hs : List Int} {p : Int × Int} (h1 : 0 ≤ p.1) (h2 : p.1 < hs.length) (h3 : 0 ≤ p.2) (h4 : p.2 < hs.length) : run PG (n + 1) 101 [hpD hs, prD p] = .ok (hpD (doneL hs p)) := by
  rw [run_succ g101]
  have e1 := idx_ints h1 h2
  have e2 := augi_at (d := -2) h1 h2
  have e3 := idx_ints (hs := addAt hs p.1 (-2)) h3 (by simpa [-List.map_map] using h4)
  have e4 := augi_at (hs := addAt hs p.1 (-2)) (d := 1) h3 (by simpa [-List.map_map] using h4)
  simp only [idx_lst] at e1 e3
  have sub : hAt hs p.1 - 2 = hAt hs p.1 + -2 := rfl
  simp [-List.map_map, F101_law_moved, prD, hpD, e1, sub, e2, e3, e4, doneL]
/-! the search, as the program does it -/
def newV (x : List Int) (ps : List (List Int × D)) (s : Int × Int) : List (List Int × D) := if doneL x s ∈ ps.map (·.1) then ps else ps ++ [(doneL x s, .tup [hpD x, prD s])]
structure AbI (m s : Int) (ts : List (Int × Int)) (h : List Int) (ps : List (List Int × D)) : Prop where
  S : SrI m s ts h (ps.map (·.1))
/-- where each heap came from -/
def FromOk (ts : List (Int × Int)) (h : List Int) (ps : List (List Int × D)) : Prop := ∀ i (p : List Int × D), ps[i]? = some p → (i = 0 ∧ p = (h, .non)) ∨ ∃ j x d s, j < i ∧ ps[j]? = some (x, d) ∧ s ∈ mayOf ts x ∧ p = (doneL x s, .tup [hpD x, prD s])
theorem new_ok {m s : Int} {ts : List (Int × Int)} (hw : ∀ p ∈ ts, 0 ≤ p.1 ∧ p.1 < p.2 ∧ p.2 < m) {h x : List Int} {i : Nat} {d : D} : ∀ (ss : List (Int × Int)) (ps : List (List Int × D)), (∀ q ∈ ss, q ∈ mayOf ts x) → SrI m s ts h (ps.map (·.1)) → FromOk ts h ps → ps[i]? = some (x, d) →
    ∃ r, ss.foldl (newV x) ps = ps ++ r ∧ SrI m s ts h ((ps ++ r).map (·.1)) ∧ FromOk ts h (ps ++ r) ∧ ∀ q ∈ ss, doneL x q ∈ (ps ++ r).map (·.1)
  | [], ps, _, S, F, _ => ⟨[], by simp [-List.map_map], by simpa [-List.map_map] using S, by simpa [-List.map_map] using F, by simp [-List.map_map]⟩
  | q :: ss, ps, hq, S, F, hx => by
    have mq := hq q (List.mem_cons_self ..)
    have hq' : ∀ p ∈ ss, p ∈ mayOf ts x := fun p hp => hq p (List.mem_cons_of_mem _ hp)
    by_cases hm : doneL x q ∈ ps.map (·.1)
    · obtain ⟨r, k1, k2, k3, k4⟩ := new_ok hw ss ps hq' S F hx
      refine ⟨r, ?_, k2, k3, fun z hz => ?_⟩
      · rw [List.foldl_cons]
        have : newV x ps q = ps := by unfold newV; rw [if_pos hm]
        rw [this, k1]
      · rcases List.mem_cons.mp hz with rfl | hz
        · rw [List.map_append]; exact List.mem_append_left _ hm
        · exact k4 z hz
    · have hi := (List.getElem?_eq_some_iff.mp hx).1
      have mx : x ∈ ps.map (·.1) := List.mem_map.mpr ⟨(x, d), List.mem_of_getElem? hx, rfl⟩
      have S2 : SrI m s ts h ((ps ++ [(doneL x q, D.tup [hpD x, prD q])]).map (·.1)) := by
        rw [List.map_append]; exact S.add hw mx (moves_may.mpr ⟨q, mq, rfl⟩) hm
      have F2 : FromOk ts h (ps ++ [(doneL x q, D.tup [hpD x, prD q])]) := fun j p hj => by
        by_cases hlt : j < ps.length
        · rw [List.getElem?_append_left hlt] at hj
          rcases F j p hj with e | ⟨k, y, d', s', h1, h2, h3, h4⟩
          · exact .inl e
          · exact .inr ⟨k, y, d', s', h1, by rw [List.getElem?_append_left (by omega)]; exact h2, h3, h4⟩
        · rw [List.getElem?_append_right (by omega)] at hj
          have e0 : j - ps.length = 0 := by
            by_cases h : j - ps.length = 0
            · exact h
            · rw [List.getElem?_eq_none (by simp [-List.map_map]; omega)] at hj; cases hj
          rw [e0] at hj
          have hj : p = (doneL x q, D.tup [hpD x, prD q]) := by simpa [-List.map_map] using hj.symm
          exact .inr ⟨i, x, d, q, by omega, by rw [List.getElem?_append_left hi]; exact hx, mq, hj⟩
      obtain ⟨r, k1, k2, k3, k4⟩ := new_ok hw ss (ps ++ [(doneL x q, D.tup [hpD x, prD q])]) hq' S2 F2 (by rw [List.getElem?_append_left hi]; exact hx)
      refine ⟨(doneL x q, D.tup [hpD x, prD q]) :: r, ?_, by simpa [-List.map_map] using k2, by simpa [-List.map_map] using k3, fun z hz => ?_⟩
      · rw [List.foldl_cons]
        have : newV x ps q = ps ++ [(doneL x q, D.tup [hpD x, prD q])] := by unfold newV; rw [if_neg hm]
        rw [this, k1]
        simp [-List.map_map]
      · rcases List.mem_cons.mp hz with rfl | hz
        · simp [-List.map_map]
        · have := k4 z hz; simpa [-List.map_map] using this
theorem srI_one {m s : Int} {ts : List (Int × Int)} {h : List Int} (H : HpLe m s h) : SrI m s ts h [h] := by
  have one : ∀ x ∈ [h], x = h := fun x hx => by simpa [-List.map_map] using hx
  exact ⟨by simp [-List.map_map], fun x hx => by rw [one x hx]; exact H, fun x hx => by rw [one x hx]; exact .nil, by simp [-List.map_map]⟩
theorem newV_ok {m s : Int} {ts : List (Int × Int)} (hw : ∀ p ∈ ts, 0 ≤ p.1 ∧ p.1 < p.2 ∧ p.2 < m) {h x : List Int} {i : Nat} {d : D} {ps : List (List Int × D)} {q : Int × Int} (hq : q ∈ mayOf ts x) (S : SrI m s ts h (ps.map (·.1))) (F : FromOk ts h ps) (hx : ps[i]? = some (x, d)) :
    SrI m s ts h ((newV x ps q).map (·.1)) ∧ FromOk ts h (newV x ps q) ∧ (newV x ps q)[i]? = some (x, d) := by
  obtain ⟨r, k1, k2, k3, _⟩ := new_ok hw [q] ps (fun z hz => by
    have : z = q := by simpa [-List.map_map] using hz
    subst this; exact hq) S F hx
  have e : newV x ps q = ps ++ r := k1
  rw [e]
  exact ⟨k2, k3, by rw [List.getElem?_append_left (List.getElem?_eq_some_iff.mp hx).1]; exact hx⟩
theorem ab_loop (n : Nat) {m s : Int} {ts : List (Int × Int)} (hw : WebOk m ts) (s0 : 0 ≤ s) (hK : hpN s.toNat m.toNat < 1000000) {h x : List Int} {i : Nat} {d : D} (hp : D) (ps : List (List Int × D)) (S : SrI m s ts h (ps.map (·.1))) (F : FromOk ts h ps) (hx : ps[i]? = some (x, d)) :
    loopF (bodyF (run PG (n + 1)) true (.one 5) B60_0) ((mayOf ts x).map prD) [some (false, webD m ts), some (false, hp), some (true, .dic true (kvW ps)), some (true, .lst ((ps.map (·.1)).map hpD)), some (false, .int i), none, none] =
      .ok (.nx [some (false, webD m ts), some (false, hp), some (true, .dic true (kvW ((mayOf ts x).foldl (newV x) ps))), some (true, .lst ((((mayOf ts x).foldl (newV x) ps).map (·.1)).map hpD)), some (false, .int i), none, none]) :=
  (loop_fold prD (fun ps : List (List Int × D) => [some (false, webD m ts), some (false, hp), some (true, .dic true (kvW ps)), some (true, .lst ((ps.map (·.1)).map hpD)), some (false, .int i), none, none]) (newV x) (fun ps => SrI m s ts h (ps.map (·.1)) ∧ FromOk ts h ps ∧ ps[i]? = some (x, d)) (mayOf ts x) ps ⟨S, F, hx⟩ fun ps q hq I => by
    obtain ⟨S, F, hx⟩ := I
    refine ⟨?_, newV_ok hw.2.2.1 hq S F hx⟩
    have hl := S.len (by have := hw.1; omega) s0
    rw [List.length_map] at hl
    have l1 : ps.length < szL := by unfold szL; omega
    have mx : x ∈ ps.map (·.1) := List.mem_map.mpr ⟨(x, d), List.mem_of_getElem? hx, rfl⟩
    have hlen := (S.ok x mx).1.len
    have t := mem_may.mp hq
    have r := tied_rg hw.2.2.1 t.1
    have ed := done n (hs := x) (p := q) r.1 (by omega) r.2.2.1 (by omega)
    have hr : atI ((ps.map (·.1)).map hpD) (i : Int) = some (hpD x) := by
      rw [at_nat, List.getElem?_map, List.getElem?_map, hx]; rfl
    unfold newV
    cases hk : lkW ps (doneL x q) with
    | some v =>
      have hm : doneL x q ∈ ps.map (·.1) := List.mem_map.mpr ⟨_, lkW_mem hk, rfl⟩
      rw [if_pos hm]
      simp [-List.map_map, bodyF, B60_0, hr, ed, hk]
    | none =>
      have hm := lkW_none.mp hk
      rw [if_neg hm]
      have dp := dput_W (d := .tup [hpD x, prD q]) hk
      simp [-List.map_map, bodyF, B60_0, hr, ed, hk, dp, l1]).1
/-- all heaps that come of one -/
theorem all_behind (n : Nat) {m s : Int} {ts : List (Int × Int)} (hw : WebOk m ts) (hl : ts.length ≤ 1000) (s0 : 0 ≤ s) (hK : hpN s.toNat m.toNat < 1000000) {h : List Int} (H : HpLe m s h) :
    ∃ ps, SrI m s ts h (ps.map (·.1)) ∧ FromOk ts h ps ∧ (∀ x, x ∈ ps.map (·.1) ↔ Reach ts h x) ∧ run PG (n + 3) 60 [webD m ts, hpD h] = .ok (.dic true (kvW ps)) := by
  have w1 := hw.1
  have w3 := hw.2.2.1
  have wl := while_inv (σ := List (List Int × D) × Nat) (fun u => [some (false, webD m ts), some (false, hpD h), some (true, .dic true (kvW u.1)), some (true, .lst ((u.1.map (·.1)).map hpD)), some (false, .int u.2), none, none])
    (fun u => SrI m s ts h (u.1.map (·.1)) ∧ FromOk ts h u.1 ∧ u.2 ≤ u.1.length ∧ ∀ j (p : List Int × D), j < u.2 → u.1[j]? = some p → ∀ y, Moves ts p.1 y → y ∈ u.1.map (·.1)) (fun u => hpN s.toNat m.toNat - u.2) (c := testF (run PG (n + 2)) C60_1) (f := bodyW (run PG (n + 2)) true B60_1) (fun u hu => by
      obtain ⟨ps, i⟩ := u
      obtain ⟨S, F, hi, hc⟩ := hu
      simp only at S F hi hc
      refine ⟨decide (i < ps.length), by simp [-List.map_map, testF, C60_1], fun hb => ?_⟩
      have hb := of_decide_eq_true hb
      obtain ⟨⟨x, d⟩, hx⟩ : ∃ z, ps[i]? = some z := ⟨_, List.getElem?_eq_getElem hb⟩
      have mx : x ∈ ps.map (·.1) := List.mem_map.mpr ⟨(x, d), List.mem_of_getElem? hx, rfl⟩
      have hr : atI ((ps.map (·.1)).map hpD) (i : Int) = some (hpD x) := by
        rw [at_nat, List.getElem?_map, List.getElem?_map, hx]; rfl
      have em : run PG (n + 2) 53 _ = _ := may_step n w3 (S.ok x mx).1.len hl
      have lp := ab_loop (n + 1) hw s0 hK (hpD h) ps S F hx
      obtain ⟨r, k1, k2, k3, k4⟩ := new_ok w3 (mayOf ts x) ps (fun q hq => hq) S F hx
      have hl2 := k2.len (by omega) s0
      rw [List.length_map, List.length_append] at hl2
      refine ⟨(ps ++ r, i + 1), ?_, ⟨k2, k3, by simp [-List.map_map]; omega, fun j p hj hp y hy => ?_⟩, by simp only; omega⟩
      · simp [-List.map_map, bodyW, B60_1, hr, em]
        rw [lp, k1]
        simp [-List.map_map]
      · by_cases hlt : j < i
        · simp only at hp
          rw [List.getElem?_append_left (by omega)] at hp
          have := hc j p hlt hp y hy
          simp only [List.map_append]
          exact List.mem_append_left _ this
        · have : j = i := by simp only at hj; omega
          subst this
          simp only at hp
          rw [List.getElem?_append_left hb, hx] at hp
          injection hp with hp
          subst hp
          obtain ⟨q, hq, rfl⟩ := moves_may.mp hy
          exact k4 q hq)
  have S0 : SrI m s ts h ([(h, D.non)].map (·.1)) := srI_one H
  have F0 : FromOk ts h [(h, D.non)] := fun i p hp => by
    cases i with
    | zero => simp [-List.map_map] at hp; exact .inl ⟨rfl, hp.symm⟩
    | succ i => simp [-List.map_map] at hp
  obtain ⟨⟨ps, i⟩, e, ⟨S, F, hi, hc⟩, hf⟩ := wl 1000000 ([(h, .non)], 0) ⟨S0, F0, by simp [-List.map_map], fun j p hj => by simp [-List.map_map] at hj⟩ (by simp only; omega)
  simp only at e S F hi hc hf
  have hi2 : i = ps.length := by
    simp [-List.map_map, testF, C60_1] at hf
    omega
  subst hi2
  refine ⟨ps, S, F, S.full fun x hx y hy => ?_, ?_⟩
  · obtain ⟨⟨x', d⟩, hm, rfl⟩ := List.mem_map.mp hx
    obtain ⟨j, hj, e2⟩ := List.mem_iff_getElem.mp hm
    exact hc j (x', d) hj (by rw [List.getElem?_eq_getElem hj, e2]) y hy
  rw [run_succ g60]
  have k0 : kvW [(h, D.non)] = [(hpD h, D.non)] := rfl
  simp only [k0] at e
  simp [-List.map_map, F60_all_behind]
  simp [-List.map_map] at e
  rw [e]
  simp [-List.map_map]
end Lib
end

section
set_option autoImplicit true
set_option maxRecDepth 100000
namespace Lib
open PySem Z
/-! the search, as the laws do it -/
def addN (x : List Int) (u : List (List Int) × List (List Int)) (q : Int × Int) : List (List Int) × List (List Int) := if doneL x q ∈ u.1 then u else (u.1 ++ [doneL x q], u.2 ++ [doneL x q])
theorem addN_ok {m s : Int} {ts : List (Int × Int)} (hw : ∀ p ∈ ts, 0 ≤ p.1 ∧ p.1 < p.2 ∧ p.2 < m) {h x : List Int} : ∀ (ss : List (Int × Int)) (rows acc : List (List Int)), (∀ q ∈ ss, q ∈ mayOf ts x) → SrI m s ts h rows → x ∈ rows →
    ∃ r, ss.foldl (addN x) (rows, acc) = (rows ++ r, acc ++ r) ∧ SrI m s ts h (rows ++ r) ∧ ∀ q ∈ ss, doneL x q ∈ rows ++ r
  | [], rows, acc, _, S, _ => ⟨[], by simp [-List.map_map], by simpa [-List.map_map] using S, by simp [-List.map_map]⟩
  | q :: ss, rows, acc, hq, S, hx => by
    have mq := hq q (List.mem_cons_self ..)
    have hq' : ∀ p ∈ ss, p ∈ mayOf ts x := fun p hp => hq p (List.mem_cons_of_mem _ hp)
    rw [List.foldl_cons]
    by_cases hm : doneL x q ∈ rows
    · obtain ⟨r, k1, k2, k3⟩ := addN_ok hw ss rows acc hq' S hx
      refine ⟨r, ?_, k2, fun z hz => ?_⟩
      · have : addN x (rows, acc) q = (rows, acc) := by unfold addN; rw [if_pos hm]
        rw [this, k1]
      · rcases List.mem_cons.mp hz with rfl | hz
        · exact List.mem_append_left _ hm
        · exact k3 z hz
    · obtain ⟨r, k1, k2, k3⟩ := addN_ok hw ss (rows ++ [doneL x q]) (acc ++ [doneL x q]) hq' (S.add hw hx (moves_may.mpr ⟨q, mq, rfl⟩) hm) (List.mem_append_left _ hx)
      refine ⟨doneL x q :: r, ?_, by simpa [-List.map_map] using k2, fun z hz => ?_⟩
      · have : addN x (rows, acc) q = (rows ++ [doneL x q], acc ++ [doneL x q]) := by unfold addN; rw [if_neg hm]
        rw [this, k1]
        simp [-List.map_map]
      · rcases List.mem_cons.mp hz with rfl | hz
        · simp [-List.map_map]
        · have := k3 z hz; simpa [-List.map_map] using this
def layF (ts : List (Int × Int)) (u : List (List Int) × List (List Int)) (x : List Int) : List (List Int) × List (List Int) := (mayOf ts x).foldl (addN x) u
theorem lay_ok {m s : Int} {ts : List (Int × Int)} (hw : ∀ p ∈ ts, 0 ≤ p.1 ∧ p.1 < p.2 ∧ p.2 < m) {h : List Int} : ∀ (xs rows acc : List (List Int)), (∀ x ∈ xs, x ∈ rows) → SrI m s ts h rows →
    ∃ r, xs.foldl (layF ts) (rows, acc) = (rows ++ r, acc ++ r) ∧ SrI m s ts h (rows ++ r) ∧ ∀ x ∈ xs, ∀ y, Moves ts x y → y ∈ rows ++ r
  | [], rows, acc, _, S => ⟨[], by simp [-List.map_map], by simpa [-List.map_map] using S, by simp [-List.map_map]⟩
  | x :: xs, rows, acc, hx, S => by
    obtain ⟨r1, a1, a2, a3⟩ := addN_ok hw (mayOf ts x) rows acc (fun q hq => hq) S (hx x (List.mem_cons_self ..))
    obtain ⟨r2, b1, b2, b3⟩ := lay_ok hw xs (rows ++ r1) (acc ++ r1) (fun z hz => List.mem_append_left _ (hx z (List.mem_cons_of_mem _ hz))) a2
    refine ⟨r1 ++ r2, ?_, by rw [← List.append_assoc]; exact b2, fun z hz y hy => ?_⟩
    · rw [List.foldl_cons]
      show xs.foldl (layF ts) ((mayOf ts x).foldl (addN x) (rows, acc)) = _
      rw [a1, b1, List.append_assoc, List.append_assoc]
    · rw [← List.append_assoc]
      rcases List.mem_cons.mp hz with rfl | hz
      · obtain ⟨q, hq, rfl⟩ := moves_may.mp hy
        exact List.mem_append_left _ (a3 q hq)
      · exact b3 z hz y hy
def kvT (rows : List (List Int)) : List (D × D) := kvW (rows.map fun x => (x, .bl true))
theorem kvT_keys (rows : List (List Int)) : (kvT rows).map (·.1) = rows.map hpD := by
  unfold kvT; rw [kvW_keys, List.map_map, List.map_map]; rfl
@[simp] theorem kvT_len (rows : List (List Int)) : (kvT rows).length = rows.length := by unfold kvT; simp [-List.map_map]
theorem dget_T (rows : List (List Int)) (x : List Int) : dget (kvT rows) (hpD x) = if x ∈ rows then some (.bl true) else none := by
  unfold kvT
  rw [dget_W]
  induction rows with
  | nil => rfl
  | cons a r ih =>
    rw [List.map_cons]
    unfold lkW
    by_cases h : a = x
    · subst h; simp [-List.map_map]
    · rw [if_neg h, ih]
      have : (x ∈ a :: r) = (x ∈ r) := by simp [-List.map_map, Ne.symm h]
      simp only [this]
theorem dput_T {rows : List (List Int)} {x : List Int} (h : x ∉ rows) : dput (kvT rows) (hpD x) (.bl true) = kvT (rows ++ [x]) := by
  unfold kvT
  rw [dput_W, List.map_append]
  · rfl
  · rw [lkW_none, List.map_map]
    simpa [-List.map_map] using h
theorem pl_hp (x : List Int) (k : Nat) : plD (k + 1) (hpD x) = true := pl_ints x k
theorem pl_hps (rows : List (List Int)) (k : Nat) : plL (k + 1) (rows.map hpD) = true := by
  induction rows with
  | nil => rfl
  | cons x r ih => simp only [List.map_cons, plL, pl_hp, ih]; rfl
theorem ne_nil (rows : List (List Int)) : eqR (.lst (rows.map hpD)) (.lst []) = .ok (decide (rows = [])) := by
  rw [eqR_def, gd_pos ⟨pl_hps rows 18, rfl⟩]
  cases rows <;> rfl
theorem lb_in (n : Nat) {m s : Int} {ts : List (Int × Int)} (hw : WebOk m ts) (s0 : 0 ≤ s) (hK : hpN s.toNat m.toNat < 1000000) {h x : List Int} (a b r : D) (rows acc : List (List Int)) (S : SrI m s ts h rows) (hx : x ∈ rows) (ha : acc.length ≤ rows.length) :
    loopF (bodyF (run PG (n + 1)) true (.one 6) B197_0) ((mayOf ts x).map prD) [some (false, a), some (false, b), some (true, .dic true (kvT rows)), some (false, r), some (true, .lst (acc.map hpD)), some (false, hpD x), none, none] =
      .ok (.nx [some (false, a), some (false, b), some (true, .dic true (kvT (layF ts (rows, acc) x).1)), some (false, r), some (true, .lst ((layF ts (rows, acc) x).2.map hpD)), some (false, hpD x), none, none]) :=
  (loop_fold prD (fun u : List (List Int) × List (List Int) => [some (false, a), some (false, b), some (true, .dic true (kvT u.1)), some (false, r), some (true, .lst (u.2.map hpD)), some (false, hpD x), none, none]) (addN x) (fun u => SrI m s ts h u.1 ∧ x ∈ u.1 ∧ u.2.length ≤ u.1.length) (mayOf ts x) (rows, acc) ⟨S, hx, ha⟩ fun u q hq I => by
    obtain ⟨rows, acc⟩ := u
    obtain ⟨S, hx, ha⟩ := I
    simp only at S hx ha
    have hl := S.len (by have := hw.1; omega) s0
    have l1 : rows.length < szL := by unfold szL; omega
    have l2 : acc.length < szL := by unfold szL; omega
    have hlen := (S.ok x hx).1.len
    have t := mem_may.mp hq
    have rr := tied_rg hw.2.2.1 t.1
    have ed := law_moved n (hs := x) (p := q) rr.1 (by omega) rr.2.2.1 (by omega)
    have dg := dget_T rows (doneL x q)
    unfold addN
    by_cases hm : doneL x q ∈ rows
    · rw [if_pos hm] at dg
      simp only [if_pos hm]
      refine ⟨?_, S, hx, ha⟩
      simp [-List.map_map, bodyF, B197_0, ed, dg]
    · rw [if_neg hm] at dg
      simp only [if_neg hm]
      refine ⟨?_, S.add hw.2.2.1 hx (moves_may.mpr ⟨q, hq, rfl⟩) hm, List.mem_append_left _ hx, by simp [-List.map_map]; exact ha⟩
      simp [-List.map_map, bodyF, B197_0, ed, dg, dput_T hm, l1, l2]).1
theorem lay_len {m s : Int} {ts : List (Int × Int)} (hw : ∀ p ∈ ts, 0 ≤ p.1 ∧ p.1 < p.2 ∧ p.2 < m) {h x : List Int} {rows acc : List (List Int)} (S : SrI m s ts h rows) (hx : x ∈ rows) (ha : acc.length ≤ rows.length) : SrI m s ts h (layF ts (rows, acc) x).1 ∧ (∀ z ∈ rows, z ∈ (layF ts (rows, acc) x).1) ∧ (layF ts (rows, acc) x).2.length ≤ (layF ts (rows, acc) x).1.length := by
  obtain ⟨r, k1, k2, _⟩ := addN_ok hw (mayOf ts x) rows acc (fun q hq => hq) S hx
  unfold layF
  rw [k1]
  exact ⟨k2, fun z hz => List.mem_append_left _ hz, by simp [-List.map_map]; omega⟩
theorem lb_mid (n : Nat) {m s : Int} {ts : List (Int × Int)} (hw : WebOk m ts) (hl : ts.length ≤ 1000) (s0 : 0 ≤ s) (hK : hpN s.toNat m.toNat < 1000000) {h : List Int} (b r : D) (xs rows acc : List (List Int)) (S : SrI m s ts h rows) (hx : ∀ x ∈ xs, x ∈ rows) (ha : acc.length ≤ rows.length) :
    loopF (bodyF (run PG (n + 1)) true (.one 5) B197_1) (xs.map hpD) [some (false, webD m ts), some (false, b), some (true, .dic true (kvT rows)), some (false, r), some (true, .lst (acc.map hpD)), none, none, none] =
      .ok (.nx [some (false, webD m ts), some (false, b), some (true, .dic true (kvT (xs.foldl (layF ts) (rows, acc)).1)), some (false, r), some (true, .lst ((xs.foldl (layF ts) (rows, acc)).2.map hpD)), none, none, none]) :=
  (loop_fold hpD (fun u : List (List Int) × List (List Int) => [some (false, webD m ts), some (false, b), some (true, .dic true (kvT u.1)), some (false, r), some (true, .lst (u.2.map hpD)), none, none, none]) (layF ts) (fun u => SrI m s ts h u.1 ∧ (∀ x ∈ xs, x ∈ u.1) ∧ u.2.length ≤ u.1.length) xs (rows, acc) ⟨S, hx, ha⟩ fun u x hxs I => by
    obtain ⟨rows, acc⟩ := u
    obtain ⟨S, hx, ha⟩ := I
    simp only at S hx ha
    have em : run PG (n + 1) 99 _ = _ := law_may n hw.2.2.1 (S.ok x (hx x hxs)).1.len hl
    have lp := lb_in n hw s0 hK (webD m ts) b r rows acc S (hx x hxs) ha
    obtain ⟨k1, k2, k3⟩ := lay_len hw.2.2.1 S (hx x hxs) ha
    refine ⟨?_, k1, fun z hz => k2 z (hx z hz), k3⟩
    simp [-List.map_map, bodyF, B197_1, em]
    rw [lp]
    simp [-List.map_map]).1
/-! heaps in order -/
theorem isortH (rows : List (List Int)) : (isort lexLe rows).Perm rows ∧ (isort lexLe rows).Pairwise fun a b => lexLe a b = true :=
  ⟨isort_perm lexLe rows, isort_sorted (le := lexLe) (fun a b c h1 h2 => lexLe_trans h1 h2) lexLe_total rows⟩
theorem keys_hp : ∀ rows : List (List Int), allOf (skey 1) (rows.map hpD) = some rows
  | [] => rfl
  | x :: r => by
    have e : skey 1 (hpD x) = some x := ints_all x
    simp only [List.map_cons, allOf, e, keys_hp r]
theorem sort_hp {rows : List (List Int)} (hl : rows.length ≤ szL) (h : ∀ x ∈ rows, x ≠ []) : sortD (rows.map hpD) = .ok ((isort lexLe rows).map hpD) := by
  obtain ⟨hp, hs⟩ := isortH rows
  have ko : ∀ x : List Int, keyOf 1 (hpD x) = x := fun x => by
    have e : skey 1 (hpD x) = some x := ints_all x
    unfold keyOf; rw [e]; rfl
  have one := sort_one (c := 1) (out := (isort lexLe rows).map hpD) (keys_hp rows) (hp.map hpD) (by rw [List.pairwise_map]; exact hs.imp fun {a b} h => by rw [ko, ko]; exact h)
  cases rows with
  | nil => rfl
  | cons x r =>
    have sc : sclass (hpD x) = 1 := by
      cases x with
      | nil => rfl
      | cons a t => cases t <;> rfl
    have k := keys_hp (x :: r)
    rw [List.map_cons (f := hpD)] at k one ⊢
    simp only [sortD, sc, k]
    have e : ((x :: r).all fun k => !k.isEmpty) = true := by
      rw [List.all_eq_true]
      intro y hy
      have := h y hy
      cases y with
      | nil => exact absurd rfl this
      | cons a t => rfl
    rw [one, gd_pos ⟨e, by simpa [-List.map_map] using hl⟩]
theorem HpLe.ne {m s : Int} (m1 : 1 ≤ m) {x : List Int} (h : HpLe m s x) : x ≠ [] := fun e => by
  have := h.1.len
  rw [e] at this
  simp [-List.map_map] at this
  omega
/-- all that comes of a heap, in order -/
structure AllOf (m s : Int) (ts : List (Int × Int)) (h : List Int) (rows : List (List Int)) : Prop where
  nd : rows.Nodup
  so : rows.Pairwise fun a b => lexLe a b = true
  mem : ∀ x, x ∈ rows ↔ Reach ts h x
  ok : ∀ x ∈ rows, HpLe m s x
  len : rows.length < 1000000
theorem SrI.sorted {m s : Int} {ts : List (Int × Int)} {h : List Int} {rows : List (List Int)} (S : SrI m s ts h rows) (m0 : 0 ≤ m) (s0 : 0 ≤ s) (hK : hpN s.toNat m.toNat < 1000000) (f : ∀ x, x ∈ rows ↔ Reach ts h x) : AllOf m s ts h (isort lexLe rows) := by
  obtain ⟨hp, hs⟩ := isortH rows
  exact ⟨hp.nodup_iff.mpr S.nd, hs, fun x => by rw [hp.mem_iff]; exact f x, fun x hx => S.ok x (hp.mem_iff.mp hx), by rw [hp.length_eq]; have := S.len m0 s0; omega⟩
theorem sorted_hp {rows rows' : List (List Int)} (hp : rows.Perm rows') (h1 : rows.Pairwise fun a b => lexLe a b = true) (h2 : rows'.Pairwise fun a b => lexLe a b = true) : rows = rows' := perm_sorted_eq hp h1 h2
theorem AllOf.uniq {m s : Int} {ts : List (Int × Int)} {h : List Int} {r r' : List (List Int)} (A : AllOf m s ts h r) (B : AllOf m s ts h r') : r = r' :=
  sorted_hp ((List.perm_ext_iff_of_nodup A.nd B.nd).mpr fun x => by rw [A.mem, B.mem]) A.so B.so
theorem law_behind (n : Nat) {m s : Int} {ts : List (Int × Int)} (hw : WebOk m ts) (hl : ts.length ≤ 1000) (s0 : 0 ≤ s) (hK : hpN s.toNat m.toNat < 1000000) {h : List Int} (H : HpLe m s h) :
    ∃ rows, AllOf m s ts h rows ∧ run PG (n + 2) 197 [webD m ts, hpD h] = .ok (.lst (rows.map hpD)) := by
  have w1 := hw.1
  have w3 := hw.2.2.1
  have wl := while_inv (σ := List (List Int) × List (List Int)) (fun u => [some (false, webD m ts), some (false, hpD h), some (true, .dic true (kvT u.1)), some (false, .lst (u.2.map hpD)), none, none, none, none])
    (fun u => SrI m s ts h u.1 ∧ (∀ x ∈ u.2, x ∈ u.1) ∧ ∀ x ∈ u.1, x ∉ u.2 → ∀ y, Moves ts x y → y ∈ u.1) (fun u => hpN s.toNat m.toNat - u.1.length + (if u.2 = [] then 0 else 1)) (c := testF (run PG (n + 1)) C197_2) (f := bodyW (run PG (n + 1)) true B197_2) (fun u hu => by
      obtain ⟨rows, row⟩ := u
      obtain ⟨S, hr, hc⟩ := hu
      simp only at S hr hc
      have nn := ne_nil row
      refine ⟨decide (row ≠ []), by simp [-List.map_map, testF, C197_2, nn], fun hb => ?_⟩
      have hb := of_decide_eq_true hb
      obtain ⟨r, k1, k2, k3⟩ := lay_ok w3 row rows [] hr S
      have lp := lb_mid n hw hl s0 hK (hpD h) (.lst (row.map hpD)) row rows [] S hr (by simp [-List.map_map])
      rw [k1] at lp
      simp only [List.nil_append, List.map_nil] at lp
      have hl2 := k2.len (by omega) s0
      rw [List.length_append] at hl2
      refine ⟨(rows ++ r, r), ?_, ⟨k2, fun x hx => List.mem_append_right _ hx, fun x hx hn y hy => ?_⟩, ?_⟩
      · simp [-List.map_map, bodyW, B197_2]
        rw [lp]
        simp [-List.map_map]
      · simp only at hx hn
        rcases List.mem_append.mp hx with hx | hx
        · by_cases hxr : x ∈ row
          · exact k3 x hxr y hy
          · exact List.mem_append_left _ (hc x hx hxr y hy)
        · exact absurd hx hn
      · simp only [List.length_append]
        rw [if_neg hb]
        cases r with
        | nil => simp [-List.map_map]
        | cons a t => simp only [List.length_cons] at *; rw [if_neg (by simp [-List.map_map])]; omega)
  obtain ⟨⟨rows, row⟩, e, ⟨S, hr, hc⟩, hf⟩ := wl 1000000 ([h], [h]) ⟨srI_one H, fun x hx => hx, fun x hx hn => absurd hx hn⟩ (by
    simp only [List.length_singleton]
    rw [if_neg (by simp [-List.map_map])]
    have : 0 < hpN s.toNat m.toNat := hpN_pos _ _
    omega)
  simp only at e S hr hc hf
  have nn := ne_nil row
  have hrow : row = [] := by
    simp [-List.map_map, testF, C197_2, nn] at hf
    exact hf
  subst hrow
  have full := S.full fun x hx y hy => hc x hx (by simp [-List.map_map]) y hy
  refine ⟨isort lexLe rows, S.sorted (by omega) s0 hK full, ?_⟩
  have hl2 := S.len (by omega) s0
  have so := sort_hp (rows := rows) (by unfold szL; omega) fun x hx => (S.ok x hx).ne w1
  rw [run_succ g197]
  have k0 : kvT [h] = [(hpD h, .bl true)] := rfl
  simp only [k0] at e
  simp [-List.map_map, F197_law_behind]
  simp [-List.map_map] at e
  rw [e]
  simp [-List.map_map, kvT_keys, so]
end Lib
end

section
set_option autoImplicit true
set_option maxRecDepth 100000
namespace Lib
open PySem Z
/-! what a place can get -/
def TopAt (ts : List (Int × Int)) (h : List Int) (p d : Int) : Prop := (∃ x, Reach ts h x ∧ hAt x p = d) ∧ ∀ x, Reach ts h x → hAt x p ≤ d
theorem top_ex {m s : Int} {ts : List (Int × Int)} {h : List Int} {rows : List (List Int)} (A : AllOf m s ts h rows) (p : Int) : ∃ d, TopAt ts h p d := by
  have ne : rows.map (fun x => hAt x p) ≠ [] := by
    have : h ∈ rows := (A.mem h).mpr .nil
    intro e
    have := List.mem_map_of_mem (f := fun x => hAt x p) this
    rw [e] at this; cases this
  obtain ⟨d, h1, h2⟩ := max_ex ne
  obtain ⟨x, hx, e⟩ := List.mem_map.mp h1
  exact ⟨d, ⟨x, (A.mem x).mp hx, e⟩, fun y hy => h2 _ (List.mem_map.mpr ⟨y, (A.mem y).mpr hy, rfl⟩)⟩
theorem top_max {ts : List (Int × Int)} {h : List Int} {rows : List (List Int)} {p d : Int} (mem : ∀ x, x ∈ rows ↔ Reach ts h x) (T : TopAt ts h p d) : maxD ((rows.map fun x => hAt x p).map D.int) = .ok (.int d) := by
  obtain ⟨⟨x, hx, e⟩, h2⟩ := T
  exact maxD_is (List.mem_map.mpr ⟨x, (mem x).mpr hx, e⟩) fun y hy => by
    obtain ⟨z, hz, rfl⟩ := List.mem_map.mp hy
    exact h2 z ((mem z).mp hz)
theorem need_searched (n : Nat) {m : Int} {ts : List (Int × Int)} (hw : WebOk m ts) {hs : List Int} (H : HpOk m hs) (h3 : hs.sum ≤ 300) : run PG (n + 6) 61 [webD m ts, hpD hs] = .ok .non := by
  rw [run_succ g61]
  have a : run PG (n + 5) 48 [webD m ts, hpD hs] = .ok .non := need_heap (n + 2) ts H.len H.pos h3
  simp [-List.map_map, F61_need_searched, need_web n hw, a]
/-- each place's stones, heap by heap -/
theorem at_all {C : Calls} {m p : Int} {rows : List (List Int)} (h : ∀ x ∈ rows, HpOk m x) (p0 : 0 ≤ p) (p1 : p < m) {f : D → R (Option D)} (hf : ∀ x : List Int, 0 ≤ p → p < x.length → f (hpD x) = .ok (some (.int (hAt x p)))) : compL f (rows.map hpD) = .ok ((rows.map fun x => hAt x p).map D.int) :=
  compL_all hpD D.int (fun x => hAt x p) rows fun x hx => hf x p0 (by have := (h x hx).len; omega)
theorem sum_D (hs : List Int) : sumD (hs.map D.int) = .ok (.int hs.sum) := sum_ints hs
theorem kv_keys (ps : List (List Int × D)) : (kvW ps).map (·.1) = (ps.map (·.1)).map hpD := kvW_keys ps
theorem most_at (n : Nat) {m s : Int} {ts : List (Int × Int)} (hw : WebOk m ts) (hl : ts.length ≤ 1000) (s0 : 0 ≤ s) (hK : hpN s.toNat m.toNat < 1000000) {h : List Int} (H : HpLe m s h) (h12 : h.sum ≤ 12) {p d : Int} (p0 : 0 ≤ p) (p1 : p < m) (T : TopAt ts h p d) : run PG (n + 7) 62 [webD m ts, hpD h, .int p] = .ok (.int d) := by
  obtain ⟨ps, S, F, mem, e⟩ := all_behind (n + 3) hw hl s0 hK H
  have a := need_searched n hw H.1 (by omega)
  have b : run PG (n + 6) 18 [webD m ts, .int p] = .ok .non := need_place (n + 3) p0 p1
  have f : run PG (n + 6) 46 _ = _ := need_few (n + 5) h12
  have e : run PG (n + 6) 60 _ = _ := e
  have hlen := S.len (by have := hw.1; omega) s0
  have l1 : (ps.map (·.1)).length < szL := by unfold szL; omega
  have c : compL (cmpF (run PG (n + 6)) (.idx (.var 3) (.var 2)) (.one 3) none [some (false, webD m ts), some (false, hpD h), some (false, .int p), none]) ((ps.map (·.1)).map hpD) = .ok (((ps.map (·.1)).map fun x => hAt x p).map D.int) :=
    at_all (C := run PG 0) (fun x hx => (S.ok x hx).1) p0 p1 fun x x0 x1 => by
      have i := idx_hp (hs := x) x0 x1
      simp [-List.map_map, cmpF, i]
  have mx := top_max mem T
  rw [run_succ g62]
  unfold hpD at a f e c ⊢
  rw [List.length_map] at l1
  simp [-List.map_map, F62_most_at, a, b, f, e, kv_keys]
  unfold hpD
  rw [c]
  simp [-List.map_map, l1, mx]
theorem reached (n : Nat) {m s : Int} {ts : List (Int × Int)} (hw : WebOk m ts) (hl : ts.length ≤ 1000) (s0 : 0 ≤ s) (hK : hpN s.toNat m.toNat < 1000000) {h : List Int} (H : HpLe m s h) (h12 : h.sum ≤ 12) {top : Int → Int} (T : ∀ p, 0 ≤ p → p < m → TopAt ts h p (top p)) : run PG (n + 7) 65 [webD m ts, hpD h] = .ok (.lst (((upI m.toNat).filter fun p => decide (0 < top p)).map D.int)) := by
  obtain ⟨ps, S, F, mem, e⟩ := all_behind (n + 3) hw hl s0 hK H
  have a := need_searched n hw H.1 (by omega)
  have f : run PG (n + 6) 46 _ = _ := need_few (n + 5) h12
  have e : run PG (n + 6) 60 _ = _ := e
  have w1 := hw.1
  have w2 := hw.2.1
  have hlen := S.len (by omega) s0
  have l1 : ps.length < szL := by rw [List.length_map] at hlen; unfold szL; omega
  have c : ∀ p, 0 ≤ p → p < m → compL (cmpF (run PG (n + 6)) (.idx (.var 4) (.var 3)) (.one 4) none [some (false, webD m ts), some (false, hpD h), some (false, .dic true (kvW ps)), some (false, .int p), none]) ((ps.map (·.1)).map hpD) = .ok (((ps.map (·.1)).map fun x => hAt x p).map D.int) := fun p p0 p1 =>
    at_all (C := run PG 0) (fun x hx => (S.ok x hx).1) p0 p1 fun x x0 x1 => by
      have i := idx_hp (hs := x) x0 x1
      simp [-List.map_map, cmpF, i]
  have c2 : compL (cmpF (run PG (n + 6)) (.var 3) (.one 3) (some (.cmp .gt (.bi .max [(.comp (.idx (.var 4) (.var 3)) (.one 4) .keys [(.var 2)] none)]) (.int 0))) [some (false, webD m ts), some (false, hpD h), some (false, .dic true (kvW ps)), none, none]) ((upI m.toNat).map D.int) = .ok (((upI m.toNat).filter fun p => decide (0 < top p)).map D.int) :=
    compL_some D.int (fun p => decide (0 < top p)) (upI m.toNat) fun p hp => by
      obtain ⟨p0, p1⟩ := mem_upI.mp hp
      have p1 : p < m := by omega
      have mx := top_max mem (T p p0 p1)
      simp [-List.map_map, cmpF, kv_keys, c p p0 p1, l1, mx]
      done
  have b : big62 m = true := big_of (by omega) (by omega)
  have l : m ≤ 1000000 := by omega
  have l2 : m.toNat < szL := by unfold szL; omega
  rw [run_succ g65]
  unfold hpD at a f e c2 ⊢
  simp [-List.map_map, F65_reached, a, f, e, b, l, rng_upI, c2, l2]
end Lib
end

section
set_option autoImplicit true
set_option maxRecDepth 100000
namespace Lib
open PySem Z
/-! steps, one behind the other -/
def Play (ts : List (Int × Int)) : List Int → List (Int × Int) → List Int → Prop
  | x, [], y => x = y
  | x, s :: ss, y => s ∈ mayOf ts x ∧ Play ts (doneL x s) ss y
theorem Play.snoc {ts : List (Int × Int)} {z : Int × Int} : ∀ {ss : List (Int × Int)} {x y : List Int}, Play ts x ss y → z ∈ mayOf ts y → Play ts x (ss ++ [z]) (doneL y z)
  | [], x, y, h, hz => by
    have h : x = y := h
    subst h
    exact ⟨hz, rfl⟩
  | s :: ss, x, y, h, hz => ⟨h.1, Play.snoc h.2 hz⟩
theorem Play.reach {ts : List (Int × Int)} : ∀ {ss : List (Int × Int)} {x y : List Int}, Play ts x ss y → Reach ts x y
  | [], x, y, h => by
    have h : x = y := h
    subst h; exact .nil
  | s :: ss, x, y, h => (Reach.nil.snoc (moves_may.mpr ⟨s, h.1, rfl⟩)).trans (Play.reach h.2)
/-- the steps that lead to a heap, found backwards -/
theorem steps_to (n : Nat) {ts : List (Int × Int)} {h : List Int} {ps : List (List Int × D)} (nd : (ps.map (·.1)).Nodup) (F : FromOk ts h ps) (hl : ps.length < 1000000) {x : List Int} (hx : x ∈ ps.map (·.1)) : ∃ ss, Play ts h ss x ∧ ss.length < 1000000 ∧ run PG (n + 1) 63 [.dic true (kvW ps), hpD x] = .ok (.lst (ss.map prD)) := by
  have look : ∀ (i : Nat) (y : List Int) (d : D), ps[i]? = some (y, d) → lkW ps y = some d := by
    intro i
    have gen : ∀ (qs : List (List Int × D)), (qs.map (·.1)).Nodup → ∀ (i : Nat) (y : List Int) (d : D), qs[i]? = some (y, d) → lkW qs y = some d := by
      intro qs
      induction qs with
      | nil => intro _ i y d h; simp [-List.map_map] at h
      | cons p r ih =>
        intro nd i y d h
        obtain ⟨a, b⟩ := p
        rw [List.map_cons, List.nodup_cons] at nd
        unfold lkW
        cases i with
        | zero => simp [-List.map_map] at h; obtain ⟨rfl, rfl⟩ := h; simp [-List.map_map]
        | succ i =>
          rw [List.getElem?_cons_succ] at h
          have : a ≠ y := fun e => nd.1 (by rw [e]; exact List.mem_map.mpr ⟨(y, d), List.mem_of_getElem? h, rfl⟩)
          rw [if_neg this]
          exact ih nd.2 i y d h
    exact gen ps nd i
  obtain ⟨⟨x', d0⟩, hm, rfl⟩ := List.mem_map.mp hx
  obtain ⟨i0, hi0, e0⟩ := List.mem_iff_getElem.mp hm
  have h0 : ps[i0]? = some (x', d0) := by rw [List.getElem?_eq_getElem hi0, e0]
  have wl := while_inv (σ := Nat × List (Int × Int) × D) (fun u => [some (false, .dic true (kvW ps)), some (false, hpD x'), some (true, .lst (u.2.1.map prD)), some (false, u.2.2)])
    (fun u => ∃ y, ps[u.1]? = some (y, u.2.2) ∧ Play ts y u.2.1.reverse x' ∧ u.2.1.length + u.1 < 1000000) (fun u => u.1) (c := testF (run PG n) C63_0) (f := bodyW (run PG n) true B63_0) (fun u hu => by
      obtain ⟨i, acc, d⟩ := u
      obtain ⟨y, hy, hp, hb⟩ := hu
      simp only at hy hp hb
      rcases F i _ hy with ⟨rfl, e⟩ | ⟨j, z, dz, s, hj, hz, hs, e⟩
      · injection e with e1 e2
        subst e1 e2
        exact ⟨false, by simp [-List.map_map, testF, C63_0], fun h => by cases h⟩
      · injection e with e1 e2
        subst e1 e2
        refine ⟨true, by simp [-List.map_map, testF, C63_0], fun _ => ⟨(j, acc ++ [s], dz), ?_, ⟨z, hz, ?_, by simp only [List.length_append, List.length_singleton]; omega⟩, hj⟩⟩
        · have lz := look j z dz hz
          have la : acc.length < szL := by unfold szL; omega
          have kf : keyFit true (hpD z) = true := kf_hp z
          simp [-List.map_map, bodyW, B63_0, la, kf, lz]
        · simp only [List.reverse_append, List.reverse_cons, List.reverse_nil, List.nil_append, List.singleton_append]
          exact ⟨hs, hp⟩) 1000000 (i0, [], d0) ⟨x', h0, rfl, by simp only [List.length_nil]; omega⟩ (by simp only; omega)
  obtain ⟨⟨i, acc, d⟩, e, ⟨y, hy, hp, hb⟩, hf⟩ := wl
  simp only at e hy hp hb hf
  have hyh : y = h := by
    rcases F i _ hy with ⟨_, e⟩ | ⟨j, z, dz, s, hj, hz, hs, e⟩
    · injection e
    · injection e with e1 e2
      subst e2
      simp [-List.map_map, testF, C63_0] at hf
  subst hyh
  refine ⟨acc.reverse, hp, by simp [-List.map_map]; omega, ?_⟩
  have lx := look i0 x' d0 h0
  have kf : keyFit true (hpD x') = true := kf_hp x'
  rw [run_succ g63]
  simp [-List.map_map] at e
  simp [-List.map_map, F63_steps_to, kf, lx]
  rw [e]
  simp [-List.map_map]
theorem reach (n : Nat) {m s : Int} {ts : List (Int × Int)} (hw : WebOk m ts) (hl : ts.length ≤ 1000) (s0 : 0 ≤ s) (hK : hpN s.toNat m.toNat < 1000000) {h : List Int} (H : HpLe m s h) (h12 : h.sum ≤ 12) {p k : Int} (p0 : 0 ≤ p) (p1 : p < m) (k0 : 1 ≤ k) (k1 : k ≤ 300) {d : Int} (T : TopAt ts h p d) :
    (d < k → run PG (n + 7) 64 [webD m ts, hpD h, .int p, .int k] = .ok .non) ∧ (k ≤ d → ∃ ss x, Play ts h ss x ∧ k ≤ hAt x p ∧ ss.length < 1000000 ∧ run PG (n + 7) 64 [webD m ts, hpD h, .int p, .int k] = .ok (.lst (ss.map prD))) := by
  obtain ⟨ps, S, F, mem, e⟩ := all_behind (n + 3) hw hl s0 hK H
  have a := need_searched n hw H.1 (by omega)
  have b : run PG (n + 6) 18 [webD m ts, .int p] = .ok .non := need_place (n + 3) p0 p1
  have c : run PG (n + 6) 45 _ = _ := need_number (n + 3) k0 k1
  have f : run PG (n + 6) 46 _ = _ := need_few (n + 5) h12
  have e : run PG (n + 6) 60 _ = _ := e
  have hlen := S.len (by have := hw.1; omega) s0
  rw [List.length_map] at hlen
  -- the first that has so many
  have lp : ∀ xs : List (List Int), (∀ x ∈ xs, x ∈ ps.map (·.1)) →
      ((∀ x ∈ xs, hAt x p < k) → loopF (bodyF (run PG (n + 6)) true (.one 5) B64_0) (xs.map hpD) [some (false, webD m ts), some (false, hpD h), some (false, .int p), some (false, .int k), some (false, .dic true (kvW ps)), none] = .ok (.nx [some (false, webD m ts), some (false, hpD h), some (false, .int p), some (false, .int k), some (false, .dic true (kvW ps)), none])) ∧
      ((∃ x ∈ xs, k ≤ hAt x p) → ∃ ss x, Play ts h ss x ∧ k ≤ hAt x p ∧ ss.length < 1000000 ∧ loopF (bodyF (run PG (n + 6)) true (.one 5) B64_0) (xs.map hpD) [some (false, webD m ts), some (false, hpD h), some (false, .int p), some (false, .int k), some (false, .dic true (kvW ps)), none] = .ok (.rt (.lst (ss.map prD)))) := by
    intro xs
    induction xs with
    | nil => intro _; exact ⟨fun _ => by simp [-List.map_map], fun ⟨x, hx, _⟩ => by cases hx⟩
    | cons x xs ih =>
      intro hxs
      obtain ⟨i1, i2⟩ := ih fun z hz => hxs z (List.mem_cons_of_mem _ hz)
      have mx := hxs x (List.mem_cons_self ..)
      have ix := idx_hp (hs := x) p0 (by have := (S.ok x mx).1.len; omega)
      obtain ⟨ss, pl, ln, es⟩ := steps_to (n + 5) S.nd F (by omega) mx
      have es : run PG (n + 6) 63 _ = _ := es
      by_cases hk : k ≤ hAt x p
      · refine ⟨fun h => by have := h x (List.mem_cons_self ..); omega, fun _ => ⟨ss, x, pl, hk, ln, ?_⟩⟩
        have turn : bodyF (run PG (n + 6)) true (.one 5) B64_0 (hpD x) [some (false, webD m ts), some (false, hpD h), some (false, .int p), some (false, .int k), some (false, .dic true (kvW ps)), none] = .ok (.rt (.lst (ss.map prD))) := by
          simp [-List.map_map, bodyF, B64_0, ix, hk, es]
        rw [List.map_cons, loop_cons, turn, bR_ok, oRt_rt]
      · have turn : bodyF (run PG (n + 6)) true (.one 5) B64_0 (hpD x) [some (false, webD m ts), some (false, hpD h), some (false, .int p), some (false, .int k), some (false, .dic true (kvW ps)), none] = .ok (.nx [some (false, webD m ts), some (false, hpD h), some (false, .int p), some (false, .int k), some (false, .dic true (kvW ps)), none]) := by
          simp [-List.map_map, bodyF, B64_0, ix, hk]
        refine ⟨fun h => ?_, fun ⟨z, hz, hzk⟩ => ?_⟩
        · rw [List.map_cons, loop_cons, turn, bR_ok, oRt_nx, i1 fun z hz => h z (List.mem_cons_of_mem _ hz)]
        · have : ∃ z ∈ xs, k ≤ hAt z p := by
            rcases List.mem_cons.mp hz with rfl | hz
            · exact absurd hzk hk
            · exact ⟨z, hz, hzk⟩
          obtain ⟨ss, y, k1, k2, k3, k4⟩ := i2 this
          exact ⟨ss, y, k1, k2, k3, by rw [List.map_cons, loop_cons, turn, bR_ok, oRt_nx, k4]⟩
  obtain ⟨l1, l2⟩ := lp (ps.map (·.1)) fun x hx => hx
  obtain ⟨⟨x, hx, ex⟩, ht⟩ := T
  constructor
  · intro hd
    have l1 := l1 fun z hz => by have := ht z ((mem z).mp hz); omega
    rw [run_succ g64]
    unfold hpD at a f e l1 ⊢
    simp [-List.map_map, F64_reach, a, b, c, f, e, kv_keys]
    unfold hpD
    rw [l1]
    simp [-List.map_map]
  · intro hd
    obtain ⟨ss, y, k1', k2', k3', k4'⟩ := l2 ⟨x, (mem x).mpr hx, by omega⟩
    refine ⟨ss, y, k1', k2', k3', ?_⟩
    rw [run_succ g64]
    unfold hpD at a f e k4' ⊢
    simp [-List.map_map, F64_reach, a, b, c, f, e, kv_keys]
    unfold hpD
    rw [k4']
    simp [-List.map_map]
theorem closed_for (n : Nat) {m s : Int} {ts : List (Int × Int)} (hw : WebOk m ts) (hl : ts.length ≤ 1000) (s0 : 0 ≤ s) (hK : hpN s.toNat m.toNat < 1000000) {h : List Int} (H : HpLe m s h) (h12 : h.sum ≤ 12) {p k : Int} (p0 : 0 ≤ p) (p1 : p < m) (k0 : 1 ≤ k) (k1 : k ≤ 300) {d : Int} (T : TopAt ts h p d) {rows : List (List Int)} (A : AllOf m s ts h rows) :
    run PG (n + 7) 67 [webD m ts, hpD h, .int p, .int k] = .ok (if d < k then .lst (rows.map hpD) else .non) := by
  obtain ⟨ps, S, F, mem, e⟩ := all_behind (n + 3) hw hl s0 hK H
  have a := need_searched n hw H.1 (by omega)
  have b : run PG (n + 6) 18 [webD m ts, .int p] = .ok .non := need_place (n + 3) p0 p1
  have c : run PG (n + 6) 45 _ = _ := need_number (n + 3) k0 k1
  have f : run PG (n + 6) 46 _ = _ := need_few (n + 5) h12
  have e : run PG (n + 6) 60 _ = _ := e
  have w1 := hw.1
  have hlen := S.len (by omega) s0
  have so := sort_hp (rows := ps.map (·.1)) (by unfold szL; omega) fun x hx => (S.ok x hx).ne w1
  have er : isort lexLe (ps.map (·.1)) = rows := (S.sorted (by omega) s0 hK mem).uniq A
  rw [er] at so
  have lp := loop_test hpD (fun x => decide (hAt x p < k)) .non [some (false, webD m ts), some (false, hpD h), some (false, .int p), some (false, .int k), some (false, .lst (rows.map hpD)), none] (f := bodyF (run PG (n + 6)) false (.one 5) B67_0) rows fun x hx => by
    have ix := idx_hp (hs := x) p0 (by have := (A.ok x hx).1.len; omega)
    by_cases hk : k ≤ hAt x p
    · have : ¬ hAt x p < k := by omega
      simp [-List.map_map, bodyF, B67_0, ix, hk, this]
    · have : hAt x p < k := by omega
      simp [-List.map_map, bodyF, B67_0, ix, hk, this]
  have hall : (rows.all fun x => decide (hAt x p < k)) = decide (d < k) := by
    obtain ⟨⟨x, hx, ex⟩, ht⟩ := T
    by_cases hd : d < k
    · rw [decide_eq_true hd, List.all_eq_true]
      intro z hz
      have := ht z ((A.mem z).mp hz)
      exact decide_eq_true (by omega)
    · rw [decide_eq_false hd, List.all_eq_false]
      exact ⟨x, (A.mem x).mpr hx, by simp [-List.map_map]; omega⟩
  rw [hall] at lp
  rw [run_succ g67]
  unfold hpD at a f e lp ⊢
  simp [-List.map_map, F67_closed_for, a, b, c, f, e, kv_keys]
  unfold hpD at so ⊢
  simp only [so, bR_ok]
  by_cases hd : d < k
  · simp [-List.map_map, hd] at lp ⊢
    rw [lp]
    simp [-List.map_map]
  · simp [-List.map_map, hd] at lp ⊢
    rw [lp]
    simp [-List.map_map]
/-! steps looked at -/
theorem WebOk.tied {m : Int} {ts : List (Int × Int)} (hw : WebOk m ts) {a b : Int} (t : Tied ts a b) : (if a < b then (a, b) else (b, a)) ∈ ts := by
  rcases t with t | t
  · have := hw.2.2.1 _ t
    rw [if_pos (by simp only at this; omega)]; exact t
  · have := hw.2.2.1 _ t
    rw [if_neg (by simp only at this; omega)]; exact t
theorem minD_two (a b : Int) : minD [.int a, .int b] = .ok (.int (if b < a then b else a)) := rfl
theorem maxD_two (a b : Int) : maxD [.int a, .int b] = .ok (.int (if b > a then b else a)) := rfl
theorem pl_prs (ts : List (Int × Int)) (k : Nat) : plL (k + 1) (ts.map prD) = true := by
  induction ts with
  | nil => rfl
  | cons p r ih => simp only [List.map_cons, plL, ih, Bool.and_true]; cases k <;> rfl
theorem any_pr {ts : List (Int × Int)} {p : Int × Int} (h : p ∈ ts) : ((ts.map prD).any fun z => eqD z (prD p)) = true := by
  rw [List.any_eq_true]
  exact ⟨prD p, List.mem_map_of_mem h, by rw [eq_pr]; simp [-List.map_map]⟩
theorem is_step (n : Nat) {m : Int} {ts : List (Int × Int)} (hw : WebOk m ts) {p : Int × Int} (t : Tied ts p.1 p.2) : run PG (n + 4) 49 [webD m ts, prD p] = .ok (.bl true) := by
  have r := tied_rg hw.2.2.1 t
  have tw : run PG (n + 3) 2 _ = _ := is_two n p m
  have t2 : twoOk (prD p) m = true := by
    unfold twoOk prD inRg
    have ne : (p.1 == p.2) = false := by simp [-List.map_map]; exact r.2.2.2.2
    simp [-List.map_map, eqD, ne]
    omega
  rw [t2] at tw
  have hin := hw.tied t
  have ha := any_pr hin
  have hp : (D.tup [.int (if p.2 < p.1 then p.2 else p.1), .int (if p.2 > p.1 then p.2 else p.1)]) = prD (if p.1 < p.2 then (p.1, p.2) else (p.2, p.1)) := by
    by_cases h : p.1 < p.2
    · rw [if_pos h, if_neg (by omega), if_pos h]; rfl
    · rw [if_neg h, if_pos (by omega), if_neg (by omega)]; rfl
  rw [run_succ g49]
  have e0 : prD p = .tup [.int p.1, .int p.2] := rfl
  have pl : plL 19 (ts.map prD) = true := pl_prs ts 18
  have pp : ∀ q : Int × Int, plD 20 (prD q) = true := fun q => rfl
  simp [-List.map_map, F49_is_step, tw]
  rw [e0]
  simp [-List.map_map, minD_two, maxD_two]
  rw [hp]
  simp [-List.map_map, pl, pp]
  exact ⟨_, _, hin, by rw [eq_pr]; exact decide_eq_true rfl⟩
theorem law_is_step (n : Nat) {m : Int} {ts : List (Int × Int)} (hw : WebOk m ts) {p : Int × Int} (t : Tied ts p.1 p.2) : run PG (n + 2) 108 [webD m ts, prD p] = .ok (.bl true) := by
  have r := tied_rg hw.2.2.1 t
  have hin := hw.tied t
  have ha := any_pr hin
  have hp : (D.tup [.int (if p.2 < p.1 then p.2 else p.1), .int (if p.2 > p.1 then p.2 else p.1)]) = prD (if p.1 < p.2 then (p.1, p.2) else (p.2, p.1)) := by
    by_cases h : p.1 < p.2
    · rw [if_pos h, if_neg (by omega), if_pos h]; rfl
    · rw [if_neg h, if_pos (by omega), if_neg (by omega)]; rfl
  have wh : ∀ i : Int, run PG (n + 1) 107 [.int i] = .ok (.bl true) := fun i => by
    rw [run_succ g107]; simp [-List.map_map, F107_law_whole]
  rw [run_succ g108]
  have e0 : prD p = .tup ([p.1, p.2].map D.int) := rfl
  have pl : plL 19 (ts.map prD) = true := pl_prs ts 18
  have pp : ∀ q : Int × Int, plD 20 (prD q) = true := fun q => rfl
  have c := compL_all D.int D.bl (fun _ => true) (f := cmpF (run PG (n + 1)) (.call 107 true [(.var 2)]) (.one 2) none [some (false, webD m ts), some (false, .tup [.int p.1, .int p.2]), none]) [p.1, p.2] fun i hi => by simp [-List.map_map, cmpF, wh]
  simp only [List.map_cons, List.map_nil] at c
  have e1 : prD p = .tup [.int p.1, .int p.2] := rfl
  have l2 : 2 < szL := by unfold szL; omega
  have ab : allOf blOf [D.bl true, D.bl true] = some [true, true] := rfl
  rw [e1]
  simp [-List.map_map, F108_law_is_step, c, l2, ab, minD_two, maxD_two]
  rw [hp]
  simp [-List.map_map, pl, pp]
  exact ⟨_, _, hin, by rw [eq_pr]; exact decide_eq_true rfl⟩
/-- steps that can be done are not wrong -/
theorem fw_loop (n : Nat) {m s : Int} {ts : List (Int × Int)} (hw : WebOk m ts) (h t : D) : ∀ (ss : List (Int × Int)) (k : Nat) (x y : List Int), HpLe m s x → Play ts x ss y →
    loopF (bodyF (run PG (n + 4)) true (.tup [4, 5]) B55_0) (((ss.map prD).zipIdx k).map fun p => .tup [.int p.2, p.1]) [some (false, webD m ts), some (false, h), some (false, t), some (false, hpD x), none, none] = .ok (.nx [some (false, webD m ts), some (false, h), some (false, t), some (false, hpD y), none, none])
  | [], k, x, y, _, p => by
    have p : x = y := p
    subst p; simp [-List.map_map]
  | q :: ss, k, x, y, H, p => by
    obtain ⟨hq, p⟩ := p
    have mq := mem_may.mp hq
    have r := tied_rg hw.2.2.1 mq.1
    have hl := H.1.len
    have e1 := is_step n hw mq.1
    have e2 : run PG (n + 4) 51 _ = _ := done (n + 3) (hs := x) (p := q) r.1 (by omega) r.2.2.1 (by omega)
    have ix := idx_hp (hs := x) r.1 (by omega)
    have nl : ¬ hAt x q.1 < 2 := by omega
    have i0 : idxD (prD q) (.int 0) = .ok (.int q.1) := rfl
    have turn : bodyF (run PG (n + 4)) true (.tup [4, 5]) B55_0 (.tup [.int k, prD q]) [some (false, webD m ts), some (false, h), some (false, t), some (false, hpD x), none, none] = .ok (.nx [some (false, webD m ts), some (false, h), some (false, t), some (false, hpD (doneL x q)), none, none]) := by
      simp [-List.map_map, bodyF, B55_0, e1, e2, ix, nl, i0]
    rw [List.map_cons, List.zipIdx_cons, List.map_cons, loop_cons, turn, bR_ok, oRt_nx]
    exact fw_loop n hw h t ss (k + 1) (doneL x q) y (moves_ok hw.2.2.1 H (moves_may.mpr ⟨q, hq, rfl⟩)).1 p
theorem first_wrong (n : Nat) {m s : Int} {ts : List (Int × Int)} (hw : WebOk m ts) {h y : List Int} (H : HpLe m s h) {ss : List (Int × Int)} (p : Play ts h ss y) : run PG (n + 5) 55 [webD m ts, hpD h, .lst (ss.map prD)] = .ok .non := by
  have lp := fw_loop n hw (hpD h) (.lst (ss.map prD)) ss 0 h y H p
  rw [run_succ g55]
  simp [-List.map_map, F55_first_wrong]
  rw [lp]
  simp [-List.map_map]
theorem lw_wrong (n : Nat) {m s : Int} {ts : List (Int × Int)} (hw : WebOk m ts) (h t : D) : ∀ (ss : List (Int × Int)) (k : Nat) (x y : List Int), HpLe m s x → Play ts x ss y →
    loopF (bodyF (run PG (n + 2)) true (.tup [4, 5]) B109_0) (((ss.map prD).zipIdx k).map fun p => .tup [.int p.2, p.1]) [some (false, webD m ts), some (false, h), some (false, t), some (false, hpD x), none, none] = .ok (.nx [some (false, webD m ts), some (false, h), some (false, t), some (false, hpD y), none, none])
  | [], k, x, y, _, p => by
    have p : x = y := p
    subst p; simp [-List.map_map]
  | q :: ss, k, x, y, H, p => by
    obtain ⟨hq, p⟩ := p
    have mq := mem_may.mp hq
    have r := tied_rg hw.2.2.1 mq.1
    have hl := H.1.len
    have e1 := law_is_step n hw mq.1
    have e2 : run PG (n + 2) 101 _ = _ := law_moved (n + 1) (hs := x) (p := q) r.1 (by omega) r.2.2.1 (by omega)
    have ix := idx_hp (hs := x) r.1 (by omega)
    have nl : ¬ hAt x q.1 < 2 := by omega
    have i0 : idxD (prD q) (.int 0) = .ok (.int q.1) := rfl
    have turn : bodyF (run PG (n + 2)) true (.tup [4, 5]) B109_0 (.tup [.int k, prD q]) [some (false, webD m ts), some (false, h), some (false, t), some (false, hpD x), none, none] = .ok (.nx [some (false, webD m ts), some (false, h), some (false, t), some (false, hpD (doneL x q)), none, none]) := by
      simp [-List.map_map, bodyF, B109_0, e1, e2, ix, nl, i0]
    rw [List.map_cons, List.zipIdx_cons, List.map_cons, loop_cons, turn, bR_ok, oRt_nx]
    exact lw_wrong n hw h t ss (k + 1) (doneL x q) y (moves_ok hw.2.2.1 H (moves_may.mpr ⟨q, hq, rfl⟩)).1 p
theorem law_wrong (n : Nat) {m s : Int} {ts : List (Int × Int)} (hw : WebOk m ts) {h y : List Int} (H : HpLe m s h) {ss : List (Int × Int)} (p : Play ts h ss y) : run PG (n + 3) 109 [webD m ts, hpD h, .lst (ss.map prD)] = .ok .non := by
  have lp := lw_wrong n hw (hpD h) (.lst (ss.map prD)) ss 0 h y H p
  rw [run_succ g109]
  simp [-List.map_map, F109_law_wrong]
  rw [lp]
  simp [-List.map_map]
theorem le_loop (n : Nat) {m s : Int} {ts : List (Int × Int)} (hw : WebOk m ts) (h t : D) : ∀ (ss : List (Int × Int)) (x y : List Int), HpLe m s x → Play ts x ss y →
    loopF (bodyF (run PG (n + 1)) false (.one 3) B102_0) (ss.map prD) [some (false, h), some (false, t), some (false, hpD x), none] = .ok (.nx [some (false, h), some (false, t), some (false, hpD y), none])
  | [], x, y, _, p => by
    have p : x = y := p
    subst p; simp [-List.map_map]
  | q :: ss, x, y, H, p => by
    obtain ⟨hq, p⟩ := p
    have mq := mem_may.mp hq
    have r := tied_rg hw.2.2.1 mq.1
    have hl := H.1.len
    have e2 := law_moved n (hs := x) (p := q) r.1 (by omega) r.2.2.1 (by omega)
    have turn : bodyF (run PG (n + 1)) false (.one 3) B102_0 (prD q) [some (false, h), some (false, t), some (false, hpD x), none] = .ok (.nx [some (false, h), some (false, t), some (false, hpD (doneL x q)), none]) := by
      simp [-List.map_map, bodyF, B102_0, e2]
    rw [List.map_cons, loop_cons, turn, bR_ok, oRt_nx]
    exact le_loop n hw h t ss (doneL x q) y (moves_ok hw.2.2.1 H (moves_may.mpr ⟨q, hq, rfl⟩)).1 p
theorem law_end' (n : Nat) {m s : Int} {ts : List (Int × Int)} (hw : WebOk m ts) {h y : List Int} (H : HpLe m s h) {ss : List (Int × Int)} (p : Play ts h ss y) : run PG (n + 2) 102 [hpD h, .lst (ss.map prD)] = .ok (hpD y) := by
  have lp := le_loop n hw (hpD h) (.lst (ss.map prD)) ss h y H p
  rw [run_succ g102]
  simp [-List.map_map, F102_law_end]
  rw [lp]
  simp [-List.map_map]
/-- the heaps behind each step -/
def behindL (x : List Int) : List (Int × Int) → List (List Int)
  | [] => []
  | q :: ss => doneL x q :: behindL (doneL x q) ss
theorem behind_len : ∀ (ss : List (Int × Int)) (x : List Int), (behindL x ss).length = ss.length
  | [], _ => rfl
  | q :: ss, x => by unfold behindL; rw [List.length_cons, behind_len ss, List.length_cons]
theorem behind_last {ts : List (Int × Int)} : ∀ {ss : List (Int × Int)} {x y : List Int}, Play ts x ss y → ∃ pre, x :: behindL x ss = pre ++ [y]
  | [], x, y, p => by
    have p : x = y := p
    subst p; exact ⟨[], rfl⟩
  | q :: ss, x, y, p => by
    obtain ⟨pre, e⟩ := behind_last p.2
    exact ⟨x :: pre, by unfold behindL; rw [e]; rfl⟩
theorem hb_loop (n : Nat) {m s : Int} {ts : List (Int × Int)} (hw : WebOk m ts) (h t : D) : ∀ (ss : List (Int × Int)) (x y : List Int) (acc : List (List Int)), HpLe m s x → Play ts x ss y → acc.length + ss.length < 1000000 →
    loopF (bodyF (run PG (n + 1)) true (.one 4) B56_0) (ss.map prD) [some (false, h), some (false, t), some (true, .lst (acc.map hpD)), some (false, hpD x), none] = .ok (.nx [some (false, h), some (false, t), some (true, .lst ((acc ++ behindL x ss).map hpD)), some (false, hpD y), none])
  | [], x, y, acc, _, p, _ => by
    have p : x = y := p
    subst p; simp [-List.map_map, behindL]
  | q :: ss, x, y, acc, H, p, hl2 => by
    obtain ⟨hq, p⟩ := p
    have mq := mem_may.mp hq
    have r := tied_rg hw.2.2.1 mq.1
    have hl := H.1.len
    have e2 := done n (hs := x) (p := q) r.1 (by omega) r.2.2.1 (by omega)
    rw [List.length_cons] at hl2
    have la : acc.length < szL := by unfold szL; omega
    have turn : bodyF (run PG (n + 1)) true (.one 4) B56_0 (prD q) [some (false, h), some (false, t), some (true, .lst (acc.map hpD)), some (false, hpD x), none] = .ok (.nx [some (false, h), some (false, t), some (true, .lst ((acc ++ [doneL x q]).map hpD)), some (false, hpD (doneL x q)), none]) := by
      simp [-List.map_map, bodyF, B56_0, e2, la]
    rw [List.map_cons, loop_cons, turn, bR_ok, oRt_nx, hb_loop n hw h t ss (doneL x q) y (acc ++ [doneL x q]) (moves_ok hw.2.2.1 H (moves_may.mpr ⟨q, hq, rfl⟩)).1 p (by simp [-List.map_map]; omega)]
    simp [-List.map_map, behindL]
theorem heaps_behind (n : Nat) {m s : Int} {ts : List (Int × Int)} (hw : WebOk m ts) {h y : List Int} (H : HpLe m s h) {ss : List (Int × Int)} (p : Play ts h ss y) (hl : ss.length < 1000000) : run PG (n + 2) 56 [hpD h, .lst (ss.map prD)] = .ok (.lst ((behindL h ss).map hpD)) := by
  have lp := hb_loop n hw (hpD h) (.lst (ss.map prD)) ss h y [] H p (by simp [-List.map_map]; omega)
  simp only [List.map_nil, List.nil_append] at lp
  rw [run_succ g56]
  simp [-List.map_map, F56_heaps_behind]
  rw [lp]
  simp [-List.map_map]
theorem brings (n : Nat) {m s : Int} {ts : List (Int × Int)} (hw : WebOk m ts) {h y : List Int} (H : HpLe m s h) (h3 : h.sum ≤ 300) {ss : List (Int × Int)} (p : Play ts h ss y) (hl : ss.length < 1000000) {q k : Int} (q0 : 0 ≤ q) (q1 : q < m) (k0 : 1 ≤ k) (k1 : k ≤ 300) : run PG (n + 6) 59 [webD m ts, hpD h, .int q, .int k, .lst (ss.map prD)] = .ok (.bl (decide (k ≤ hAt y q))) := by
  have a : run PG (n + 5) 48 [webD m ts, hpD h] = .ok .non := need_heap (n + 2) ts H.1.len H.1.pos h3
  have b : run PG (n + 5) 18 [webD m ts, .int q] = .ok .non := need_place (n + 2) q0 q1
  have c : run PG (n + 5) 45 _ = _ := need_number (n + 2) k0 k1
  have d := first_wrong n hw H p
  have e : run PG (n + 5) 56 _ = _ := heaps_behind (n + 3) hw H p hl
  obtain ⟨pre, ep⟩ := behind_last p
  have yl : HpLe m s y := reach_ok hw.2.2.1 H p.reach
  have iy := idx_hp (hs := y) q0 (by have := yl.1.len; omega)
  have al : atI (hpD h :: (behindL h ss).map hpD) (-1) = some (hpD y) := by
    have : hpD h :: (behindL h ss).map hpD = pre.map hpD ++ [hpD y] := by
      rw [← List.map_cons, ep, List.map_append]; rfl
    rw [this]; exact at_last _ _
  have ll : 1 + (behindL h ss).length ≤ szL := by rw [behind_len]; unfold szL; omega
  rw [run_succ g59]
  simp [-List.map_map, F59_brings, need_web n hw, a, b, c, d, e, ll, al, iy]
/-- a closed list -/
theorem closed_holds (n : Nat) {m s : Int} {ts : List (Int × Int)} (hw : WebOk m ts) (hl : ts.length ≤ 1000) (h300 : s ≤ 300) {h : List Int} (H : HpLe m s h) {p k : Int} (p0 : 0 ≤ p) (p1 : p < m) (k0 : 1 ≤ k) (k1 : k ≤ 300) {rows : List (List Int)} (A : AllOf m s ts h rows) (hk : ∀ x ∈ rows, hAt x p < k) :
    run PG (n + 7) 66 [webD m ts, hpD h, .int p, .int k, .lst (rows.map hpD)] = .ok (.bl true) := by
  have a := need_searched n hw H.1 (by have := H.2; omega)
  have b : run PG (n + 6) 18 [webD m ts, .int p] = .ok .non := need_place (n + 3) p0 p1
  have c : run PG (n + 6) 45 _ = _ := need_number (n + 3) k0 k1
  have hlen := A.len
  have l1 : ∀ (xs pre : List (List Int)), pre ++ xs = rows →
      loopF (bodyF (run PG (n + 6)) true (.one 6) B66_0) (xs.map hpD) [some (false, webD m ts), some (false, hpD h), some (false, .int p), some (false, .int k), some (false, .lst (rows.map hpD)), some (true, .dic true (kvT pre)), none, none] = .ok (.nx [some (false, webD m ts), some (false, hpD h), some (false, .int p), some (false, .int k), some (false, .lst (rows.map hpD)), some (true, .dic true (kvT rows)), none, none]) := by
    intro xs
    induction xs with
    | nil => intro pre e; rw [List.append_nil] at e; subst e; simp [-List.map_map]
    | cons x xs ih =>
      intro pre e
      have mx : x ∈ rows := by rw [← e]; simp [-List.map_map]
      have nx : x ∉ pre := fun hx => by
        have nd := A.nd
        rw [← e] at nd
        exact (List.nodup_append.mp nd).2.2 x hx x (List.mem_cons_self ..) rfl
      have ok := A.ok x mx
      have hg : run PG (n + 6) 47 _ = _ := heap_good (n + 4) m ts x ok.1.len ok.1.pos
      have sx : x.sum ≤ 300 := by have := ok.2; omega
      have ix := idx_hp (hs := x) p0 (by have := ok.1.len; omega)
      have nk : ¬ k ≤ hAt x p := by have := hk x mx; omega
      have kf : keyFit true (hpD x) = true := kf_hp x
      have lp : pre.length < szL := by
        have : pre.length ≤ rows.length := by rw [← e]; simp [-List.map_map]
        unfold szL; omega
      have turn : bodyF (run PG (n + 6)) true (.one 6) B66_0 (hpD x) [some (false, webD m ts), some (false, hpD h), some (false, .int p), some (false, .int k), some (false, .lst (rows.map hpD)), some (true, .dic true (kvT pre)), none, none] = .ok (.nx [some (false, webD m ts), some (false, hpD h), some (false, .int p), some (false, .int k), some (false, .lst (rows.map hpD)), some (true, .dic true (kvT (pre ++ [x]))), none, none]) := by
        simp [-List.map_map, bodyF, B66_0, hg, sx, ix, nk, kf, lp, dput_T nx]
      rw [List.map_cons, loop_cons, turn, bR_ok, oRt_nx]
      exact ih (pre ++ [x]) (by rw [← e]; simp [-List.map_map])
  have l2 := loop_test hpD (fun _ => true) (.bl false) [some (false, webD m ts), some (false, hpD h), some (false, .int p), some (false, .int k), some (false, .lst (rows.map hpD)), some (true, .dic true (kvT rows)), none, none] (f := bodyF (run PG (n + 6)) true (.one 6) B66_2) rows fun x hx => by
    have ok := A.ok x hx
    have em : run PG (n + 6) 53 _ = _ := may_step (n + 4) hw.2.2.1 ok.1.len hl
    have l3 := loop_test prD (fun _ => true) (.bl false) [some (false, webD m ts), some (false, hpD h), some (false, .int p), some (false, .int k), some (false, .lst (rows.map hpD)), some (true, .dic true (kvT rows)), some (false, hpD x), none] (f := bodyF (run PG (n + 6)) true (.one 7) B66_1) (mayOf ts x) fun q hq => by
      have mq := mem_may.mp hq
      have r := tied_rg hw.2.2.1 mq.1
      have hlx := ok.1.len
      have e2 : run PG (n + 6) 51 _ = _ := done (n + 5) (hs := x) (p := q) r.1 (by omega) r.2.2.1 (by omega)
      have my : doneL x q ∈ rows := (A.mem _).mpr (((A.mem x).mp hx).snoc (moves_may.mpr ⟨q, hq, rfl⟩))
      have dg := dget_T rows (doneL x q)
      rw [if_pos my] at dg
      simp [-List.map_map, bodyF, B66_1, e2, dg]
    rw [if_pos (by simp [-List.map_map])] at l3
    simp [-List.map_map, bodyF, B66_2, em]
    rw [l3]
    simp [-List.map_map]
  rw [if_pos (by simp [-List.map_map])] at l2
  have mh : h ∈ rows := (A.mem h).mpr .nil
  have dh := dget_T rows h
  rw [if_pos mh] at dh
  have l1 := l1 rows [] rfl
  have k0' : kvT [] = [] := rfl
  rw [k0'] at l1
  rw [run_succ g66]
  simp [-List.map_map, F66_closed_holds, a, b, c]
  rw [l1]
  simp [-List.map_map]
  rw [l2]
  simp [-List.map_map, dh]
end Lib
end

section
set_option autoImplicit true
set_option maxRecDepth 100000
namespace Lib
open PySem Z
/-! the search with a stack -/
def addB (x : List Int) (u : List (List Int) × List (List Int)) (q : Int × Int) : List (List Int) × List (List Int) := if 2 ≤ hAt x q.1 then addN x u q else u
theorem addB_fold (x : List Int) : ∀ (ss : List (Int × Int)) (u : List (List Int) × List (List Int)), ss.foldl (addB x) u = (ss.filter fun q => decide (2 ≤ hAt x q.1)).foldl (addN x) u
  | [], _ => rfl
  | q :: ss, u => by
    rw [List.foldl_cons, addB_fold x ss, List.filter_cons]
    unfold addB
    by_cases h : 2 ≤ hAt x q.1 <;> simp [-List.map_map, h]
theorem addB_ok {m s : Int} {ts : List (Int × Int)} (hw : ∀ p ∈ ts, 0 ≤ p.1 ∧ p.1 < p.2 ∧ p.2 < m) {h x : List Int} (rows td : List (List Int)) (S : SrI m s ts h rows) (hx : x ∈ rows) :
    ∃ r, (bothW ts).foldl (addB x) (rows, td) = (rows ++ r, td ++ r) ∧ SrI m s ts h (rows ++ r) ∧ ∀ y, Moves ts x y → y ∈ rows ++ r := by
  rw [addB_fold]
  obtain ⟨r, k1, k2, k3⟩ := addN_ok hw ((bothW ts).filter fun q => decide (2 ≤ hAt x q.1)) rows td (fun q hq => by
    rw [List.mem_filter] at hq
    exact mem_may.mpr ⟨mem_both.mp hq.1, of_decide_eq_true hq.2⟩) S hx
  refine ⟨r, k1, k2, fun y ⟨a, b, t, h2, e⟩ => ?_⟩
  rw [e]
  exact k3 (a, b) (List.mem_filter.mpr ⟨mem_both.mpr t, decide_eq_true h2⟩)
theorem st_loop (n : Nat) {m s : Int} {ts : List (Int × Int)} (hw : WebOk m ts) (s0 : 0 ≤ s) (hK : hpN s.toNat m.toNat < 1000000) {h x : List Int} (a b : D) (rows td : List (List Int)) (S : SrI m s ts h rows) (hx : x ∈ rows) (ha : td.length ≤ rows.length) :
    loopF (bodyF (run PG n) true (.tup [5, 6]) B154_0) ((bothW ts).map prD) [some (false, a), some (false, b), some (true, .dic true (kvT rows)), some (true, .lst (td.map hpD)), some (false, hpD x), none, none, none] =
      .ok (.nx [some (false, a), some (false, b), some (true, .dic true (kvT ((bothW ts).foldl (addB x) (rows, td)).1)), some (true, .lst (((bothW ts).foldl (addB x) (rows, td)).2.map hpD)), some (false, hpD x), none, none, none]) :=
  (loop_fold prD (fun u : List (List Int) × List (List Int) => [some (false, a), some (false, b), some (true, .dic true (kvT u.1)), some (true, .lst (u.2.map hpD)), some (false, hpD x), none, none, none]) (addB x) (fun u => SrI m s ts h u.1 ∧ x ∈ u.1 ∧ u.2.length ≤ u.1.length) (bothW ts) (rows, td) ⟨S, hx, ha⟩ fun u q hq I => by
    obtain ⟨rows, td⟩ := u
    obtain ⟨S, hx, ha⟩ := I
    simp only at S hx ha
    have hl := S.len (by have := hw.1; omega) s0
    have l1 : rows.length < szL := by unfold szL; omega
    have l2 : td.length < szL := by unfold szL; omega
    have hlen := (S.ok x hx).1.len
    have t : Tied ts q.1 q.2 := mem_both.mp hq
    have rr := tied_rg hw.2.2.1 t
    have ia := idx_hp (hs := x) rr.1 (by omega)
    have e1 := idx_ints (hs := x) rr.1 (by omega)
    have e2 := augi_at (hs := x) (i := q.1) (d := -2) rr.1 (by omega)
    have e3 := idx_ints (hs := addAt x q.1 (-2)) (i := q.2) rr.2.2.1 (by rw [addAt_len]; omega)
    have e4 := augi_at (hs := addAt x q.1 (-2)) (i := q.2) (d := 1) rr.2.2.1 (by rw [addAt_len]; omega)
    have sub : hAt x q.1 - 2 = hAt x q.1 + -2 := rfl
    simp only [idx_lst] at e1 e3
    have dg := dget_T rows (doneL x q)
    have de : D.tup ((addAt (addAt x q.1 (-2)) q.2 1).map D.int) = hpD (doneL x q) := rfl
    have kf : keyFit true (hpD (doneL x q)) = true := kf_hp _
    have lo : hpD x = .tup (x.map D.int) := rfl
    unfold addB
    by_cases h2 : 2 ≤ hAt x q.1
    · have h1 : 1 < hAt x q.1 := by omega
      simp only [if_pos h2]
      unfold addN
      by_cases hm : doneL x q ∈ rows
      · rw [if_pos hm] at dg
        simp only [if_pos hm]
        refine ⟨?_, S, hx, ha⟩
        simp [-List.map_map, bodyF, B154_0, prD, ia, h1]
        rw [lo]
        simp [-List.map_map, e1, e2, e3, e4, sub, de, dg]
      · rw [if_neg hm] at dg
        simp only [if_neg hm]
        refine ⟨?_, S.add hw.2.2.1 hx ⟨q.1, q.2, t, h2, rfl⟩ hm, List.mem_append_left _ hx, by simp [-List.map_map]; exact ha⟩
        simp [-List.map_map, bodyF, B154_0, prD, ia, h1]
        rw [lo]
        simp [-List.map_map, e1, e2, e3, e4, sub, de, dg, dput_T hm, l1, l2]
    · have h1 : ¬ 1 < hAt x q.1 := by omega
      simp only [if_neg h2]
      refine ⟨?_, S, hx, ha⟩
      simp [-List.map_map, bodyF, B154_0, prD, ia, h1]).1
theorem popD_last (xs : List D) (x : D) : popD (xs ++ [x]) = .ok (x, xs) := by
  cases hx : xs ++ [x] with
  | nil => simp [-List.map_map] at hx
  | cons a r =>
    have h1 : (a :: r).getLast (List.cons_ne_nil _ _) = x := by
      have : ∀ l : List D, ∀ h : l ≠ [], l = xs ++ [x] → l.getLast h = x := fun l h e => by subst e; simp [-List.map_map]
      exact this _ _ hx.symm
    have h2 : (a :: r).dropLast = xs := by rw [← hx]; simp [-List.map_map]
    show R.ok ((a :: r).getLast (List.cons_ne_nil _ _), (a :: r).dropLast) = _
    rw [h1, h2]
theorem law_behind2 (n : Nat) {m s : Int} {ts : List (Int × Int)} (hw : WebOk m ts) (hl : ts.length ≤ 1000) (s0 : 0 ≤ s) (hK : hpN s.toNat m.toNat < 1000000) {h : List Int} (H : HpLe m s h) :
    ∃ rows, AllOf m s ts h rows ∧ run PG (n + 1) 154 [webD m ts, hpD h] = .ok (.lst (rows.map hpD)) := by
  have w1 := hw.1
  have w3 := hw.2.2.1
  have lb : (bothW ts).map prD = ts.map prD ++ (ts.map swp).map prD := by unfold bothW; rw [List.map_append]
  have wl := while_inv (σ := List (List Int) × List (List Int)) (fun u => [some (false, webD m ts), some (false, hpD h), some (true, .dic true (kvT u.1)), some (true, .lst (u.2.map hpD)), none, none, none, none])
    (fun u => SrI m s ts h u.1 ∧ (∀ x ∈ u.2, x ∈ u.1) ∧ u.2.length ≤ u.1.length ∧ ∀ x ∈ u.1, x ∉ u.2 → ∀ y, Moves ts x y → y ∈ u.1) (fun u => hpN s.toNat m.toNat - u.1.length + u.2.length) (c := testF (run PG n) C154_1) (f := bodyW (run PG n) true B154_1) (fun u hu => by
      obtain ⟨rows, todo⟩ := u
      obtain ⟨S, hr, hle, hc⟩ := hu
      simp only at S hr hle hc
      have nn := ne_nil todo
      refine ⟨decide (todo ≠ []), by simp [-List.map_map, testF, C154_1, nn], fun hb => ?_⟩
      have hb := of_decide_eq_true hb
      obtain ⟨td, x, rfl⟩ : ∃ td x, todo = td ++ [x] := ⟨todo.dropLast, todo.getLast hb, (List.dropLast_concat_getLast hb).symm⟩
      have mx : x ∈ rows := hr x (by simp [-List.map_map])
      have ltd : td.length ≤ rows.length := by rw [List.length_append] at hle; simp [-List.map_map] at hle; omega
      obtain ⟨r, k1, k2, k3⟩ := addB_ok w3 rows td S mx
      have lp := st_loop n hw s0 hK (webD m ts) (hpD h) rows td S mx ltd
      rw [k1, lb] at lp
      have hl2 := k2.len (by omega) s0
      rw [List.length_append] at hl2
      have cc : ∀ a0 a1 a2 a3 a4 a7 : Option (Bool × D), compL (cmpF (run PG n) (.tup [.var 6, .var 5]) (.tup [5, 6]) none [a0, a1, a2, a3, a4, none, none, a7]) (ts.map prD) = .ok ((ts.map swp).map prD) := fun _ _ _ _ _ _ =>
        compL_all prD prD swp ts fun p hp => by simp [-List.map_map, cmpF, prD, swp]
      have l1 : ts.length < szL := by unfold szL; omega
      have l2 : ts.length + ts.length ≤ szL := by unfold szL; omega
      refine ⟨(rows ++ r, td ++ r), ?_, ⟨k2, fun z hz => ?_, by simp [-List.map_map]; omega, fun z hz hn y hy => ?_⟩, ?_⟩
      · simp [-List.map_map, bodyW, B154_1, popD_last, cc, l1, l2]
        rw [lp]
        simp [-List.map_map]
      · rcases List.mem_append.mp hz with hz | hz
        · exact List.mem_append_left _ (hr z (List.mem_append_left _ hz))
        · exact List.mem_append_right _ hz
      · simp only at hz hn
        by_cases hzx : z = x
        · subst hzx; exact k3 y hy
        · rcases List.mem_append.mp hz with hz | hz
          · refine List.mem_append_left _ (hc z hz (fun hm => ?_) y hy)
            rcases List.mem_append.mp hm with hm | hm
            · exact hn (List.mem_append_left _ hm)
            · exact hzx (by simpa [-List.map_map] using hm)
          · exact absurd (List.mem_append_right _ hz) hn
      · simp only [List.length_append, List.length_singleton]
        omega)
  obtain ⟨⟨rows, todo⟩, e, ⟨S, hr, hle, hc⟩, hf⟩ := wl 1000000 ([h], [h]) ⟨srI_one H, fun x hx => hx, Nat.le_refl _, fun x hx hn => absurd hx hn⟩ (by
    simp only [List.length_singleton]
    have : 0 < hpN s.toNat m.toNat := hpN_pos _ _
    omega)
  simp only at e S hr hle hc hf
  have nn := ne_nil todo
  have hrow : todo = [] := by
    simp [-List.map_map, testF, C154_1, nn] at hf
    exact hf
  subst hrow
  have full := S.full fun x hx y hy => hc x hx (by simp [-List.map_map]) y hy
  refine ⟨isort lexLe rows, S.sorted (by omega) s0 hK full, ?_⟩
  have hl2 := S.len (by omega) s0
  have so := sort_hp (rows := rows) (by unfold szL; omega) fun x hx => (S.ok x hx).ne w1
  rw [run_succ g154]
  have k0 : kvT [h] = [(hpD h, .bl true)] := rfl
  simp only [k0] at e
  simp [-List.map_map, F154_law_behind]
  simp [-List.map_map] at e
  rw [e]
  simp [-List.map_map, kvT_keys, so]
theorem most_there (n : Nat) {m s : Int} {ts : List (Int × Int)} (hw : WebOk m ts) (hl : ts.length ≤ 1000) (s0 : 0 ≤ s) (hK : hpN s.toNat m.toNat < 1000000) {h : List Int} (H : HpLe m s h) {p d : Int} (p0 : 0 ≤ p) (p1 : p < m) (T : TopAt ts h p d) : run PG (n + 2) 155 [webD m ts, hpD h, .int p] = .ok (.int d) := by
  obtain ⟨rows, A, e⟩ := law_behind2 n hw hl s0 hK H
  have rl : rows.length < szL := by have := A.len; unfold szL; omega
  have c : compL (cmpF (run PG (n + 1)) (.idx (.var 3) (.var 2)) (.one 3) none [some (false, webD m ts), some (false, hpD h), some (false, .int p), none]) (rows.map hpD) = .ok ((rows.map fun x => hAt x p).map D.int) :=
    at_all (C := run PG 0) (fun x hx => (A.ok x hx).1) p0 p1 fun x x0 x1 => by
      have i := idx_hp (hs := x) x0 x1
      simp [-List.map_map, cmpF, i]
  have mx := top_max A.mem T
  rw [run_succ g155]
  simp [-List.map_map, F155_law_most_there, e, c, rl, mx]
end Lib
end

section
set_option autoImplicit true
set_option maxRecDepth 100000
namespace Lib
open PySem Z
/-! what is refused -/
abbrev kA : List (List String) := [["NoWeb", "NoKind", "NoHeap", "NoPlace"], ["NoNumber", "NoTally", "NotTree", "NotJoined"], ["NoWeights", "NoRow", "NoSteps", "NoText"], ["TooGreat"]]
abbrev kB : List (List String) := [["NoKind", "NoHeap", "NoPlace", "NoNumber"], ["NoTally", "NotTree", "NotJoined", "NoWeights"], ["NoRow", "NoWeb", "NoSteps", "NoText"], ["TooGreat"]]
theorem try_big (a b : Int) : tryX kB (.ret (.tup [.kinds, (.fld "many"), (.fld "most")])) "TooGreat" [.int a, .int b] = .ok (.rt (.tup [.int 12, .int a, .int b])) := rfl
theorem few_exc (n : Nat) {a b : Int} (h : b < a) : run PG (n + 1) 46 [.int a, .int b] = .exc "TooGreat" [.int a, .int b] := by
  rw [run_succ g46]
  simp [-List.map_map, F46_need_few, h, excD, allOf, intOf, fldsOf]
theorem number_any (n : Nat) (d : D) (a b : Int) (hd : noDic d = true) : run PG (n + 3) 45 [d, .int a, .int b] = if inRg d a b = true then .ok .non else .exc "NoNumber" [] := by
  rw [run_succ g45]
  simp [-List.map_map, F45_need_number, is_from n d a b hd, excD, allOf, fldsOf]
  cases inRg d a b <;> simp [-List.map_map, excD, allOf, fldsOf]
theorem place_any (n : Nat) {m : Int} {ts : List (Int × Int)} (d : D) (hd : noDic d = true) : run PG (n + 3) 18 [webD m ts, d] = if inRg d 0 (m - 1) = true then .ok .non else .exc "NoPlace" [] := by
  rw [run_succ g18]
  simp [-List.map_map, F18_need_place, webD, is_from n d 0 (m - 1) hd, excD, allOf, fldsOf]
  cases inRg d 0 (m - 1) <;> simp [-List.map_map, excD, allOf, fldsOf]
/-- a heap, place by place -/
theorem hp_map {m : Int} {hs : List Int} (hl : (hs.length : Int) = m) : hs = (upI m.toNat).map (hAt hs) := by
  apply List.ext_getElem
  · rw [List.length_map, upI_len]; omega
  · intro i h1 h2
    rw [List.getElem_map]
    have : (upI m.toNat)[i]'(by simpa [-List.map_map] using h2) = (i : Int) := by unfold upI; simp [-List.map_map]
    rw [this]
    unfold hAt
    simp [-List.map_map, h1]
theorem sum_le_add (f g : Int → Int) : ∀ (l : List Int), (∀ p ∈ l, f p ≤ g p + 1) → (l.map f).sum ≤ (l.map g).sum + l.length
  | [], _ => by simp [-List.map_map]
  | x :: l, h => by
    have h1 := h x (List.mem_cons_self ..)
    have h2 := sum_le_add f g l fun p hp => h p (List.mem_cons_of_mem _ hp)
    simp only [List.map_cons, List.sum_cons, List.length_cons]
    omega
end Lib
end

section
set_option autoImplicit true
set_option maxRecDepth 100000
namespace Lib
open PySem Z
/-! steps, and things that are none -/
def OddT (d : D) : Prop := isiD d .tup = .ok false ∨ (∃ ds : List D, d = .tup ds ∧ ds.length ≠ 2 ∧ ∀ x ∈ ds, noDic x = true) ∨ (∃ b i, d = .tup [.bl b, .int i]) ∨ ∃ i b, d = .tup [.int i, .bl b]
def StT (d : D) : Prop := (∃ p, d = prD p) ∨ OddT d
open Classical in
noncomputable def stB (ts : List (Int × Int)) : D → Bool
  | .tup [.int a, .int b] => decide (Tied ts a b)
  | _ => false
theorem stB_pr {ts : List (Int × Int)} (p : Int × Int) : stB ts (prD p) = true ↔ Tied ts p.1 p.2 := by
  simp [-List.map_map, stB, prD]
theorem stB_odd {ts : List (Int × Int)} {d : D} (h : OddT d) : stB ts d = false := by
  rcases h with h | ⟨ds, rfl, h, _⟩ | ⟨b, i, rfl⟩ | ⟨i, b, rfl⟩
  · cases d <;> first | rfl | (exfalso; injection h with h; cases h; done)
  · rcases ds with _ | ⟨a, _ | ⟨b, _ | ⟨c, r⟩⟩⟩
    · rfl
    · cases a <;> rfl
    · exact absurd rfl h
    · cases a <;> cases b <;> rfl
  · rfl
  · rfl
theorem any_prW (ts : List (Int × Int)) (p : Int × Int) : ((ts.map prD).any fun z => eqD z (prD p)) = decide (p ∈ ts) := by
  induction ts with
  | nil => simp [-List.map_map]
  | cons q r ih =>
    rw [List.map_cons, List.any_cons, ih, eq_pr]
    by_cases e : p = q
    · subst e; simp [-List.map_map]
    · have e2 : ¬ q = p := fun h => e h.symm
      simp [-List.map_map, e, e2]
theorem in_prW (ts : List (Int × Int)) (p : Int × Int) : inD (prD p) (.tup (ts.map prD)) = .ok (decide (p ∈ ts)) := by
  rw [in_tup_def, any_prW, gd_pos ⟨rfl, pl_prs ts 18⟩]
theorem tied_srt {m : Int} {ts : List (Int × Int)} (hw : WebOk m ts) (a b : Int) : ((if b < a then b else a), (if b > a then b else a)) ∈ ts ↔ Tied ts a b := by
  constructor
  · intro h
    by_cases q : b < a
    · rw [if_pos q, if_neg (by omega)] at h; exact .inr h
    · rw [if_neg q] at h
      by_cases q2 : b > a
      · rw [if_pos q2] at h; exact .inl h
      · rw [if_neg q2] at h
        have := (hw.2.2.1 _ h).2.1
        simp only at this
        omega
  · intro t
    have h := WebOk.tied hw t
    have r := tied_rg hw.2.2.1 t
    by_cases q : a < b
    · rw [if_pos q] at h
      rw [if_neg (by omega), if_pos q]; exact h
    · rw [if_neg q] at h
      rw [if_pos (by omega), if_neg (by omega)]; exact h
theorem is_stepA (n : Nat) {m : Int} {ts : List (Int × Int)} (hw : WebOk m ts) {d : D} (h : StT d) : run PG (n + 4) 49 [webD m ts, d] = .ok (.bl (stB ts d)) := by
  rcases h with ⟨p, rfl⟩ | h
  · by_cases t : Tied ts p.1 p.2
    · rw [stB_pr p |>.mpr t]; exact is_step n hw t
    · have sf : stB ts (prD p) = false := by rw [← Bool.not_eq_true, stB_pr]; exact t
      rw [sf]
      have tw : run PG (n + 3) 2 _ = _ := is_two n p m
      have nin : ¬ ((if p.2 < p.1 then p.2 else p.1), (if p.2 > p.1 then p.2 else p.1)) ∈ ts := fun q => t ((tied_srt hw p.1 p.2).mp q)
      have hi := in_prW ts ((if p.2 < p.1 then p.2 else p.1), (if p.2 > p.1 then p.2 else p.1))
      rw [decide_eq_false nin] at hi
      have hi : inD (.tup [.int (if p.2 < p.1 then p.2 else p.1), .int (if p.2 > p.1 then p.2 else p.1)]) (.tup (ts.map prD)) = .ok false := hi
      rw [run_succ g49]
      cases tk : twoOk (prD p) m with
      | false =>
        rw [tk] at tw
        simp [-List.map_map, F49_is_step, tw]
      | true =>
        rw [tk] at tw
        have pd : prD p = .tup [.int p.1, .int p.2] := rfl
        rw [pd] at tw ⊢
        simp [-List.map_map, -in_tup_def, F49_is_step, tw, minD_two, maxD_two, hi]
  · rw [stB_odd h]
    have tw : run PG (n + 3) 2 [d, .int m] = .ok (.bl false) := by
      rw [run_succ g2]
      rcases h with h | ⟨ds, rfl, h, _⟩ | ⟨b, i, rfl⟩ | ⟨i, b, rfl⟩
      · simp [-List.map_map, F2_is_two, h]
      · have h' : ¬ ((ds.length : Nat) : Int) = 2 := by omega
        simp [-List.map_map, F2_is_two, h']
      · have f : run PG (n + 2) 1 [.bl b, .int 0, .int (m - 1)] = .ok (.bl false) := is_from n (.bl b) 0 (m - 1) rfl
        simp [-List.map_map, F2_is_two, f]
      · have f : run PG (n + 2) 1 [.bl b, .int 0, .int (m - 1)] = .ok (.bl false) := is_from n (.bl b) 0 (m - 1) rfl
        have f2 : run PG (n + 2) 1 [.int i, .int 0, .int (m - 1)] = .ok (.bl (decide (0 ≤ i) && decide (i ≤ m - 1))) := from_int n i 0 (m - 1)
        cases q : (decide (0 ≤ i) && decide (i ≤ m - 1)) <;> rw [q] at f2 <;> simp [-List.map_map, -from_int, F2_is_two, f, f2]
    rw [run_succ g49]
    simp [-List.map_map, F49_is_step, tw]
/-! what is wrong with a row of things -/
def stP : D → Int × Int
  | .tup [.int a, .int b] => (a, b)
  | _ => (0, 0)
theorem stP_pr (p : Int × Int) : stP (prD p) = p := rfl
noncomputable def wrongS (ts : List (Int × Int)) : List Int → List D → Nat → Option (Bool × Nat)
  | _, [], _ => none
  | x, d :: ds, k => if stB ts d = true then (if hAt x (stP d).1 < 2 then some (false, k) else wrongS ts (doneL x (stP d)) ds (k + 1)) else some (true, k)
theorem wrongS_pr {ts : List (Int × Int)} (x : List Int) (p : Int × Int) (ds : List D) (k : Nat) : wrongS ts x (prD p :: ds) k = if stB ts (prD p) = true then (if hAt x p.1 < 2 then some (false, k) else wrongS ts (doneL x p) ds (k + 1)) else some (true, k) := by
  rw [wrongS]
  rfl
def wrongD : Option (Bool × Nat) → D
  | none => .non
  | some (true, k) => .tup [.str (Str.ofString "form"), .int k]
  | some (false, k) => .tup [.str (Str.ofString "bare"), .int k]
theorem wrong_loop (n : Nat) {m s : Int} {ts : List (Int × Int)} (hw : WebOk m ts) (h t : D) : ∀ (ds : List D) (k : Nat) (x : List Int), HpLe m s x → (∀ d ∈ ds, StT d) →
    ∃ o, (wrongS ts x ds k = none → ∃ y, o = .nx [some (false, webD m ts), some (false, h), some (false, t), some (false, hpD y), none, none]) ∧ (∀ w, wrongS ts x ds k = some w → o = .rt (wrongD (some w))) ∧
    loopF (bodyF (run PG (n + 4)) true (.tup [4, 5]) B55_0) ((ds.zipIdx k).map fun p => .tup [.int p.2, p.1]) [some (false, webD m ts), some (false, h), some (false, t), some (false, hpD x), none, none] = .ok o
  | [], k, x, _, _ => ⟨_, (fun _ => ⟨x, rfl⟩), (fun w h => by cases h), (by simp [-List.map_map])⟩
  | d :: ds, k, x, H, hd => by
    have st := hd d (List.mem_cons_self ..)
    have is := is_stepA n hw st
    by_cases b : stB ts d = true
    · rw [b] at is
      obtain ⟨p, rfl⟩ : ∃ p, d = prD p := by
        rcases st with st | st
        · exact st
        · rw [stB_odd st] at b; cases b
      have t' := (stB_pr p).mp b
      have r := tied_rg hw.2.2.1 t'
      have hl := H.1.len
      have ix := idx_hp (hs := x) r.1 (by omega)
      have i0 : idxD (prD p) (.int 0) = .ok (.int p.1) := rfl
      rw [wrongS_pr, if_pos b]
      by_cases h2 : hAt x p.1 < 2
      · rw [if_pos h2]
        refine ⟨.rt (wrongD (some (false, k))), (fun q => by cases q), (fun w q => by injection q with q; rw [q]), ?_⟩
        rw [List.zipIdx_cons, List.map_cons, loop_cons]
        have turn : bodyF (run PG (n + 4)) true (.tup [4, 5]) B55_0 (.tup [.int k, prD p]) [some (false, webD m ts), some (false, h), some (false, t), some (false, hpD x), none, none] = .ok (.rt (wrongD (some (false, k)))) := by
          simp [-List.map_map, bodyF, B55_0, is, ix, h2, i0, wrongD]
        rw [turn]; rfl
      · rw [if_neg h2]
        have mv : Moves ts x (doneL x p) := ⟨p.1, p.2, t', by omega, rfl⟩
        obtain ⟨o, h1, h3, e⟩ := wrong_loop n hw h t ds (k + 1) (doneL x p) (moves_ok hw.2.2.1 H mv).1 fun z hz => hd z (List.mem_cons_of_mem _ hz)
        refine ⟨o, h1, h3, ?_⟩
        have e2 : run PG (n + 4) 51 _ = _ := done (n + 3) (hs := x) (p := p) r.1 (by omega) r.2.2.1 (by omega)
        have turn : bodyF (run PG (n + 4)) true (.tup [4, 5]) B55_0 (.tup [.int k, prD p]) [some (false, webD m ts), some (false, h), some (false, t), some (false, hpD x), none, none] = .ok (.nx [some (false, webD m ts), some (false, h), some (false, t), some (false, hpD (doneL x p)), none, none]) := by
          simp [-List.map_map, bodyF, B55_0, is, e2, ix, h2, i0]
        rw [List.zipIdx_cons, List.map_cons, loop_cons, turn, bR_ok, oRt_nx, e]
    · have b' : stB ts d = false := by simpa [-List.map_map] using b
      rw [b'] at is
      have w1 : wrongS ts x (d :: ds) k = some (true, k) := by
        rw [wrongS]
        rw [if_neg b]
      rw [w1]
      refine ⟨.rt (wrongD (some (true, k))), (fun q => by cases q), (fun w q => by injection q with q; rw [q]), ?_⟩
      rw [List.zipIdx_cons, List.map_cons, loop_cons]
      have turn : bodyF (run PG (n + 4)) true (.tup [4, 5]) B55_0 (.tup [.int k, d]) [some (false, webD m ts), some (false, h), some (false, t), some (false, hpD x), none, none] = .ok (.rt (wrongD (some (true, k)))) := by
        simp [-List.map_map, bodyF, B55_0, is, wrongD]
      rw [turn]; rfl
theorem first_wrongA (n : Nat) {m s : Int} {ts : List (Int × Int)} (hw : WebOk m ts) {h : List Int} (H : HpLe m s h) {ds : List D} (hd : ∀ d ∈ ds, StT d) : run PG (n + 5) 55 [webD m ts, hpD h, .lst ds] = .ok (wrongD (wrongS ts h ds 0)) := by
  obtain ⟨o, h1, h2, e⟩ := wrong_loop n hw (hpD h) (.lst ds) ds 0 h H hd
  have sr : ((ds.zipIdx).map fun p : D × Nat => D.tup [.int (p.2 : Int), p.1]) = ((ds.zipIdx 0).map fun p => .tup [.int p.2, p.1]) := rfl
  rw [run_succ g55]
  simp [-List.map_map, F55_first_wrong]
  rw [e]
  cases q : wrongS ts h ds 0 with
  | none =>
    obtain ⟨y, rfl⟩ := h1 q
    simp [-List.map_map, wrongD]
  | some w =>
    rw [h2 w q]
    obtain ⟨b, k⟩ := w
    cases b <;> simp [-List.map_map, wrongD]
theorem wrong_none {m s : Int} {ts : List (Int × Int)} (hw : WebOk m ts) : ∀ (ds : List D) (k : Nat) (x : List Int), HpLe m s x → (∀ d ∈ ds, StT d) → wrongS ts x ds k = none → ∃ ss y, ds = ss.map prD ∧ Play ts x ss y
  | [], k, x, _, _, _ => ⟨[], x, rfl, rfl⟩
  | d :: ds, k, x, H, hd, hn => by
    by_cases b : stB ts d = true
    · obtain ⟨p, rfl⟩ : ∃ p, d = prD p := by
        rcases hd d (List.mem_cons_self ..) with st | st
        · exact st
        · rw [stB_odd st] at b; cases b
      rw [wrongS_pr, if_pos b] at hn
      have t' := (stB_pr p).mp b
      by_cases h2 : hAt x p.1 < 2
      · rw [if_pos h2] at hn; cases hn
      · rw [if_neg h2] at hn
        have mv : Moves ts x (doneL x p) := ⟨p.1, p.2, t', by omega, rfl⟩
        obtain ⟨ss, y, e, pl⟩ := wrong_none hw ds (k + 1) (doneL x p) (moves_ok hw.2.2.1 H mv).1 (fun z hz => hd z (List.mem_cons_of_mem _ hz)) hn
        exact ⟨p :: ss, y, by rw [e]; rfl, mem_may.mpr ⟨t', by omega⟩, pl⟩
    · rw [wrongS, if_neg b] at hn; cases hn
theorem wrong_play {ts : List (Int × Int)} : ∀ (ss : List (Int × Int)) (ds : List D) (k : Nat) (x y : List Int), Play ts x ss y → wrongS ts x (ss.map prD ++ ds) k = wrongS ts y ds (k + ss.length)
  | [], ds, k, x, y, p => by
    have p : x = y := p
    subst p; rfl
  | q :: ss, ds, k, x, y, p => by
    obtain ⟨hm, p⟩ := p
    have mq := mem_may.mp hm
    rw [List.map_cons, List.cons_append, wrongS_pr, if_pos ((stB_pr q).mpr mq.1), if_neg (by omega), wrong_play ss ds (k + 1) _ y p, List.length_cons]
    congr 1
    omega
/-! drawn steps -/
theorem draw_turn (n : Nat) {m s : Int} {ts : List (Int × Int)} (hw : WebOk m ts) (hl : ts.length ≤ 1000) (h : D) (c : Int) {x : List Int} (Hx : HpLe m s x) : mayOf ts x = [] ∨ ∃ q, q ∈ mayOf ts x ∧ ∀ k : Int, mayOf ts x ≠ [] ∧ True := by
  cases hm : mayOf ts x with
  | nil => exact .inl rfl
  | cons a r => exact .inr ⟨a, List.mem_cons_self .., fun _ => ⟨by simp [-List.map_map], trivial⟩⟩
theorem pr_nilW (rows : List (Int × Int)) : eqR (.lst (rows.map prD)) (.lst []) = .ok (decide (rows = [])) := by
  rw [eqR_def, gd_pos ⟨pl_prs rows 18, rfl⟩]
  cases rows <;> simp [-List.map_map, eqD, eqL]
theorem at_someW {α : Type} {xs : List α} {i : Int} (h0 : 0 ≤ i) (h1 : i < xs.length) : ∃ z ∈ xs, atI xs i = some z :=
  ⟨_, List.getElem_mem (by omega), at_get h0 h1⟩
theorem law_stepsK (n : Nat) {m s : Int} {ts : List (Int × Int)} (hw : WebOk m ts) (hl : ts.length ≤ 1000) {h : List Int} (H : HpLe m s h) (c : Int) (N : Nat) (hN : N ≤ 100) :
    ∃ ss y, Play ts h ss y ∧ ss.length ≤ N ∧ loopF (bodyF (run PG (n + 1)) true (.one 5) B103_0) ((upI N).map D.int) [some (false, webD m ts), some (false, hpD h), some (false, .int c), some (true, .lst []), some (false, hpD h), none, none, none] =
      .ok (.nx [some (false, webD m ts), some (false, hpD h), some (false, .int c), some (true, .lst (ss.map prD)), some (false, hpD y), none, none, none]) := by
  obtain ⟨⟨ss, y⟩, e, pl, hlen⟩ := loop_ex (σ := List (Int × Int) × List Int) D.int (fun u => [some (false, webD m ts), some (false, hpD h), some (false, .int c), some (true, .lst (u.1.map prD)), some (false, hpD u.2), none, none, none]) (fun i u => Play ts h u.1 u.2 ∧ u.1.length ≤ i) (f := bodyF (run PG (n + 1)) true (.one 5) B103_0) (upI N) 0 ([], h) ⟨rfl, by simp [-List.map_map]⟩ fun j u k hk hi => by
    obtain ⟨rfl, hj⟩ := upI_get hk
    obtain ⟨ss, y⟩ := u
    obtain ⟨pl, hlen⟩ := hi
    simp only at pl hlen
    have Hy := reach_ok hw.2.2.1 H pl.reach
    have em : run PG (n + 1) 99 _ = _ := law_may n hw.2.2.1 Hy.1.len hl
    have pn := pr_nilW (mayOf ts y)
    by_cases h0 : mayOf ts y = []
    · have e0 : eqR (D.lst []) (D.lst []) = .ok true := rfl
      rw [h0] at em
      simp only [List.map_nil] at em
      exact ⟨(ss, y), by simp [-List.map_map, bodyF, B103_0, em, e0], pl, by simp only; omega⟩
    · have pos : 0 < (mayOf ts y).length := List.length_pos_iff.mpr h0
      obtain ⟨i0, i1⟩ := mod_rg (stirZ c (201 + (j : Int))) (by omega : (0 : Int) < ((mayOf ts y).length : Int))
      obtain ⟨q, hq, eq⟩ := at_someW i0 i1
      have ea : atI ((mayOf ts y).map prD) ((stirZ c (201 + (j : Int))).fmod ((mayOf ts y).length : Int)) = some (prD q) := by rw [at_map, eq]; rfl
      have mq := mem_may.mp hq
      have r := tied_rg hw.2.2.1 mq.1
      have yl := Hy.1.len
      have e2 : run PG (n + 1) 101 _ = _ := law_moved n (hs := y) (p := q) r.1 (by omega) r.2.2.1 (by omega)
      have nl : ¬ ((mayOf ts y).length : Int) = 0 := by omega
      have sl : ss.length < szL := by unfold szL; omega
      exact ⟨(ss ++ [q], doneL y q), by simp [-List.map_map, bodyF, B103_0, em, pn, h0, nl, ea, e2, sl], pl.snoc hq, by simp [-List.map_map]; omega⟩
  exact ⟨ss, y, pl, by rw [upI_len] at hlen; simpa [-List.map_map] using hlen, by simpa [-List.map_map] using e⟩
end Lib
end

section
set_option autoImplicit true
set_option maxRecDepth 100000
namespace Lib
open PySem Z
/-! the greatest divisor, lowest terms -/
theorem gcd_step {a b : Int} (ha : 0 ≤ a) (hb : 0 < b) : Int.gcd b (a.fmod b) = Int.gcd a b := by
  rw [Int.fmod_eq_emod_of_nonneg _ (Int.le_of_lt hb), Int.gcd_comm b, Int.emod_def]
  exact Int.gcd_sub_mul_left_left ..
def lowD (a b : Int) : D := .tup [.int (a.fdiv (Int.gcd a b)), .int (b.fdiv (Int.gcd a b))]
theorem divisor (n : Nat) {a b : Int} (ha : 0 ≤ a) (hb : 0 ≤ b) (hb2 : b < 1000) : run PG (n + 1) 131 [.int a, .int b] = .ok (.int (Int.gcd a b)) := by
  obtain ⟨⟨x, y⟩, e, ⟨h1, h2, h3, h4⟩, h5⟩ := while_inv (σ := Int × Int) (fun s => [some (false, .int s.1), some (false, .int s.2)]) (fun s => 0 ≤ s.1 ∧ 0 ≤ s.2 ∧ s.2 < 1000 ∧ Int.gcd s.1 s.2 = Int.gcd a b) (fun s => s.2.toNat) (c := testF (run PG n) C131_0) (f := bodyW (run PG n) false B131_0) (fun s hs => by
    obtain ⟨x, y⟩ := s
    obtain ⟨i1, i2, i3, i4⟩ := hs
    simp only at i1 i2 i3 i4
    refine ⟨decide (0 < y), by simp [-List.map_map, testF, C131_0], fun hy => ?_⟩
    have hy := of_decide_eq_true hy
    have r := mod_rg x hy
    have ny : ¬ y = 0 := by omega
    have na : y.natAbs < 1073741824 := by omega
    refine ⟨(y, x.fmod y), by simp [-List.map_map, bodyW, B131_0, ny, na], ⟨i2, r.1, by simp only; omega, by rw [← i4]; exact gcd_step i1 hy⟩, by simp only; omega⟩) 1000000 (a, b) ⟨ha, hb, hb2, rfl⟩ (by simp only; omega)
  simp only at e h1 h2 h3 h4 h5
  have y0 : y = 0 := by
    simp [-List.map_map, testF, C131_0] at h5
    omega
  subst y0
  rw [run_succ g131]
  have na : ¬ a < 0 := by omega
  have nb : ¬ b < 0 := by omega
  have hg : x = (Int.gcd a b : Int) := by
    rw [← h4, Int.gcd_zero_right]; omega
  simp [-List.map_map, F131_divisor, na, nb]
  rw [e]
  simp [-List.map_map, hg]
theorem gcd_pos {a b : Int} (h : 0 < b) : 0 < (Int.gcd a b : Int) := by
  have : Int.gcd a b ≠ 0 := fun e => by
    have := (Int.gcd_eq_zero_iff.mp e).2
    omega
  omega
theorem gcd_le {a b : Int} (h : 0 < b) : (Int.gcd a b : Int) ≤ b := Int.le_of_dvd h (Int.gcd_dvd_right ..)
theorem lowest (n : Nat) {a b : Int} (ha : 0 ≤ a) (hb : 0 < b) (hb2 : b < 1000) : run PG (n + 2) 132 [.int a, .int b] = .ok (lowD a b) := by
  rw [run_succ g132]
  have d := divisor n ha (Int.le_of_lt hb) hb2
  have p := gcd_pos (a := a) hb
  have l := gcd_le (a := a) hb
  have ne : ¬ Int.gcd a b = 0 := by omega
  have na : Int.gcd a b < 1073741824 := by omega
  simp [-List.map_map, F132_lowest, d, ne, na, lowD]
  done
theorem law_lowest (n : Nat) {a b : Int} (ha : 0 ≤ a) (hb : 0 < b) (hb2 : b < 1000) : run PG (n + 1) 140 [.int a, .int b] = .ok (lowD a b) := by
  obtain ⟨⟨x, y⟩, e, ⟨h1, h2, h3, h4⟩, h5⟩ := while_inv (σ := Int × Int) (fun s => [some (false, .int a), some (false, .int b), some (false, .int s.1), some (false, .int s.2)]) (fun s => 0 ≤ s.1 ∧ 0 ≤ s.2 ∧ s.2 < 1000 ∧ Int.gcd s.1 s.2 = Int.gcd a b) (fun s => s.2.toNat) (c := testF (run PG n) C140_0) (f := bodyW (run PG n) true B140_0) (fun s hs => by
    obtain ⟨x, y⟩ := s
    obtain ⟨i1, i2, i3, i4⟩ := hs
    simp only at i1 i2 i3 i4
    refine ⟨decide (0 < y), by simp [-List.map_map, testF, C140_0], fun hy => ?_⟩
    have hy := of_decide_eq_true hy
    have r := mod_rg x hy
    have ny : ¬ y = 0 := by omega
    have na : y.natAbs < 1073741824 := by omega
    refine ⟨(y, x.fmod y), by simp [-List.map_map, bodyW, B140_0, ny, na], ⟨i2, r.1, by simp only; omega, by rw [← i4]; exact gcd_step i1 hy⟩, by simp only; omega⟩) 1000000 (a, b) ⟨ha, Int.le_of_lt hb, hb2, rfl⟩ (by simp only; omega)
  simp only at e h1 h2 h3 h4 h5
  have y0 : y = 0 := by
    simp [-List.map_map, testF, C140_0] at h5
    omega
  subst y0
  rw [run_succ g140]
  have p := gcd_pos (a := a) hb
  have l := gcd_le (a := a) hb
  have ne : ¬ Int.gcd a b = 0 := by omega
  have na : Int.gcd a b < 1073741824 := by omega
  have hg : x = (Int.gcd a b : Int) := by
    rw [← h4, Int.gcd_zero_right]; omega
  simp [-List.map_map, F140_law_lowest]
  rw [e]
  simp [-List.map_map, hg, ne, na, lowD]
theorem low_mul {a b k : Int} (hb : 0 < b) (hk : 0 < k) : lowD (a * k) (b * k) = lowD a b := by
  have p := gcd_pos (a := a) hb
  have g : (Int.gcd (a * k) (b * k) : Int) = Int.gcd a b * k := by
    rw [Int.gcd_mul_right]
    have : (k.natAbs : Int) = k := by omega
    rw [Int.natCast_mul, this]
  have q : ∀ x : Int, (x * k).fdiv (Int.gcd a b * k) = x.fdiv (Int.gcd a b) := fun x => by
    rw [Int.fdiv_eq_ediv_of_nonneg _ (Int.le_of_lt p), Int.fdiv_eq_ediv_of_nonneg _ (Int.le_of_lt (Int.mul_pos p hk))]
    exact Int.mul_ediv_mul_of_pos_left _ _ hk
  unfold lowD
  rw [g, q a, q b]
/-! worths -/
theorem sum_pick {f : Int → Int} {a v : Int} : ∀ (l : List Int), l.Nodup → (a ∈ l → f a = 0) → (l.map fun x => if a = x then v else f x).sum = (if a ∈ l then v else 0) + (l.map f).sum
  | [], _, _ => rfl
  | x :: l, nd, h => by
    rw [List.nodup_cons] at nd
    have ih := sum_pick (f := f) (a := a) (v := v) l nd.2 fun m => h (List.mem_cons_of_mem _ m)
    simp only [List.map_cons, List.sum_cons, ih]
    by_cases e : a = x
    · subst e
      have := h (List.mem_cons_self ..)
      simp [-List.map_map, nd.1, this]
    · have : (a ∈ x :: l) = (a ∈ l) := by simp [-List.map_map, e]
      simp only [this, if_neg e]
      omega
theorem upI_nodup (m : Nat) : (upI m).Nodup := by
  unfold upI
  rw [List.nodup_iff_pairwise_ne, List.pairwise_map]
  exact List.nodup_range.imp fun h e => h (by omega)
theorem sum_q {f : Int → Int → Int} {m : Nat} : ∀ (q : List (Int × Int)), (q.map (·.1)).Nodup → (∀ z ∈ q, 0 ≤ z.1 ∧ z.1 < m) → (q.map fun z => f z.1 z.2).sum = ((upI m).map fun x => ((lkI q x).map (f x)).getD 0).sum
  | [], _, _ => by
    have : ∀ l : List Int, (l.map fun x => ((lkI [] x).map (f x)).getD 0).sum = 0 := fun l => by
      induction l with
      | nil => rfl
      | cons a r ih => rw [List.map_cons, List.sum_cons, ih]; rfl
    rw [this]; rfl
  | (a, d) :: q, nd, hz => by
    rw [List.map_cons, List.nodup_cons] at nd
    have r := hz (a, d) (List.mem_cons_self ..)
    have ih := sum_q (f := f) (m := m) q nd.2 fun z h => hz z (List.mem_cons_of_mem _ h)
    have ln : lkI q a = none := lkI_none.mpr nd.1
    have sp := sum_pick (f := fun x => ((lkI q x).map (f x)).getD 0) (a := a) (v := f a d) (upI m) (upI_nodup m) fun _ => by simp [-List.map_map, ln]
    rw [List.map_cons, List.sum_cons, ih]
    rw [if_pos (mem_upI.mpr r)] at sp
    rw [← sp]
    congr 1
    apply List.map_congr_left
    intro x _
    conv => rhs; unfold lkI
    by_cases e : a = x
    · subst e; simp [-List.map_map]
    · simp [-List.map_map, e]
/-- a heap's worth at a place, over 2 ^ k -/
def worthT (m : Int) (hs : List Int) (q : List (Int × Int)) (k : Int) : Int := ((upI m.toNat).map fun x => ((lkI q x).map fun d => hAt hs x * 2 ^ (k - d).toNat).getD 0).sum
theorem FarQ.uniq {m : Int} {ts : List (Int × Int)} {p : Int} {q r : List (Int × Int)} (F : FarQ m ts p q) (G : FarQ m ts p r) (x : Int) : lkI q x = lkI r x := by
  have half : ∀ {q r : List (Int × Int)}, FarQ m ts p q → FarQ m ts p r → ∀ d, lkI q x = some d → ∃ e, lkI r x = some e ∧ e ≤ d := fun {q r} F G d h => by
    obtain ⟨k, k1, k2⟩ := F.sound _ ((lkI_mem F.nd).mp h)
    obtain ⟨e, h1, h2⟩ := G.full _ _ k2
    exact ⟨e, (lkI_mem G.nd).mpr h1, by simp only at k1; omega⟩
  cases hq : lkI q x with
  | some d =>
    obtain ⟨e, h1, h2⟩ := half F G d hq
    obtain ⟨d', h3, h4⟩ := half G F e h1
    rw [hq] at h3
    injection h3 with h3
    rw [h1]; congr 1; omega
  | none =>
    cases hr : lkI r x with
    | none => rfl
    | some e =>
      obtain ⟨d, h, _⟩ := half G F e hr
      rw [hq] at h; cases h
theorem worthT_q {m : Int} {ts : List (Int × Int)} {p : Int} {q : List (Int × Int)} (F : FarQ m ts p q) (hs : List Int) (k : Int) : worthT m hs q k = (q.map fun z => hAt hs z.1 * 2 ^ (k - z.2).toNat).sum :=
  (sum_q (f := fun x d => hAt hs x * 2 ^ (k - d).toNat) (m := m.toNat) q F.nd fun z hz => by have := F.rg z hz; omega).symm
theorem worthT_up {m : Int} {ts : List (Int × Int)} {p : Int} {q : List (Int × Int)} (F : FarQ m ts p q) (hs : List Int) {k l : Int} (hk : ∀ z ∈ q, z.2 ≤ k) (hl : k ≤ l) : worthT m hs q l = worthT m hs q k * 2 ^ (l - k).toNat := by
  rw [worthT_q F, worthT_q F]
  have : ∀ r : List (Int × Int), (∀ z ∈ r, z ∈ q) → (r.map fun z => hAt hs z.1 * 2 ^ (l - z.2).toNat).sum = (r.map fun z => hAt hs z.1 * 2 ^ (k - z.2).toNat).sum * 2 ^ (l - k).toNat := fun r => by
    induction r with
    | nil => intro _; simp [-List.map_map]
    | cons z r ih =>
      intro h
      have hz := hk z (h z (List.mem_cons_self ..))
      have e : (l - z.2).toNat = (k - z.2).toNat + (l - k).toNat := by omega
      rw [List.map_cons, List.sum_cons, List.map_cons, List.sum_cons, Int.add_mul, ih fun z hz => h z (List.mem_cons_of_mem _ hz), e, Int.pow_add, Int.mul_assoc]
  exact this q fun z hz => hz
theorem worthT_nonneg {m : Int} {hs : List Int} (h : ∀ x ∈ hs, 0 ≤ x) (q : List (Int × Int)) (k : Int) : 0 ≤ worthT m hs q k := by
  unfold worthT
  refine sum_nonneg fun x hx => ?_
  obtain ⟨y, _, rfl⟩ := List.mem_map.mp hx
  cases lkI q y with
  | none => exact Int.le_refl _
  | some d => exact Int.mul_nonneg (hAt_nonneg h y) (Int.le_of_lt (p2_pos _))
theorem p2_le {k : Int} (h : k ≤ 8) : (2 : Int) ^ k.toNat ≤ 256 := by
  have := p2_mono (a := k.toNat) (b := 8) (by omega)
  have e : (2 : Int) ^ 8 = 256 := by decide
  omega
theorem small_p2 {k : Int} (h : k ≤ 8) : small (2 ^ k.toNat) = true := by
  have := p2_pos k.toNat
  have := p2_le h
  exact small_of (by omega) (by omega)
theorem sum_fold (f : Int × Int → Int) : ∀ (q : List (Int × Int)) (t : Int), q.foldl (fun t z => t + f z) t = t + (q.map f).sum
  | [], t => by simp [-List.map_map]
  | z :: q, t => by rw [List.foldl_cons, sum_fold f q, List.map_cons, List.sum_cons]; omega
/-- the worth as the program reckons it -/
theorem worth_of (n : Nat) {m : Int} {ts : List (Int × Int)} (hw : WebOk m ts) (hl : ts.length ≤ 1000) {hs : List Int} (H : HpOk m hs) {p : Int} (p0 : 0 ≤ p) (p1 : p < m) : ∃ q, FarQ m ts p q ∧ run PG (n + 3) 133 [webD m ts, hpD hs, .int p] = .ok (lowD (worthT m hs q 8) 256) := by
  obtain ⟨q, F, e⟩ := fars n hw hl p0 p1
  obtain ⟨deep, d1, d2, d3, d4⟩ := F.deep
  have hlen := H.len
  have w1 := hw.1
  have w2 := hw.2.1
  refine ⟨q, F, ?_⟩
  have lp := (loop_fold (fun z : Int × Int => D.int z.1) (fun t : Int => [some (false, webD m ts), some (false, hpD hs), some (false, .int p), some (false, .dic false (kvI q)), some (false, .int deep), some (false, .int t), none]) (fun t z => t + hAt hs z.1 * 2 ^ (deep - z.2).toNat) (fun t => True)
    (f := bodyF (run PG (n + 2)) true (.one 6) B133_0) q 0 trivial fun t z hz _ => by
      have r := F.rg z hz
      have lk := (lkI_mem F.nd).mpr (show (z.1, z.2) ∈ q from hz)
      have le := d2 z.2 (List.mem_map_of_mem hz)
      obtain ⟨k, k1, _⟩ := F.sound z hz
      have s1 : deep - z.2 ≤ 1000000 := by omega
      have ix := idx_hp (hs := hs) r.1 (by omega)
      have sm : small (2 ^ (deep - z.2).toNat) = true := small_p2 (by omega)
      refine ⟨?_, trivial⟩
      simp [-List.map_map, bodyF, B133_0, lk, le, s1, ix, sm]).1
  rw [sum_fold fun z => hAt hs z.1 * 2 ^ (deep - z.2).toNat, ← worthT_q F, Int.zero_add] at lp
  have mv := maxD_is d1 d2
  have t0 := worthT_nonneg (m := m) H.pos q deep
  have pp := p2_pos deep.toNat
  have ple := p2_le (k := deep) (by omega)
  have lo : run PG (n + 2) 132 _ = _ := lowest n (a := worthT m hs q deep) (b := 2 ^ deep.toNat) t0 pp (by omega)
  have up := worthT_up F hs (k := deep) (l := 8) (fun z hz => d2 _ (List.mem_map_of_mem hz)) (by omega)
  have b8 : (256 : Int) = 2 ^ deep.toNat * 2 ^ (8 - deep).toNat := by
    rw [← Int.pow_add]
    have : deep.toNat + (8 - deep).toNat = 8 := by omega
    rw [this]; decide
  have fin : lowD (worthT m hs q 8) 256 = lowD (worthT m hs q deep) (2 ^ deep.toNat) := by
    rw [up, b8]; exact low_mul pp (p2_pos _)
  rw [run_succ g133, fin]
  have ek : q.map (fun z : Int × Int => D.int z.1) = (q.map (·.1)).map D.int := by rw [List.map_map]; rfl
  rw [ek] at lp
  have s1 : deep ≤ 1000000 := by omega
  simp [-List.map_map, F133_worth_of, e, mv]
  rw [lp]
  simp [-List.map_map, d3, s1, lo]
theorem worthT_eq {m : Int} {ts : List (Int × Int)} {p : Int} {q r : List (Int × Int)} (F : FarQ m ts p q) (G : FarQ m ts p r) (hs : List Int) (k : Int) : worthT m hs q k = worthT m hs r k := by
  unfold worthT
  congr 1
  apply List.map_congr_left
  intro x _
  rw [FarQ.uniq F G x]
theorem worth_is (n : Nat) {m : Int} {ts : List (Int × Int)} (hw : WebOk m ts) (hl : ts.length ≤ 1000) {hs : List Int} (H : HpOk m hs) {p : Int} (p0 : 0 ≤ p) (p1 : p < m) {q : List (Int × Int)} (F : FarQ m ts p q) : run PG (n + 3) 133 [webD m ts, hpD hs, .int p] = .ok (lowD (worthT m hs q 8) 256) := by
  obtain ⟨r, G, e⟩ := worth_of n hw hl H p0 p1
  rw [worthT_eq F G]; exact e
theorem worth_at (n : Nat) {m : Int} {ts : List (Int × Int)} (hw : WebOk m ts) {hs : List Int} (H : HpOk m hs) (h3 : hs.sum ≤ 300) {p : Int} (p0 : 0 ≤ p) (p1 : p < m) {d : D} (e : run PG (n + 5) 133 [webD m ts, hpD hs, .int p] = .ok d) : run PG (n + 6) 134 [webD m ts, hpD hs, .int p] = .ok d := by
  rw [run_succ g134]
  have a : run PG (n + 5) 48 [webD m ts, hpD hs] = .ok .non := need_heap (n + 2) ts H.len H.pos h3
  have b : run PG (n + 5) 18 [webD m ts, .int p] = .ok .non := need_place (n + 2) p0 p1
  simp [-List.map_map, F134_worth_at, need_web n hw, a, b, e]
theorem at_most (n : Nat) {m : Int} {ts : List (Int × Int)} {hs : List Int} {p a b : Int} (hb : 0 < b) (hb2 : b < 1000) (e : run PG (n + 6) 134 [webD m ts, hpD hs, .int p] = .ok (.tup [.int a, .int b])) : run PG (n + 7) 135 [webD m ts, hpD hs, .int p] = .ok (.int (a.fdiv b)) := by
  rw [run_succ g135]
  have ne : ¬ b = 0 := by omega
  have na : b.natAbs < 1073741824 := by omega
  simp [-List.map_map, F135_at_most, e, ne, na]
/-- the worth as the law reckons it -/
theorem law_worth (n : Nat) {m : Int} {ts : List (Int × Int)} (hw : WebOk m ts) (hl : ts.length ≤ 1000) {hs : List Int} (H : HpOk m hs) {p : Int} (p0 : 0 ≤ p) (p1 : p < m) {q : List (Int × Int)} (F : FarQ m ts p q) : run PG (n + 2) 141 [webD m ts, hpD hs, .int p] = .ok (lowD (worthT m hs q 8) 256) := by
  have el := law_fars n hw hl p0 p1 F
  have hlen := H.len
  have w1 := hw.1
  have w2 := hw.2.1
  have zz : ((hs.map D.int).zip ((upI m.toNat).map fun x => oD (lkI q x))).map (fun p => D.tup [p.1, p.2]) = (upI m.toNat).map fun x => .tup [.int (hAt hs x), oD (lkI q x)] := by
    apply List.ext_getElem?
    intro i
    by_cases hi : i < m.toNat
    · have hi2 : i < hs.length := by omega
      have ha : hAt hs (i : Int) = hs[i] := by unfold hAt; simp [-List.map_map, List.getD, hi2]
      simp [-List.map_map, List.getElem?_zip_eq_some, get_up hi, hi2, List.zip, List.getElem?_zipWith, ha]
    · rw [List.getElem?_eq_none (by simp [-List.map_map, List.length_zip]; omega), List.getElem?_eq_none (by simp [-List.map_map]; omega)]
  have lp := (loop_fold (fun x : Int => D.tup [.int (hAt hs x), oD (lkI q x)]) (fun t : Int => [some (false, webD m ts), some (false, hpD hs), some (false, .int p), some (false, .int t), none, none]) (fun t x => t + ((lkI q x).map fun d => hAt hs x * 2 ^ (8 - d).toNat).getD 0) (fun t => True)
    (f := bodyF (run PG (n + 1)) true (.tup [4, 5]) B141_0) (upI m.toNat) 0 trivial fun t x hx _ => by
      refine ⟨?_, trivial⟩
      cases hk : lkI q x with
      | none => simp [-List.map_map, bodyF, B141_0]
      | some d =>
        have hm := (lkI_mem F.nd).mp hk
        obtain ⟨k, k1, _⟩ := F.sound _ hm
        obtain ⟨j, hj, h3⟩ := List.mem_iff_getElem.mp hm
        have lw := F.low j _ (List.getElem?_eq_getElem hj)
        rw [h3] at lw
        have ln := F.len
        simp only at k1 lw
        have s0 : d ≤ 8 := by omega
        have s1 : 8 - d ≤ 1000000 := by omega
        have sm : small (2 ^ (8 - d).toNat) = true := small_p2 (by omega)
        simp [-List.map_map, bodyF, B141_0, s0, s1, sm]).1
  have sf : ∀ (f : Int → Int) (l : List Int) (t : Int), l.foldl (fun t x => t + f x) t = t + (l.map f).sum := fun f l => by
    induction l with
    | nil => simp [-List.map_map]
    | cons a r ih => intro t; rw [List.foldl_cons, ih, List.map_cons, List.sum_cons]; omega
  rw [sf fun x => ((lkI q x).map fun d => hAt hs x * 2 ^ (8 - d).toNat).getD 0, Int.zero_add] at lp
  have t0 := worthT_nonneg (m := m) H.pos q 8
  have lo := law_lowest n (a := worthT m hs q 8) (b := 256) t0 (by decide) (by decide)
  rw [run_succ g141]
  unfold hpD at *
  simp [-List.map_map, F141_law_worth, el, zz]
  rw [lp]
  unfold worthT at lo ⊢
  simp [-List.map_map, lo]
/-- two fractions in lowest terms -/
theorem low_le {a b c : Int} (ha : 0 ≤ a) (hb : 0 ≤ b) (hc : 0 < c) (h : b ≤ a) : (b.fdiv (Int.gcd b c)) * (c.fdiv (Int.gcd a c)) ≤ (a.fdiv (Int.gcd a c)) * (c.fdiv (Int.gcd b c)) := by
  have pa := gcd_pos (a := a) hc
  have pb := gcd_pos (a := b) hc
  obtain ⟨a', ea⟩ : (Int.gcd a c : Int) ∣ a := Int.gcd_dvd_left ..
  obtain ⟨b', eb⟩ : (Int.gcd b c : Int) ∣ b := Int.gcd_dvd_left ..
  obtain ⟨c1, e1⟩ : (Int.gcd a c : Int) ∣ c := Int.gcd_dvd_right ..
  obtain ⟨c2, e2⟩ : (Int.gcd b c : Int) ∣ c := Int.gcd_dvd_right ..
  have dv : ∀ g x y : Int, 0 < g → x = g * y → x.fdiv g = y := fun g x y hg e => by
    rw [Int.fdiv_eq_ediv_of_nonneg _ (Int.le_of_lt hg), e, Int.mul_ediv_cancel_left _ (Int.ne_of_gt hg)]
  rw [dv _ _ _ pb eb, dv _ _ _ pa e1, dv _ _ _ pa ea, dv _ _ _ pb e2]
  -- both sides times the two divisors
  have key : (Int.gcd a c : Int) * Int.gcd b c * (b' * c1) ≤ (Int.gcd a c : Int) * Int.gcd b c * (a' * c2) := by
    have l : (Int.gcd a c : Int) * Int.gcd b c * (b' * c1) = b * c := by
      have z : b * c = (Int.gcd b c * b') * (Int.gcd a c * c1) := by rw [← eb, ← e1]
      rw [z]
      simp only [Int.mul_comm, Int.mul_left_comm, Int.mul_assoc]
    have r : (Int.gcd a c : Int) * Int.gcd b c * (a' * c2) = a * c := by
      have z : a * c = (Int.gcd a c * a') * (Int.gcd b c * c2) := by rw [← ea, ← e2]
      rw [z]
      simp only [Int.mul_comm, Int.mul_left_comm, Int.mul_assoc]
    rw [l, r]
    exact Int.mul_le_mul_of_nonneg_right h (Int.le_of_lt hc)
  exact Int.le_of_mul_le_mul_left key (Int.mul_pos pa pb)
def tA (T : Int) : Int := T.fdiv (Int.gcd T 256)
def tB (T : Int) : Int := (256 : Int).fdiv (Int.gcd T 256)
theorem tB_rg (T : Int) : 0 < tB T ∧ tB T ≤ 256 := by
  have p := gcd_pos (a := T) (b := 256) (by decide)
  have l := gcd_le (a := T) (b := 256) (by decide)
  unfold tB
  rw [Int.fdiv_eq_ediv_of_nonneg _ (Int.le_of_lt p)]
  refine ⟨Int.ediv_pos_of_pos_of_dvd (by decide) (Int.le_of_lt p) (Int.gcd_dvd_right ..), ?_⟩
  exact Int.ediv_le_self _ (by decide)
theorem tA_pos {T : Int} (h : 0 ≤ T) : 0 < tA T ↔ 0 < T := by
  have p := gcd_pos (a := T) (b := 256) (by decide)
  obtain ⟨x, e⟩ : (Int.gcd T 256 : Int) ∣ T := Int.gcd_dvd_left ..
  have ex : tA T = x := by
    unfold tA
    generalize (Int.gcd T 256 : Int) = g at *
    rw [Int.fdiv_eq_ediv_of_nonneg _ (Int.le_of_lt p), e, Int.mul_ediv_cancel_left _ (Int.ne_of_gt p)]
  rw [ex]
  generalize (Int.gcd T 256 : Int) = g at *
  constructor
  · intro hx; rw [e]; exact Int.mul_pos p hx
  · intro hT
    rw [e] at hT
    apply Int.not_le.mp
    intro hx
    have := Int.mul_nonpos_of_nonneg_of_nonpos (Int.le_of_lt p) hx
    omega
theorem tA_le {T : Int} (h : 0 ≤ T) : tA T ≤ T := by
  have p := gcd_pos (a := T) (b := 256) (by decide)
  unfold tA
  rw [Int.fdiv_eq_ediv_of_nonneg _ (Int.le_of_lt p)]
  exact Int.ediv_le_self _ h
/-- for every place, what walking outwards finds -/
theorem far_all {m : Int} {ts : List (Int × Int)} (hw : WebOk m ts) (hl : ts.length ≤ 1000) : ∃ Q : Int → List (Int × Int), ∀ p, 0 ≤ p → p < m → FarQ m ts p (Q p) := by
  have h : ∀ p, ∃ q, 0 ≤ p → p < m → FarQ m ts p q := fun p => by
    by_cases hp : 0 ≤ p ∧ p < m
    · obtain ⟨q, F, _⟩ := fars 0 hw hl hp.1 hp.2
      exact ⟨q, fun _ _ => F⟩
    · exact ⟨[], fun a b => absurd ⟨a, b⟩ hp⟩
  exact ⟨fun p => (h p).choose, fun p => (h p).choose_spec⟩
end Lib
end

section
set_option autoImplicit true
set_option maxRecDepth 100000
namespace Lib
open PySem Z
/-! webs that hang together -/
theorem Walk.cons {ts : List (Int × Int)} {a b c : Int} {d : Nat} (t : Tied ts a b) (w : Walk ts b c d) : Walk ts a c (d + 1) := by
  induction w with
  | nil => exact .snoc .nil t
  | snoc _ t2 ih => exact .snoc ih t2
theorem Walk.rev {ts : List (Int × Int)} {a b : Int} {d : Nat} (w : Walk ts a b d) : Walk ts b a d := by
  induction w with
  | nil => exact .nil
  | snoc _ t ih => exact ih.cons t.symm
theorem Walk.trans {ts : List (Int × Int)} {a b c : Int} {d e : Nat} (w : Walk ts a b d) (v : Walk ts b c e) : Walk ts a c (d + e) := by
  induction v with
  | nil => exact w
  | snoc _ t ih => exact ih.snoc t
/-- from nought each place is come to -/
def Joined (m : Int) (ts : List (Int × Int)) : Prop := ∀ x, 0 ≤ x → x < m → ∃ d, Walk ts 0 x d
theorem Joined.walk {m : Int} {ts : List (Int × Int)} (J : Joined m ts) {x y : Int} (x0 : 0 ≤ x) (x1 : x < m) (y0 : 0 ≤ y) (y1 : y < m) : ∃ d, Walk ts x y d := by
  obtain ⟨d, w⟩ := J x x0 x1
  obtain ⟨e, v⟩ := J y y0 y1
  exact ⟨_, w.rev.trans v⟩
theorem FarQ.some {m : Int} {ts : List (Int × Int)} {p : Int} {q : List (Int × Int)} (F : FarQ m ts p q) {x : Int} {d : Nat} (w : Walk ts p x d) : ∃ k : Nat, lkI q x = some (k : Int) ∧ Walk ts p x k ∧ k ≤ d := by
  obtain ⟨k, h1, h2⟩ := F.full _ _ w
  obtain ⟨k', e, w'⟩ := F.sound _ h1
  simp only at e w'
  have : k' = k := by omega
  subst this
  exact ⟨k', (lkI_mem F.nd).mpr h1, w', h2⟩
/-- each place but nought is tied to one ahead -/
theorem joined_of {m : Int} {ts : List (Int × Int)} (h : ∀ b, 1 ≤ b → b < m → ∃ a, 0 ≤ a ∧ a < b ∧ (a, b) ∈ ts) : Joined m ts := by
  have go : ∀ (n : Nat) (x : Int), x.toNat ≤ n → 0 ≤ x → x < m → ∃ d, Walk ts 0 x d := by
    intro n
    induction n with
    | zero =>
      intro x hx x0 x1
      have : x = 0 := by omega
      subst this
      exact ⟨0, .nil⟩
    | succ n ih =>
      intro x hx x0 x1
      by_cases hz : x = 0
      · subst hz; exact ⟨0, .nil⟩
      · obtain ⟨a, a0, a1, ha⟩ := h x (by omega) x1
        obtain ⟨d, w⟩ := ih a (by omega) a0 (by omega)
        exact ⟨d + 1, w.snoc (.inl ha)⟩
  exact fun x x0 x1 => go x.toNat x (Nat.le_refl _) x0 x1
def jStep (c : Int) (ts : List (Int × Int)) (b : Int) : List (Int × Int) := if (ts.filter fun p => decide (p.2 = b)).length = 0 then ts ++ [((stirZ c (50 + b)).fmod b, b)] else ts
theorem joined_by (n : Nat) {m : Int} (c : Int) (h1 : 1 ≤ m) (h2 : m ≤ 8) : ∃ ts, WebOk m ts ∧ ts.length ≤ 100 ∧ Joined m ts ∧ run PG (n + 3) 30 [.int m, .int c] = .ok (webD m ts) := by
  obtain ⟨t0, w0, l0, e0⟩ := web_by n c h1 h2
  have I0 : ∀ p ∈ t0, 0 ≤ p.1 ∧ p.1 < p.2 ∧ p.2 < m := w0.2.2.1
  have nd0 : t0.Nodup := w0.2.2.2.imp fun {a b} h e => by
    subst e
    unfold lexP at h
    omega
  obtain ⟨ts, e, hw, nd, hl, hj⟩ := loop_ex D.int (fun ts : List (Int × Int) => [some (false, .int m), some (false, .int c), some (true, .lst (ts.map prD)), none, none, none]) (fun i ts => (∀ p ∈ ts, 0 ≤ p.1 ∧ p.1 < p.2 ∧ p.2 < m) ∧ ts.Nodup ∧ ts.length ≤ 28 + i ∧ ∀ b : Int, 1 ≤ b → b ≤ (i : Int) → ∃ a : Int, 0 ≤ a ∧ a < b ∧ (a, b) ∈ ts)
    (f := bodyF (run PG (n + 2)) true (.one 3) B30_0) ((upI (m.toNat - 1)).map fun k => 1 + k) 0 t0 ⟨I0, nd0, by omega, fun b hb hb2 => by omega⟩ fun j ts k hk hi => by
      obtain ⟨hw, nd, hl, hj⟩ := hi
      rw [List.getElem?_map] at hk
      obtain ⟨k', hk', rfl⟩ := Option.map_eq_some_iff.mp hk
      obtain ⟨rfl, hjm⟩ := upI_get hk'
      obtain ⟨b, hb⟩ : ∃ b : Int, b = 1 + (j : Int) := ⟨_, rfl⟩
      rw [← hb]
      have r := mod_rg (stirZ c (50 + b)) (by omega : 0 < b)
      have nb : ¬ b = 0 := by omega
      have cc : ∀ a4 : Option (Bool × D), compL (cmpF (run PG (n + 2)) (.var 5) (.one 5) (some (.cmp .eq (.idx (.var 5) (.int 1)) (.var 3))) [some (false, .int m), some (false, .int c), some (false, .lst (ts.map prD)), some (false, .int b), a4, none]) (ts.map prD) = .ok ((ts.filter fun p => decide (p.2 = b)).map prD) := fun a4 =>
        compL_some prD (fun p : Int × Int => decide (p.2 = b)) ts fun p hp => by
          have i1 : idxD (prD p) (.int 1) = .ok (.int p.2) := rfl
          simp [-List.map_map, cmpF, i1]
      have l1 : ts.length < szL := by unfold szL; omega
      refine ⟨jStep c ts b, ?_, ?_⟩
      · unfold jStep
        have lf : (ts.filter fun p => decide (p.2 = b)).length < szL := by have := List.length_filter_le (fun p : Int × Int => decide (p.2 = b)) ts; omega
        generalize (ts.filter fun p => decide (p.2 = b)) = fs at cc lf ⊢
        by_cases h0 : fs = []
        · subst h0
          simp [-List.map_map, bodyF, B30_0, nb, cc, l1, prD]
        · have h1 : ¬ fs.length = 0 := fun h => h0 (List.length_eq_zero_iff.mp h)
          rw [if_neg h1]
          simp [-List.map_map, bodyF, B30_0, nb, cc, l1, h0]
      · unfold jStep
        by_cases h0 : (ts.filter fun p => decide (p.2 = b)).length = 0
        · rw [if_pos h0]
          have no : ∀ p ∈ ts, p.2 ≠ b := fun p hp e => by
            have : p ∈ ts.filter fun p => decide (p.2 = b) := List.mem_filter.mpr ⟨hp, decide_eq_true e⟩
            rw [List.length_eq_zero_iff.mp h0] at this
            cases this
          refine ⟨fun p hp => ?_, List.nodup_append.mpr ⟨nd, by simp [-List.map_map], fun x hx y hy => ?_⟩, by simp [-List.map_map]; omega, fun b' b1 b2 => ?_⟩
          · rcases List.mem_append.mp hp with hp | hp
            · exact hw p hp
            · have : p = ((stirZ c (50 + b)).fmod b, b) := by simpa [-List.map_map] using hp
              subst this
              exact ⟨r.1, r.2, by simp only; omega⟩
          · have : y = ((stirZ c (50 + b)).fmod b, b) := by simpa [-List.map_map] using hy
            subst this
            intro e
            exact no x hx (by rw [e])
          · by_cases hbb : b' ≤ ((0 + j : Nat) : Int)
            · obtain ⟨a, a0, a1, ha⟩ := hj b' b1 hbb
              exact ⟨a, a0, a1, List.mem_append_left _ ha⟩
            · have : b' = b := by omega
              subst this
              exact ⟨_, r.1, r.2, List.mem_append_right _ (by simp [-List.map_map])⟩
        · rw [if_neg h0]
          refine ⟨hw, nd, by omega, fun b' b1 b2 => ?_⟩
          by_cases hbb : b' ≤ ((0 + j : Nat) : Int)
          · exact hj b' b1 hbb
          · have : b' = b := by omega
            subst this
            obtain ⟨p, hp⟩ : ∃ p, p ∈ ts.filter fun p => decide (p.2 = b') := by
              cases hf : ts.filter fun p => decide (p.2 = b') with
              | nil => rw [hf] at h0; exact absurd rfl h0
              | cons a r => exact ⟨a, List.mem_cons_self ..⟩
            rw [List.mem_filter] at hp
            have hp2 : p.2 = b' := of_decide_eq_true hp.2
            have := hw p hp.1
            exact ⟨p.1, this.1, by omega, by rw [← hp2]; exact hp.1⟩
  simp only [List.length_map, upI_len] at hl hj
  have b1 : big62 1 = true := by decide
  have b2 : big62 m = true := big_of (by omega) (by omega)
  have b3 : m - 1 ≤ 1000000 := by omega
  have em : (m - 1).toNat = m.toNat - 1 := by omega
  have so := sort_prI (ps := ts) (by unfold szL; omega)
  refine ⟨isort leP ts, sorted_web h1 h2 hw nd, by rw [(isortP ts).1.length_eq]; omega, joined_of fun b b0 b1 => ?_, ?_⟩
  · obtain ⟨a, a0, a1, ha⟩ := hj b b0 (by omega)
    exact ⟨a, a0, a1, (isortP ts).1.mem_iff.mpr ha⟩
  · rw [← rng_upI1] at e
    have e0 : run PG (n + 2) 7 _ = _ := e0
    rw [run_succ g30]
    simp [-List.map_map, F30_law_joined_by, e0, b1, b2, b3, em]
    rw [e]
    simp [-List.map_map, so, webD]
theorem far (n : Nat) {m : Int} {ts : List (Int × Int)} (hw : WebOk m ts) (hl : ts.length ≤ 1000) {p x : Int} (p0 : 0 ≤ p) (p1 : p < m) (x0 : 0 ≤ x) (x1 : x < m) {q : List (Int × Int)} (F : FarQ m ts p q) : run PG (n + 6) 22 [webD m ts, .int p, .int x] = .ok (oD (lkI q x)) := by
  obtain ⟨q', F', e⟩ := fars (n + 3) hw hl p0 p1
  have b : run PG (n + 5) 18 [webD m ts, .int p] = .ok .non := need_place (n + 2) p0 p1
  have c : run PG (n + 5) 18 [webD m ts, .int x] = .ok .non := need_place (n + 2) x0 x1
  have e : run PG (n + 5) 21 _ = _ := e
  rw [run_succ g22, FarQ.uniq F F' x]
  simp [-List.map_map, F22_far, need_web n hw, b, c, e]
  cases lkI q' x <;> simp [-List.map_map]
/-- what a step leaves is worth no more -/
theorem worth_step {m : Int} {ts : List (Int × Int)} (hw : WebOk m ts) {p : Int} {q : List (Int × Int)} (F : FarQ m ts p q) {hs : List Int} (H : HpOk m hs) {a b : Int} (t : Tied ts a b) : worthT m (addAt (addAt hs a (-2)) b 1) q 8 ≤ worthT m hs q 8 := by
  have r := tied_rg hw.2.2.1 t
  have hl := H.len
  -- both sums over the places
  have one : ∀ (x v d : Int) (gs : List Int), (gs.length : Int) = m → 0 ≤ x → x < m → worthT m (addAt gs x d) q 8 = worthT m gs q 8 + ((lkI q x).map fun k => d * 2 ^ (8 - k).toNat).getD 0 := fun x v d gs hg x0 x1 => by
    unfold worthT
    have sp := sum_pick (f := fun y => if x = y then 0 else ((lkI q y).map fun k => hAt gs y * 2 ^ (8 - k).toNat).getD 0) (a := x) (v := ((lkI q x).map fun k => (hAt gs x + d) * 2 ^ (8 - k).toNat).getD 0) (upI m.toNat) (upI_nodup _) fun _ => by simp [-List.map_map]
    have sq := sum_pick (f := fun y => if x = y then 0 else ((lkI q y).map fun k => hAt gs y * 2 ^ (8 - k).toNat).getD 0) (a := x) (v := ((lkI q x).map fun k => hAt gs x * 2 ^ (8 - k).toNat).getD 0) (upI m.toNat) (upI_nodup _) fun _ => by simp [-List.map_map]
    have hm : x ∈ upI m.toNat := mem_upI.mpr (by omega)
    rw [if_pos hm] at sp sq
    have e1 : ((upI m.toNat).map fun y => ((lkI q y).map fun k => hAt (addAt gs x d) y * 2 ^ (8 - k).toNat).getD 0) = (upI m.toNat).map fun y => if x = y then ((lkI q x).map fun k => (hAt gs x + d) * 2 ^ (8 - k).toNat).getD 0 else if x = y then 0 else ((lkI q y).map fun k => hAt gs y * 2 ^ (8 - k).toNat).getD 0 := by
      apply List.map_congr_left
      intro y hy
      have hy := mem_upI.mp hy
      unfold addAt
      rw [hAt_set x0 (by omega) hy.1]
      by_cases e : x = y
      · subst e; simp [-List.map_map]
      · simp [-List.map_map, e]
    have e2 : ((upI m.toNat).map fun y => ((lkI q y).map fun k => hAt gs y * 2 ^ (8 - k).toNat).getD 0) = (upI m.toNat).map fun y => if x = y then ((lkI q x).map fun k => hAt gs x * 2 ^ (8 - k).toNat).getD 0 else if x = y then 0 else ((lkI q y).map fun k => hAt gs y * 2 ^ (8 - k).toNat).getD 0 := by
      apply List.map_congr_left
      intro y hy
      by_cases e : x = y
      · subst e; simp [-List.map_map]
      · simp [-List.map_map, e]
    rw [e1, e2, sp, sq]
    cases lkI q x with
    | none => simp [-List.map_map]
    | some k =>
      simp only [Option.map_some, Option.getD_some, Int.add_mul]
      omega
  rw [one b 0 1 _ (by rw [addAt_len]; exact hl) r.2.2.1 r.2.2.2.1, one a 0 (-2) _ hl r.1 r.2.1]
  cases hb : lkI q b with
  | none =>
    cases ha : lkI q a with
    | none => simp [-List.map_map]
    | some k =>
      have := p2_pos (8 - k).toNat
      simp only [Option.map_some, Option.getD_some, Option.map_none, Option.getD_none]
      omega
  | some e =>
    have mb := (lkI_mem F.nd).mp hb
    obtain ⟨k, k1, k2⟩ := F.sound _ mb
    obtain ⟨l, h1, h2⟩ := F.full _ _ (k2.snoc t.symm)
    have ha := (lkI_mem F.nd).mpr h1
    -- b lies at most as far as a's distance and one more, turned about
    obtain ⟨l2, h3, h4⟩ := F.sound _ h1
    obtain ⟨e2, h5, h6⟩ := F.full _ _ (h4.snoc t)
    have hb2 := (lkI_mem F.nd).mpr h5
    rw [hb] at hb2
    injection hb2 with hb2
    rw [ha]
    simp only [Option.map_some, Option.getD_some] at k1 h3 ⊢
    have le := p2_mono (a := (8 - e).toNat) (b := (8 - (l : Int)).toNat + 1)
    have : (2 : Int) ^ (8 - e).toNat ≤ 2 ^ ((8 - (l : Int)).toNat + 1) := p2_mono (by omega)
    rw [Int.pow_succ] at this
    omega
end Lib
end

section
set_option autoImplicit true
set_option maxRecDepth 100000
namespace Lib
open PySem Z
/-! things that may be rows of numbers -/
/-- a thing that may be marks: of numbers, truths and None -/
def bitOk : D → Bool
  | .int i => decide (-1000000000000000000000 ≤ i) && decide (i ≤ 1000000000000000000000)
  | .bl _ => true
  | .non => true
  | _ => false
def mkOk : D → Bool
  | .tup ds => ds.all bitOk && decide (ds.length ≤ 100)
  | .lst ds => ds.all bitOk && decide (ds.length ≤ 100)
  | .non => true
  | .str _ => true
  | .int _ => true
  | _ => false
theorem bit_nd {ds : List D} (h : ds.all bitOk = true) : ∀ d ∈ ds, noDic d = true := fun d hd => by
  have := List.all_eq_true.mp h d hd
  cases d <;> first | rfl | cases this
/-- the numbers, where there are none but numbers from nought on -/
theorem part_ints : ∀ {ds : List D}, ds.all partOk = true → ∃ ns : List Int, ds = ns.map D.int ∧ ∀ x ∈ ns, 0 ≤ x
  | [], _ => ⟨[], rfl, by simp [-List.map_map]⟩
  | d :: ds, h => by
    rw [List.all_cons, Bool.and_eq_true] at h
    obtain ⟨ns, rfl, h2⟩ := part_ints h.2
    cases d <;> first | (cases h.1; done) | skip
    rename_i i
    exact ⟨i :: ns, rfl, fun x hx => (List.mem_cons.mp hx).elim (fun e => e ▸ of_decide_eq_true h.1) (h2 x)⟩
theorem at4 {α : Type} (a b c d : α) {i : Int} (h0 : 0 ≤ i) (h1 : i < 4) : ∃ x, atI [a, b, c, d] i = some x ∧ (x = a ∨ x = b ∨ x = c ∨ x = d) := by
  have : i = 0 ∨ i = 1 ∨ i = 2 ∨ i = 3 := by omega
  rcases this with rfl | rfl | rfl | rfl
  · exact ⟨a, rfl, .inl rfl⟩
  · exact ⟨b, rfl, .inr (.inl rfl)⟩
  · exact ⟨c, rfl, .inr (.inr (.inl rfl))⟩
  · exact ⟨d, rfl, .inr (.inr (.inr rfl))⟩
theorem at6 {α : Type} (a b c d e f : α) {i : Int} (h0 : 0 ≤ i) (h1 : i < 6) : ∃ x, atI [a, b, c, d, e, f] i = some x ∧ (x = a ∨ x = b ∨ x = c ∨ x = d ∨ x = e ∨ x = f) := by
  have : i = 0 ∨ i = 1 ∨ i = 2 ∨ i = 3 ∨ i = 4 ∨ i = 5 := by omega
  rcases this with rfl | rfl | rfl | rfl | rfl | rfl
  · exact ⟨a, rfl, by simp [-List.map_map]⟩
  · exact ⟨b, rfl, by simp [-List.map_map]⟩
  · exact ⟨c, rfl, by simp [-List.map_map]⟩
  · exact ⟨d, rfl, by simp [-List.map_map]⟩
  · exact ⟨e, rfl, by simp [-List.map_map]⟩
  · exact ⟨f, rfl, by simp [-List.map_map]⟩
@[simp] theorem at_3 {α : Type} (x y z u : α) (r : List α) : atI (x :: y :: z :: u :: r) 3 = some u := at_nat (x :: y :: z :: u :: r) 3
@[simp] theorem at_4 {α : Type} (x y z u v : α) (r : List α) : atI (x :: y :: z :: u :: v :: r) 4 = some v := at_nat (x :: y :: z :: u :: v :: r) 4
@[simp] theorem at_5 {α : Type} (x y z u v w : α) (r : List α) : atI (x :: y :: z :: u :: v :: w :: r) 5 = some w := at_nat (x :: y :: z :: u :: v :: w :: r) 5
def okMk (r : R D) : Prop := ∃ d, mkOk d = true ∧ r = .ok d
@[simp] theorem okMk_ok (d : D) : okMk (.ok d) = (mkOk d = true) := by
  apply propext
  constructor
  · rintro ⟨e, h, he⟩; cases he; exact h
  · intro h; exact ⟨d, h, rfl⟩
theorem sum_le {k : Int} : ∀ {ns : List Int}, (∀ x ∈ ns, x ≤ k) → ns.sum ≤ ns.length * k
  | [], _ => by simp [-List.map_map]
  | x :: ns, h => by
    have := sum_le fun y hy => h y (List.mem_cons_of_mem x hy)
    have := h x (List.mem_cons_self ..)
    rw [List.sum_cons, List.length_cons]
    have e : ((ns.length + 1 : Nat) : Int) * k = ns.length * k + k := by
      rw [Int.natCast_add, Int.add_mul]; simp [-List.map_map]
    omega
/-- whether a thing is weights -/
def wK (m : Int) (ts : List (Int × Int)) : D → Bool
  | .tup ds => decide ((ds.length : Int) = m) && (ds.all partOk && (match allOf intOf ds with | some ws => wOk m ts ws | none => false))
  | _ => false
theorem are_wK (n : Nat) {m : Int} {ts : List (Int × Int)} (hw : ∀ p ∈ ts, 0 ≤ p.1 ∧ p.1 < p.2 ∧ p.2 < m) (hl : ts.length ≤ 1000) (d : D) (h : mkOk d = true) : run PG (n + 2) 143 [webD m ts, d] = .ok (.bl (wK m ts d)) := by
  cases d <;> first | (cases h; done) | skip
  case tup ds =>
    by_cases h1 : (ds.length : Int) = m
    · cases h2 : ds.all partOk with
      | true =>
        obtain ⟨ws, rfl, h0⟩ := part_ints h2
        have h3 := h1
        rw [List.length_map] at h1
        have := are_weights n hw hl h1 h0
        unfold hpD at this
        rw [this]
        simp [-List.map_map, wK, h1, h2, ints_all]
      | false =>
        simp only [mkOk, Bool.and_eq_true] at h
        have lp := wts_loop n (webD m ts) (.tup ds) ds (bit_nd h.1)
        rw [h2] at lp
        simp [-List.map_map] at lp
        rw [run_succ g143]
        simp [-List.map_map, F143_are_weights, h1]
        rw [lp]
        simp [-List.map_map, wK, h2]
    · rw [run_succ g143]
      simp [-List.map_map, F143_are_weights, h1, wK]
  all_goals
    rw [run_succ g143]
    simp [-List.map_map, F143_are_weights, wK]
/-- whether a thing bars -/
def barK (m : Int) (ts : List (Int × Int)) (hs : List Int) (p : Int) (d : D) : Bool := wK m ts d && (match d with
  | .tup ds => (match allOf intOf ds with | some ws => decide (dotI hs ws < hAt ws p) | none => false)
  | _ => false)
theorem wK_is {m : Int} {ts : List (Int × Int)} {d : D} (h : wK m ts d = true) : ∃ ws : List Int, d = hpD ws ∧ (ws.length : Int) = m ∧ (∀ x ∈ ws, 0 ≤ x) ∧ wOk m ts ws = true := by
  cases d <;> first | (cases h; done) | skip
  rename_i ds
  simp only [wK, Bool.and_eq_true] at h
  obtain ⟨ws, rfl, h0⟩ := part_ints h.2.1
  have h2 := h.2.2
  rw [ints_all] at h2
  have h1 := of_decide_eq_true h.1
  rw [List.length_map] at h1
  exact ⟨ws, rfl, h1, h0, h2⟩
theorem bars_K (n : Nat) {m : Int} {ts : List (Int × Int)} (hw : ∀ p ∈ ts, 0 ≤ p.1 ∧ p.1 < p.2 ∧ p.2 < m) (hl : ts.length ≤ 1000) {hs : List Int} (hh : (hs.length : Int) = m) (m8 : m ≤ 8) {p : Int} (p0 : 0 ≤ p) (p1 : p < m) (hs0 : ∀ x ∈ hs, small x = true) (d : D) (hd : mkOk d = true) :
    run PG (n + 3) 145 [webD m ts, hpD hs, .int p, d] = .ok (.bl (barK m ts hs p d)) := by
  have a := are_wK n hw hl d hd
  cases hk : wK m ts d with
  | false =>
    rw [run_succ g145]
    rw [hk] at a
    simp [-List.map_map, F145_bars, a, barK, hk]
  | true =>
    obtain ⟨ws, rfl, h1, h0, h2⟩ := wK_is hk
    rw [bars n hw hl hh h1 m8 h0 p0 p1 hs0]
    simp [-List.map_map, barK, hk, h2]
    simp [-List.map_map, hpD, ints_all]
end Lib
end

namespace Lib
open PySem Z
def B113_0 : List S := [.asg 11 false (.and [(.cmp .is (.var 8) .non), (.cmp .ge (.idx (.call 102 false [(.var 4), (.var 7)]) (.var 9)) (.var 10))]) [], .iff (.not (.call 12 true [(.call 59 true [(.var 3), (.var 4), (.var 9), (.var 10), (.var 7)]), (.var 11)])) [.ret (.bl false) []] [], .wipe [10, 11]]
def B113_1 : List S := [.asg 7 false (.call 111 false [(.var 3), (.var 5), (.bin .add (.var 1) (.bin .mul (.int 7919) (.var 6)))]) [], .asg 8 false (.call 109 true [(.var 3), (.var 4), (.var 7)]) [], .iff (.not (.call 12 true [(.call 58 true [(.var 3), (.var 4), (.var 7)]), (.var 8)])) [.ret (.bl false) []] [], .asg 9 false (.bin .mod (.call 6 true [(.var 1), (.bin .add (.int 20) (.var 6))]) (.var 2)) [], .for_ (.one 10) .seq [(.lst [(.int 1), (.int 2), (.bin .add (.int 1) (.bin .mod (.call 6 true [(.var 1), (.bin .add (.int 30) (.var 6))]) (.int 9)))])] [] B113_0, .wipe [6, 7, 8, 9, 10, 11]]
def B113_2 : List S := [.asg 2 false (.bin .add (.int 2) (.bin .mod (.bin .fdiv (.var 1) (.int 64)) (.int 7))) [], .asg 3 false (.call 30 true [(.var 2), (.bin .fdiv (.var 1) (.int 448))]) [], .asg 4 false (.call 90 true [(.var 2), (.bin .add (.bin .mul (.call 6 true [(.var 1), (.int 9)]) (.int 2)) (.bin .mod (.var 1) (.int 2))), (.int 30)]) [], .asg 5 false (.call 110 true [(.var 3), (.var 4), (.var 1)]) [], .for_ (.one 6) .rng1 [(.int 8)] [] B113_1, .wipe [6, 7, 8, 9, 10, 11], .iff (.not (.call 112 true [(.var 3), (.var 4), (.int 0), (.idx (.lst [(.int 0), (.int 301), (.neg (.int 1)), (.bl true), .non, (.str "1")]) (.bin .mod (.call 6 true [(.var 1), (.int 40)]) (.int 6)))])) [.ret (.bl false) []] [], .wipe [1, 2, 3, 4, 5, 6, 7, 8, 9, 10, 11]]
def F113_law : FD :=
  ⟨"law", ["script"], ["script", "cell", "many", "web", "heap", "steps", "turn", "thing", "due", "place", "stones", "good"], true, [.for_ (.one 1) .seq [(.bin .add (.slc (.var 0) none (some (.int 8))) (.lst [(.int 0), (.int 7), (.int 14)]))] [] B113_2, .wipe [1, 2, 3, 4, 5, 6, 7, 8, 9, 10, 11], .ret (.bl true) []]⟩
end Lib

section
set_option autoImplicit true
set_option maxRecDepth 100000
namespace Lib
open PySem Z
theorem mul_small12 {i j : Int} (h : small i = true ∨ small j = true) : binI .mul i j = .ok (i * j) := gd_pos h _
theorem law_is_stepA (n : Nat) {m : Int} {ts : List (Int × Int)} (hw : WebOk m ts) {d : D} (h : StT d) : run PG (n + 2) 108 [webD m ts, d] = .ok (.bl (stB ts d)) := by
  have wi : ∀ i : Int, run PG (n + 1) 107 [.int i] = .ok (.bl true) := fun i => by
    rw [run_succ g107]; simp [-List.map_map, F107_law_whole]
  have wb : ∀ b : Bool, run PG (n + 1) 107 [.bl b] = .ok (.bl false) := fun b => by
    rw [run_succ g107]; simp [-List.map_map, F107_law_whole]
  rcases h with ⟨p, rfl⟩ | h
  · by_cases t : Tied ts p.1 p.2
    · rw [stB_pr p |>.mpr t]; exact law_is_step n hw t
    · have sf : stB ts (prD p) = false := by rw [← Bool.not_eq_true, stB_pr]; exact t
      rw [sf]
      have nin : ¬ ((if p.2 < p.1 then p.2 else p.1), (if p.2 > p.1 then p.2 else p.1)) ∈ ts := fun q => t ((tied_srt hw p.1 p.2).mp q)
      have hi := in_prW ts ((if p.2 < p.1 then p.2 else p.1), (if p.2 > p.1 then p.2 else p.1))
      rw [decide_eq_false nin] at hi
      have hi : inD (.tup [.int (if p.2 < p.1 then p.2 else p.1), .int (if p.2 > p.1 then p.2 else p.1)]) (.tup (ts.map prD)) = .ok false := hi
      have pd : prD p = .tup [.int p.1, .int p.2] := rfl
      have l2 : 2 < szL := by unfold szL; omega
      rw [run_succ g108, pd]
      simp [-List.map_map, -in_tup_def, F108_law_is_step, compL_cons, cmpF, wi, l2, minD_two, maxD_two, hi, allOf, blOf]
  · rw [stB_odd h]
    have l2 : 2 < szL := by unfold szL; omega
    rw [run_succ g108]
    rcases h with h | ⟨ds, rfl, h, _⟩ | ⟨b, i, rfl⟩ | ⟨i, b, rfl⟩
    · simp [-List.map_map, F108_law_is_step, h]
    · have h' : ¬ ((ds.length : Nat) : Int) = 2 := by omega
      simp [-List.map_map, F108_law_is_step, h']
    · simp [-List.map_map, F108_law_is_step, compL_cons, cmpF, wi, wb, l2, allOf, blOf]
    · simp [-List.map_map, F108_law_is_step, compL_cons, cmpF, wi, wb, l2, allOf, blOf]
theorem lwrong_loop (n : Nat) {m s : Int} {ts : List (Int × Int)} (hw : WebOk m ts) (h t : D) : ∀ (ds : List D) (k : Nat) (x : List Int), HpLe m s x → (∀ d ∈ ds, StT d) →
    ∃ o, (wrongS ts x ds k = none → ∃ y, o = .nx [some (false, webD m ts), some (false, h), some (false, t), some (false, hpD y), none, none]) ∧ (∀ w, wrongS ts x ds k = some w → o = .rt (wrongD (some w))) ∧
    loopF (bodyF (run PG (n + 2)) true (.tup [4, 5]) B109_0) ((ds.zipIdx k).map fun p => .tup [.int p.2, p.1]) [some (false, webD m ts), some (false, h), some (false, t), some (false, hpD x), none, none] = .ok o
  | [], k, x, _, _ => ⟨_, (fun _ => ⟨x, rfl⟩), (fun w h => by cases h), (by simp [-List.map_map])⟩
  | d :: ds, k, x, H, hd => by
    have st := hd d (List.mem_cons_self ..)
    have is := law_is_stepA n hw st
    by_cases b : stB ts d = true
    · rw [b] at is
      obtain ⟨p, rfl⟩ : ∃ p, d = prD p := by
        rcases st with st | st
        · exact st
        · rw [stB_odd st] at b; cases b
      have t' := (stB_pr p).mp b
      have r := tied_rg hw.2.2.1 t'
      have hl := H.1.len
      have ix := idx_hp (hs := x) r.1 (by omega)
      have i0 : idxD (prD p) (.int 0) = .ok (.int p.1) := rfl
      rw [wrongS_pr, if_pos b]
      by_cases h2 : hAt x p.1 < 2
      · rw [if_pos h2]
        refine ⟨.rt (wrongD (some (false, k))), (fun q => by cases q), (fun w q => by injection q with q; rw [q]), ?_⟩
        rw [List.zipIdx_cons, List.map_cons, loop_cons]
        have turn : bodyF (run PG (n + 2)) true (.tup [4, 5]) B109_0 (.tup [.int k, prD p]) [some (false, webD m ts), some (false, h), some (false, t), some (false, hpD x), none, none] = .ok (.rt (wrongD (some (false, k)))) := by
          simp [-List.map_map, bodyF, B109_0, is, ix, h2, i0, wrongD]
        rw [turn]; rfl
      · rw [if_neg h2]
        have mv : Moves ts x (doneL x p) := ⟨p.1, p.2, t', by omega, rfl⟩
        obtain ⟨o, h1, h3, e⟩ := lwrong_loop n hw h t ds (k + 1) (doneL x p) (moves_ok hw.2.2.1 H mv).1 fun z hz => hd z (List.mem_cons_of_mem _ hz)
        refine ⟨o, h1, h3, ?_⟩
        have e2 : run PG (n + 2) 101 _ = _ := law_moved (n + 1) (hs := x) (p := p) r.1 (by omega) r.2.2.1 (by omega)
        have turn : bodyF (run PG (n + 2)) true (.tup [4, 5]) B109_0 (.tup [.int k, prD p]) [some (false, webD m ts), some (false, h), some (false, t), some (false, hpD x), none, none] = .ok (.nx [some (false, webD m ts), some (false, h), some (false, t), some (false, hpD (doneL x p)), none, none]) := by
          simp [-List.map_map, bodyF, B109_0, is, e2, ix, h2, i0]
        rw [List.zipIdx_cons, List.map_cons, loop_cons, turn, bR_ok, oRt_nx, e]
    · have b' : stB ts d = false := by simpa [-List.map_map] using b
      rw [b'] at is
      have w1 : wrongS ts x (d :: ds) k = some (true, k) := by
        rw [wrongS]
        rw [if_neg b]
      rw [w1]
      refine ⟨.rt (wrongD (some (true, k))), (fun q => by cases q), (fun w q => by injection q with q; rw [q]), ?_⟩
      rw [List.zipIdx_cons, List.map_cons, loop_cons]
      have turn : bodyF (run PG (n + 2)) true (.tup [4, 5]) B109_0 (.tup [.int k, d]) [some (false, webD m ts), some (false, h), some (false, t), some (false, hpD x), none, none] = .ok (.rt (wrongD (some (true, k)))) := by
        simp [-List.map_map, bodyF, B109_0, is, wrongD]
      rw [turn]; rfl
theorem law_wrongA (n : Nat) {m s : Int} {ts : List (Int × Int)} (hw : WebOk m ts) {h : List Int} (H : HpLe m s h) {ds : List D} (hd : ∀ d ∈ ds, StT d) : run PG (n + 3) 109 [webD m ts, hpD h, .lst ds] = .ok (wrongD (wrongS ts h ds 0)) := by
  obtain ⟨o, h1, h2, e⟩ := lwrong_loop n hw (hpD h) (.lst ds) ds 0 h H hd
  rw [run_succ g109]
  simp [-List.map_map, F109_law_wrong]
  rw [e]
  cases q : wrongS ts h ds 0 with
  | none =>
    obtain ⟨y, rfl⟩ := h1 q
    simp [-List.map_map, wrongD]
  | some w =>
    rw [h2 w q]
    obtain ⟨b, k⟩ := w
    cases b <;> simp [-List.map_map, wrongD]
def ThingT (t : D) : Prop := isiD t .lst = .ok false ∨ ∃ ds : List D, t = .lst ds ∧ (∀ d ∈ ds, StT d) ∧ ds.length < 1000
theorem at12 {α : Type} (a b c d e f g h i j k l : α) {z : Int} (h0 : 0 ≤ z) (h1 : z < 12) : ∃ x, atI [a, b, c, d, e, f, g, h, i, j, k, l] z = some x ∧ x ∈ [a, b, c, d, e, f, g, h, i, j, k, l] := by
  have : z = 0 ∨ z = 1 ∨ z = 2 ∨ z = 3 ∨ z = 4 ∨ z = 5 ∨ z = 6 ∨ z = 7 ∨ z = 8 ∨ z = 9 ∨ z = 10 ∨ z = 11 := by omega
  rcases this with rfl | rfl | rfl | rfl | rfl | rfl | rfl | rfl | rfl | rfl | rfl | rfl <;> exact ⟨_, rfl, by simp [-List.map_map]⟩
theorem at9W {α : Type} (a b c d e f g h k : α) {i : Int} (h0 : 0 ≤ i) (h1 : i < 9) : ∃ x, atI [a, b, c, d, e, f, g, h, k] i = some x ∧ x ∈ [a, b, c, d, e, f, g, h, k] := by
  have : i = 0 ∨ i = 1 ∨ i = 2 ∨ i = 3 ∨ i = 4 ∨ i = 5 ∨ i = 6 ∨ i = 7 ∨ i = 8 := by omega
  rcases this with rfl | rfl | rfl | rfl | rfl | rfl | rfl | rfl | rfl <;> exact ⟨_, rfl, by simp [-List.map_map]⟩
theorem law_otherwise (n : Nat) {m : Int} {ts : List (Int × Int)} (hw : WebOk m ts) (hl : ts.length ≤ 1000) (ne : 0 < ts.length) (ss : List (Int × Int)) (sl : ss.length ≤ 20) (c : Int) : ∃ t, ThingT t ∧ run PG (n + 2) 111 [webD m ts, .lst (ss.map prD), .int c] = .ok t := by
  obtain ⟨i0, i1⟩ := mod_rg (stirZ c 5) (by omega : (0 : Int) < (ss.length : Int) + 1)
  obtain ⟨a, ha⟩ : ∃ a : Nat, (a : Int) = (stirZ c 5).fmod ((ss.length : Int) + 1) := ⟨((stirZ c 5).fmod ((ss.length : Int) + 1)).toNat, by omega⟩
  have nz : ¬ (ss.length : Int) + 1 = 0 := by omega
  have c1 : ∀ a0 a1 a2 a3 a4 a5 a6 a7 a10 : Option (Bool × D), compL (cmpF (run PG (n + 1)) (.tup [(.var 9), (.var 8)]) (.tup [8, 9]) none [a0, a1, a2, a3, a4, a5, a6, a7, none, none, a10]) (ts.map prD) = .ok ((ts.map swp).map prD) := fun a0 a1 a2 a3 a4 a5 a6 a7 a10 => by
    refine compL_all prD prD swp ts fun p hp => ?_
    have pd : prD p = .tup [.int p.1, .int p.2] := rfl
    rw [pd]
    simp [-List.map_map, cmpF, swp, prD]
  have so := sort_prI (ps := ts ++ ts.map swp) (by simp [-List.map_map]; unfold szL; omega)
  have sl2 : (isort leP (ts ++ ts.map swp)).length = ts.length + ts.length := by rw [(isortP _).1.length_eq]; simp [-List.map_map]
  obtain ⟨j0, j1⟩ := mod_rg (stirZ c 6) (by omega : (0 : Int) < (((isort leP (ts ++ ts.map swp)).length : Nat) : Int))
  obtain ⟨mo, _, em⟩ := at_someW j0 j1
  have em' : atI ((isort leP (ts ++ ts.map swp)).map prD) ((stirZ c 6).fmod (((isort leP (ts ++ ts.map swp)).length : Nat) : Int)) = some (prD mo) := by rw [at_map, em]; rfl
  generalize isort leP (ts ++ ts.map swp) = every at *
  have evn : ¬ every = [] := fun e => by rw [e] at sl2; simp [-List.map_map] at sl2; omega
  obtain ⟨b0, b1⟩ := mod_rg (stirZ c 7) (by decide : (0 : Int) < 9)
  obtain ⟨bd, eb, hb⟩ := at9W (D.tup [.int 0, .int 0]) (D.tup [.int 0, .int m]) (D.lst [.int 0, .int 1]) (D.tup [.bl true, .int 0]) D.non (D.str (Str.ofString "01")) (D.tup [.int 0, .int 1, .int 1]) (D.tup [.int 0]) (D.int 7) b0 b1
  have bs : StT bd := by
    simp only [List.mem_cons, List.not_mem_nil, or_false] at hb
    rcases hb with rfl | rfl | rfl | rfl | rfl | rfl | rfl | rfl | rfl
    · exact .inl ⟨(0, 0), rfl⟩
    · exact .inl ⟨(0, m), rfl⟩
    · exact .inr (.inl rfl)
    · exact .inr (.inr (.inr (.inl ⟨_, _, rfl⟩)))
    · exact .inr (.inl rfl)
    · exact .inr (.inl rfl)
    · exact .inr (.inr (.inl ⟨_, rfl, by decide, by simp [-List.map_map, noDic]⟩))
    · exact .inr (.inr (.inl ⟨_, rfl, by decide, by simp [-List.map_map, noDic]⟩))
    · exact .inr (.inl rfl)
  obtain ⟨w0, w1⟩ := mod_rg (stirZ c 8) (by decide : (0 : Int) < 12)
  have ct : ∀ xs : List D, cut xs none (some (a : Int)) = xs.take a := fun xs => cut_to xs a
  have cf : ∀ xs : List D, cut xs (some (a : Int)) none = xs.drop a := fun xs => cut_from xs a
  have cf1 : ∀ xs : List D, cut xs (some ((a : Int) + 1)) none = xs.drop (a + 1) := fun xs => cut_from xs (a + 1)
  have cb : ∀ xs : List D, cut xs (some (a : Int)) (some ((a : Int) + 1)) = (xs.drop a).take 1 := fun xs => by
    have := cut_both xs a (a + 1)
    rw [show a + 1 - a = 1 from by omega] at this
    exact this
  have mt : ∀ k, (ss.map prD).take k = (ss.take k).map prD := fun k => by rw [List.map_take]
  have mdr : ∀ k, (ss.map prD).drop k = (ss.drop k).map prD := fun k => by rw [List.map_drop]
  have mtd : ∀ l : List (Int × Int), (l.map prD).take 1 = (l.take 1).map prD := fun l => by rw [List.map_take]
  have c2 : ∀ a0 a1 a2 a3 a4 a5 a6 a7 a8 a9 : Option (Bool × D), compL (cmpF (run PG (n + 1)) (.rev (.var 10)) (.one 10) none [a0, a1, a2, a3, a4, a5, a6, a7, a8, a9, none]) (((ss.drop a).take 1).map prD) = .ok ((((ss.drop a).take 1).map swp).map prD) := fun a0 a1 a2 a3 a4 a5 a6 a7 a8 a9 => by
    refine compL_all prD prD swp ((ss.drop a).take 1) fun p hp => ?_
    have pd : prD p = .tup [.int p.1, .int p.2] := rfl
    rw [pd]
    simp [-List.map_map, cmpF, swp, prD]
  have stp : ∀ l : List (Int × Int), ∀ d ∈ l.map prD, StT d := fun l d hd => by
    obtain ⟨p, _, rfl⟩ := List.mem_map.mp hd
    exact .inl ⟨p, rfl⟩
  have app : ∀ l k : List D, (∀ d ∈ l, StT d) → (∀ d ∈ k, StT d) → ∀ d ∈ l ++ k, StT d := fun l k h1 h2 d hd => (List.mem_append.mp hd).elim (h1 d) (h2 d)
  have con : ∀ (x : D) (k : List D), StT x → (∀ d ∈ k, StT d) → ∀ d ∈ x :: k, StT d := fun x k h1 h2 d hd => (List.mem_cons.mp hd).elim (fun e => e ▸ h1) (h2 d)
  obtain ⟨x, ex, hx⟩ := at12 (D.lst (ss.map prD)) (D.lst ((ss.take a).map prD ++ (ss.drop (a + 1)).map prD)) (D.lst ((ss.take a).map prD ++ (((ss.drop a).take 1).map prD ++ (ss.drop a).map prD))) (D.lst ((ss.drop a).map prD ++ (ss.take a).map prD)) (D.lst ((ss.take a).map prD ++ prD mo :: (ss.drop a).map prD)) (D.lst (ss.map prD ++ [prD mo, prD mo, prD mo])) (D.lst ((ss.take a).map prD ++ bd :: (ss.drop a).map prD)) (D.tup (ss.map prD)) (D.lst ((ss.take a).map prD ++ ((((ss.drop a).take 1).map swp).map prD ++ (ss.drop (a + 1)).map prD))) D.non (D.lst [prD mo, bd]) (D.lst []) w0 w1
  have sm : StT (prD mo) := .inl ⟨mo, rfl⟩
  have nl : ∀ d ∈ ([] : List D), StT d := fun d hd => by cases hd
  refine ⟨x, ?_, ?_⟩
  · simp only [List.mem_cons, List.not_mem_nil, or_false] at hx
    rcases hx with rfl | rfl | rfl | rfl | rfl | rfl | rfl | rfl | rfl | rfl | rfl | rfl
    · exact .inr ⟨_, rfl, stp _, by simp [-List.map_map]; omega⟩
    · exact .inr ⟨_, rfl, app _ _ (stp _) (stp _), by simp [-List.map_map]; omega⟩
    · exact .inr ⟨_, rfl, app _ _ (stp _) (app _ _ (stp _) (stp _)), by simp [-List.map_map]; omega⟩
    · exact .inr ⟨_, rfl, app _ _ (stp _) (stp _), by simp [-List.map_map]; omega⟩
    · exact .inr ⟨_, rfl, app _ _ (stp _) (con _ _ sm (stp _)), by simp [-List.map_map]; omega⟩
    · exact .inr ⟨_, rfl, app _ _ (stp _) (con _ _ sm (con _ _ sm (con _ _ sm nl))), by simp [-List.map_map]; omega⟩
    · exact .inr ⟨_, rfl, app _ _ (stp _) (con _ _ bs (stp _)), by simp [-List.map_map]; omega⟩
    · exact .inl rfl
    · exact .inr ⟨_, rfl, app _ _ (stp _) (app _ _ (stp _) (stp _)), by simp [-List.map_map]; omega⟩
    · exact .inl rfl
    · exact .inr ⟨_, rfl, con _ _ sm (con _ _ bs nl), by simp [-List.map_map]⟩
    · exact .inr ⟨_, rfl, nl, by simp [-List.map_map]⟩
  · have l1 : ts.length < szL := by unfold szL; omega
    have l2 : ts.length + ts.length ≤ szL := by unfold szL; omega
    have z : ∀ k, k ≤ 1000 → k ≤ szL := fun k h => by unfold szL; omega
    have z1 : min 1 (ss.length - a) < szL := by unfold szL; omega
    have rp : (List.replicate (Int.toNat 3) [prD mo]).flatten = [prD mo, prD mo, prD mo] := rfl
    have y1 : min a ss.length + (ss.length - (a + 1)) ≤ szL := z _ (by omega)
    have y2 : min a ss.length + min 1 (ss.length - a) ≤ szL := z _ (by omega)
    have y3 : min a ss.length + min 1 (ss.length - a) + (ss.length - a) ≤ szL := z _ (by omega)
    have y4 : ss.length - a + min a ss.length ≤ szL := z _ (by omega)
    have y5 : min a ss.length + 1 ≤ szL := z _ (by omega)
    have y6 : min a ss.length + 1 + (ss.length - a) ≤ szL := z _ (by omega)
    have y7 : ss.length + 3 ≤ szL := z _ (by omega)
    have y8 : min a ss.length + min 1 (ss.length - a) + (ss.length - (a + 1)) ≤ szL := z _ (by omega)
    have y9 : (12 : Nat) ≤ szL := z _ (by omega)
    have y10 : (8 : Nat) ≤ szL := z _ (by omega)
    have y11 : (4 : Nat) ≤ szL := z _ (by omega)
    simp only [List.map_append] at so
    rw [run_succ g111]
    simp [-List.map_map, -List.map_take, -List.map_drop, F111_law_otherwise, nz, ← ha, c1, l1, l2, so, evn, em', eb, ct, cf, cf1, cb, mt, mdr, mtd, c2, z1, rp, y1, y2, y3, y4, y5, y6, y7, y8, y9, y10, y11, ex]
theorem law_steps12 (n : Nat) {m s : Int} {ts : List (Int × Int)} (hw : WebOk m ts) (hl : ts.length ≤ 1000) {h : List Int} (H : HpLe m s h) (c : Int) :
    ∃ ss y, Play ts h ss y ∧ ss.length ≤ 20 ∧ run PG (n + 2) 110 [webD m ts, hpD h, .int c] = .ok (.lst (ss.map prD)) := by
  obtain ⟨g0, g1⟩ := mod_rg (stirZ c 200) (by decide : (0 : Int) < 15)
  obtain ⟨N, hN⟩ : ∃ N : Nat, (N : Int) = (stirZ c 200).fmod 15 := ⟨((stirZ c 200).fmod 15).toNat, by omega⟩
  obtain ⟨ss, y, pl, hlen, e⟩ := law_stepsK n hw hl H c N (by omega)
  refine ⟨ss, y, pl, by omega, ?_⟩
  have e : loopF (bodyF (run PG (n + 1)) true (.one 5) B110_0) ((upI N).map D.int) _ = _ := e
  have sr : srcD .rng1 [.int ((stirZ c 200).fmod 15)] = .ok ((upI N).map D.int) := by
    rw [← hN, src_rng1, gd_pos ⟨big_of (by omega) (by omega), by omega⟩, Int.toNat_natCast, rng_upI]
  rw [run_succ g110]
  simp [-List.map_map, -src_rng1, F110_law_steps, sr]
  rw [e]
  simp [-List.map_map]
/-- what is told of a thing, by both -/
theorem thing_told (n : Nat) {m s : Int} {ts : List (Int × Int)} (hw : WebOk m ts) {h : List Int} (H : HpLe m s h) (h3 : h.sum ≤ 300) {t : D} (ht : ThingT t) :
    ∃ due : D, run PG (n + 8) 109 [webD m ts, hpD h, t] = .ok due ∧ run PG (n + 8) 58 [webD m ts, hpD h, t] = .ok due ∧ plD 1 due = true ∧ pureD due = true ∧ isC due = false ∧
      ((due = .non ∧ ∃ y, (run PG (n + 8) 102 [hpD h, t] = .ok (hpD y)) ∧ HpLe m s y ∧ ∀ q k : Int, 0 ≤ q → q < m → 1 ≤ k → k ≤ 300 → run PG (n + 8) 59 [webD m ts, hpD h, .int q, .int k, t] = .ok (.bl (decide (k ≤ hAt y q)))) ∨
       ((∃ x k, due = .tup [x, .int k]) ∧ ∀ q k : Int, 0 ≤ q → q < m → 1 ≤ k → k ≤ 300 → run PG (n + 8) 59 [webD m ts, hpD h, .int q, .int k, t] = .ok (.bl false))) := by
  have nw : run PG (n + 7) 17 _ = _ := need_web (n + 2) hw
  have nh : run PG (n + 7) 48 _ = _ := need_heap (n + 4) ts H.1.len H.1.pos h3
  have steps : ∀ due : D, run PG (n + 7) 55 [webD m ts, hpD h, t] = .ok due → run PG (n + 8) 58 [webD m ts, hpD h, t] = .ok due := fun due e => by
    rw [run_succ g58]
    simp [-List.map_map, F58_steps_wrong, nw, nh, e]
  have bfalse : ∀ (x : D) (k : Int), run PG (n + 7) 55 [webD m ts, hpD h, t] = .ok (.tup [x, .int k]) → ∀ q k : Int, 0 ≤ q → q < m → 1 ≤ k → k ≤ 300 → run PG (n + 8) 59 [webD m ts, hpD h, .int q, .int k, t] = .ok (.bl false) := fun x k e q k2 q0 q1 k0 k1 => by
    have np : run PG (n + 7) 18 [webD m ts, .int q] = .ok .non := need_place (n + 4) q0 q1
    have nn : run PG (n + 7) 45 _ = _ := need_number (n + 4) k0 k1
    rw [run_succ g59]
    simp [-List.map_map, F59_brings, nw, nh, np, nn, e]
  rcases ht with ht | ⟨ds, rfl, hd, hl⟩
  · have f : run PG (n + 7) 55 [webD m ts, hpD h, t] = .ok (.tup [.str (Str.ofString "list"), .int 0]) := by
      rw [run_succ g55]
      simp [-List.map_map, F55_first_wrong, ht]
    have g : run PG (n + 8) 109 [webD m ts, hpD h, t] = .ok (.tup [.str (Str.ofString "list"), .int 0]) := by
      rw [run_succ g109]
      simp [-List.map_map, F109_law_wrong, ht]
    exact ⟨_, g, steps _ f, rfl, rfl, rfl, .inr ⟨⟨_, _, rfl⟩, bfalse _ _ f⟩⟩
  · have f : run PG (n + 7) 55 [webD m ts, hpD h, .lst ds] = _ := first_wrongA (n + 2) hw H hd
    have g : run PG (n + 8) 109 [webD m ts, hpD h, .lst ds] = _ := law_wrongA (n + 5) hw H hd
    refine ⟨_, g, steps _ f, ?_, ?_, ?_, ?_⟩
    · cases q : wrongS ts h ds 0 with
      | none => rfl
      | some w => obtain ⟨b, k⟩ := w; cases b <;> rfl
    · cases q : wrongS ts h ds 0 with
      | none => rfl
      | some w => obtain ⟨b, k⟩ := w; cases b <;> rfl
    · cases q : wrongS ts h ds 0 with
      | none => rfl
      | some w => obtain ⟨b, k⟩ := w; cases b <;> rfl
    · cases q : wrongS ts h ds 0 with
      | none =>
        obtain ⟨ss, y, rfl, pl⟩ := wrong_none hw ds 0 h H hd q
        refine .inl ⟨rfl, y, law_end' (n + 6) hw H pl, reach_ok hw.2.2.1 H pl.reach, fun q k q0 q1 k0 k1 => ?_⟩
        exact brings (n + 2) hw H h3 pl (by simp [-List.map_map] at hl; omega) q0 q1 k0 k1
      | some w =>
        rw [q] at f
        obtain ⟨b, k⟩ := w
        cases b
        · exact .inr ⟨⟨_, _, rfl⟩, bfalse _ _ f⟩
        · exact .inr ⟨⟨_, _, rfl⟩, bfalse _ _ f⟩
abbrev kA12 : List (List String) := [["NoWeb", "NoKind", "NoHeap", "NoPlace"], ["NoNumber", "NoTally", "NotTree", "NotJoined"], ["NoWeights", "NoRow", "NoSteps", "NoText"], ["TooGreat"]]
theorem t12 : tryX kA12 (.ret (.eqk 4)) "NoNumber" [] = .ok (.rt (.bl true)) := rfl
theorem refused12 (n : Nat) {m s : Int} {ts : List (Int × Int)} (hw : WebOk m ts) {h : List Int} (H : HpLe m s h) (h3 : h.sum ≤ 300) {d : D} (hd : noDic d = true) (hr : inRg d 1 300 = false) : run PG (n + 8) 112 [webD m ts, hpD h, .int 0, d] = .ok (.bl true) := by
  have m1 := hw.1
  have nw : run PG (n + 6) 17 _ = _ := need_web (n + 1) hw
  have nh : run PG (n + 6) 48 _ = _ := need_heap (n + 3) ts H.1.len H.1.pos h3
  have np : run PG (n + 6) 18 [webD m ts, .int 0] = .ok .non := need_place (n + 3) (by decide) (by omega)
  have nk : run PG (n + 6) 45 [d, .int 1, .int 300] = .exc "NoNumber" [] := by
    have := number_any (n + 3) d 1 300 hd
    rw [if_neg (by rw [hr]; decide)] at this
    exact this
  have e : run PG (n + 7) 59 [webD m ts, hpD h, .int 0, d, .lst []] = .exc "NoNumber" [] := by
    rw [run_succ g59]
    simp [-List.map_map, F59_brings, nw, nh, np, nk]
  have t := t12
  rw [run_succ g112]
  simp [-List.map_map, F112_law_refused, e, t]
theorem k12_turn (n : Nat) (sc : D) (c : Int) : bodyF (run PG (n + 8)) true (.one 1) B113_2 (.int c) [some (false, sc), none, none, none, none, none, none, none, none, none, none, none] = .ok (.nx [some (false, sc), none, none, none, none, none, none, none, none, none, none, none]) := by
  have g7 := mod_rg (c.fdiv 64) (by decide : (0 : Int) < 7)
  obtain ⟨m, hm⟩ : ∃ m, m = 2 + (c.fdiv 64).fmod 7 := ⟨_, rfl⟩
  have m1 : 1 ≤ m := by omega
  obtain ⟨ts, hw, hl, J, ew⟩ := joined_by (n + 5) (m := m) (c.fdiv 448) m1 (by omega)
  have hl' : ts.length ≤ 1000 := by omega
  have ew : run PG (n + 8) 30 _ = _ := ew
  have tne : 0 < ts.length := by
    obtain ⟨d, w⟩ := J 1 (by decide) (by omega)
    cases w with
    | snoc w t =>
      rcases t with t | t
      · exact List.length_pos_of_mem t
      · exact List.length_pos_of_mem t
  obtain ⟨h, H0, hs, eh⟩ := heap_by (n + 6) (stirZ c 9 * 2 + c.fmod 2) 30 m1 (by omega) (by decide) (by decide)
  have eh : run PG (n + 8) 90 _ = _ := eh
  have H : HpLe m 30 h := ⟨H0, hs⟩
  have s2 : binI .mul (stirZ c 9) 2 = .ok (stirZ c 9 * 2) := mul_small12 (.inr (by decide))
  obtain ⟨ss, y, pl, sl, es⟩ := law_steps12 (n + 6) hw hl' H c
  have es : run PG (n + 8) 110 _ = _ := es
  have nm : ¬ m = 0 := by omega
  have turn : ∀ t : Int, bodyF (run PG (n + 8)) true (.one 6) B113_1 (.int t) [some (false, sc), some (false, .int c), some (false, .int m), some (false, webD m ts), some (false, hpD h), some (false, .lst (ss.map prD)), none, none, none, none, none, none] = .ok (.nx [some (false, sc), some (false, .int c), some (false, .int m), some (false, webD m ts), some (false, hpD h), some (false, .lst (ss.map prD)), none, none, none, none, none, none]) := fun t => by
    have s79 : binI .mul 7919 t = .ok (7919 * t) := mul_small12 (.inl (by decide))
    obtain ⟨x, hx, eo⟩ := law_otherwise (n + 6) hw hl' tne ss sl (c + 7919 * t)
    have eo : run PG (n + 8) 111 _ = _ := eo
    obtain ⟨due, e1, e2, p1, p2, p3, told⟩ := thing_told n hw H (by omega) hx
    have sm : run PG (n + 8) 12 _ = _ := same 1 (n + 6) due p1
    obtain ⟨q0, q1⟩ := mod_rg (stirZ c (20 + t)) (by omega : 0 < m)
    obtain ⟨q, hq⟩ : ∃ q, q = (stirZ c (20 + t)).fmod m := ⟨_, rfl⟩
    rw [← hq] at q0 q1
    obtain ⟨v0, v1⟩ := mod_rg (stirZ c (30 + t)) (by decide : (0 : Int) < 9)
    obtain ⟨v, hv⟩ : ∃ v, v = 1 + (stirZ c (30 + t)).fmod 9 := ⟨_, rfl⟩
    have lp := loop_test D.int (fun _ => true) (.bl false) [some (false, sc), some (false, .int c), some (false, .int m), some (false, webD m ts), some (false, hpD h), some (false, .lst (ss.map prD)), some (false, .int t), some (false, x), some (false, due), some (false, .int q), none, none] (f := bodyF (run PG (n + 8)) true (.one 10) B113_0) [1, 2, v] fun k hk => by
      have kr : 1 ≤ k ∧ k ≤ 300 := by
        simp only [List.mem_cons, List.not_mem_nil, or_false] at hk
        rcases hk with rfl | rfl | rfl <;> omega
      rcases told with ⟨rfl, y, le, Hy, br⟩ | ⟨⟨x', k', rfl⟩, br⟩
      · have b := br q k q0 q1 kr.1 kr.2
        have iy := idx_hp (hs := y) q0 (by have := Hy.1.len; omega)
        have sb : run PG (n + 8) 12 _ = _ := same_bl (n + 7) (decide (k ≤ hAt y q))
        simp [-List.map_map, bodyF, B113_0, le, iy, b, sb]
      · have b := br q k q0 q1 kr.1 kr.2
        have sb : run PG (n + 8) 12 _ = _ := same_bl (n + 7) false
        simp [-List.map_map, bodyF, B113_0, b, sb]
    rw [if_pos (by simp [-List.map_map])] at lp
    simp only [List.map_cons, List.map_nil] at lp
    simp [-List.map_map, -i_mul, bodyF, B113_1, s79, eo, e1, e2, sm, nm, ← hq, ← hv]
    rw [lp]
    simp [-List.map_map]
  have lp := cells_loop turn (upI 8)
  rw [← rng_upI] at lp
  have b8 : big62 8 = true := by decide
  have t8 : Int.toNat 8 = 8 := rfl
  obtain ⟨f0, f1⟩ := mod_rg (stirZ c 40) (by decide : (0 : Int) < 6)
  obtain ⟨fd, ef, hf⟩ := at6 (D.int 0) (D.int 301) (D.int (-1)) (D.bl true) D.non (D.str (Str.ofString "1")) f0 f1
  obtain ⟨nf, jf⟩ : noDic fd = true ∧ inRg fd 1 300 = false := by
    rcases hf with rfl | rfl | rfl | rfl | rfl | rfl <;> exact ⟨rfl, rfl⟩
  have rf := refused12 n hw H (by omega) nf jf
  have md : 2 + (c.fdiv 64).fmod 7 = m := hm.symm
  simp [-List.map_map, -i_mul, bodyF, B113_2, md, ew, s2, eh, es, b8, t8]
  rw [lp]
  simp [-List.map_map, ef, rf]
theorem k12_law (ns : List Int) (h : ns.length ≤ 63) : endR (exL (run PG 8) true F113_law.body (initR F113_law [.fls (ns.map D.int)])) = .ok (.bl true) := by
  have lp := cells_loop (fun c => k12_turn 0 (.fls (ns.map D.int)) c) (cut ns none (some 8) ++ [0, 7, 14])
  have l := cut_len ns none (some 8)
  have l2 : (cut ns none (some 8)).length + 3 ≤ szL := by unfold szL; omega
  simp [-List.map_map] at lp
  simp [-List.map_map, F113_law, initR, cut_ints, l2]
  rw [lp]
  simp [-List.map_map]
end Lib
end

open Lib
namespace K12
open PySem Z
def top (i : Nat) : Stmt := PySem.Challenge.pw_twoforone_k12_steps_looked_at.main.body.getD i (.Pass ⟨0, 0, 0, 0⟩)
def tbl : List (Nat × FD × Stmt) := [(0, F0_is_whole, top 18),
  (1, F1_is_from, top 19),
  (2, F2_is_two, top 20),
  (3, F3_web_good, top 21),
  (17, F17_need_web, top 22),
  (18, F18_need_place, top 23),
  (45, F45_need_number, top 24),
  (47, F47_heap_good, top 25),
  (48, F48_need_heap, top 26),
  (49, F49_is_step, top 27),
  (51, F51_done, top 28),
  (55, F55_first_wrong, top 30),
  (56, F56_heaps_behind, top 31),
  (58, F58_steps_wrong, top 32),
  (59, F59_brings, top 33),
  (6, F6_law_stir, top 35),
  (99, F99_law_may, top 36),
  (101, F101_law_moved, top 37),
  (5, F5_law_pairs, top 39),
  (7, F7_law_web_by, top 40),
  (30, F30_law_joined_by, top 41),
  (90, F90_law_heap_by, top 42),
  (107, F107_law_whole, top 43),
  (108, F108_law_is_step, top 44),
  (109, F109_law_wrong, top 45),
  (12, F12_law_same, top 46),
  (102, F102_law_end, top 47),
  (110, F110_law_steps, top 48),
  (111, F111_law_otherwise, top 49),
  (112, F112_law_refused, top 50),
  (113, F113_law, top 51)]
def cs : List (String × Int) := [("MOST_PLACES", 8), ("MOST_STONES", 300)]
def kds : List Knd := [⟨"_law_kinds", [["NoWeb", "NoKind", "NoHeap", "NoPlace"], ["NoNumber", "NoTally", "NotTree", "NotJoined"], ["NoWeights", "NoRow", "NoSteps", "NoText"], ["TooGreat"]]⟩]
def exs : List String := ["NoWeb", "NoPlace", "NoNumber", "NoHeap"]
abbrev P : Prg := prgOf tbl cs kds exs
set_option maxRecDepth 100000 in
theorem ck : (tbl.all fun p => chkF (prgOf tbl cs kds exs) p.2.1 p.2.2) = true := by decide +kernel
end K12

namespace K12
open PySem Z
def ks : List Nat := [0, 1, 2, 3, 17, 18, 45, 47, 48, 49, 51, 55, 56, 58, 59, 6, 99, 101, 5, 7, 30, 90, 107, 108, 109, 12, 102, 110, 111, 112]
set_option maxRecDepth 100000 in
theorem agree : Agree P PG ks := by
  intro k hk
  simp only [ks, List.mem_cons, List.not_mem_nil, or_false] at hk
  rcases hk with rfl | rfl | rfl | rfl | rfl | rfl | rfl | rfl | rfl | rfl | rfl | rfl | rfl | rfl | rfl | rfl | rfl | rfl | rfl | rfl | rfl | rfl | rfl | rfl | rfl | rfl | rfl | rfl | rfl | rfl <;> exact ⟨_, rfl, rfl, by decide⟩
set_option maxRecDepth 100000 in
theorem law_true : ∀ ns : List Int, ns.length ≤ 63 → run (prgOf tbl cs kds exs) (8 + 1) 113 [.fls (ns.map D.int)] = .ok (.bl true) := fun ns h => by
  rw [law_agree (Q := PG) (ks := ks) agree (fd := F113_law) rfl (by decide)]
  exact (gd_pos rfl _).trans (k12_law ns h)
end K12

open PySem PySem.W PyProof.Rows
set_option maxRecDepth 100000 in
set_option maxHeartbeats 0 in
theorem PySem.Challenge.cw_twoforone_k12_steps_looked_at_holds : PySem.Challenge.rw_twoforone_k12_steps_looked_at.Holds := by
  w_on; o_law; k_head; (case hw => w_witness2)
  k_fill
  refine L2.walk_of (l := PySem.Challenge.rw_twoforone_k12_steps_looked_at) (n := 63) (k := 11) (x := "script") (CX := fun w => L2.CX PySem.Challenge.rw_twoforone_k12_steps_looked_at.prog w) (sp := fun w => Z.spLaw _) rfl (by decide) rfl ⟨rfl, by decide, by decide⟩ (fun w h Y => PySem.W.kIn_of Y) ?F (fun _ _ a ns hl _ hS => ⟨a, ns, rfl, hS, hl, fun _ => rfl⟩) (fun w H s e s2 h => Z.no_exc _ w H s e s2 h)
  case F =>
    intro w mg fa h KX G hmg
    refine Z.law_end (tbl := K12.tbl) (consts := K12.cs) (kinds := K12.kds) (excs := K12.exs) (k := 113) (n := 9) rfl rfl KX G hmg ?zad ?zb ?zc ?zex ?zkn K12.ck K12.law_true
    case zad =>
      refine ⟨?_, ?_, ?_, ?_, ?_, ?_, ?_, ?_, ?_, ?_, ?_, ?_, ?_, ?_, ?_, ?_, ?_, ?_, ?_, ?_, ?_, ?_, ?_, ?_, ?_, ?_, ?_, ?_, ?_, ?_, ?_, trivial⟩
      · refine' Z.def_mk ?za ?zl ?zk1 ?zk2 (fun _ _ _ _ _ _ us hl => match us, hl with | [_], _ => rfl)
        (case za => k_is); (case zl => k_is); (case zk1 => k_is); (case zk2 => k_is)
      · refine' Z.def_mk ?za ?zl ?zk1 ?zk2 (fun _ _ _ _ _ _ us hl => match us, hl with | [_, _, _], _ => rfl)
        (case za => k_is); (case zl => k_is); (case zk1 => k_is); (case zk2 => k_is)
      · refine' Z.def_mk ?za ?zl ?zk1 ?zk2 (fun _ _ _ _ _ _ us hl => match us, hl with | [_, _], _ => rfl)
        (case za => k_is); (case zl => k_is); (case zk1 => k_is); (case zk2 => k_is)
      · refine' Z.def_mk ?za ?zl ?zk1 ?zk2 (fun _ _ _ _ _ _ us hl => match us, hl with | [_], _ => rfl)
        (case za => k_is); (case zl => k_is); (case zk1 => k_is); (case zk2 => k_is)
      · refine' Z.def_mk ?za ?zl ?zk1 ?zk2 (fun _ _ _ _ _ _ us hl => match us, hl with | [_], _ => rfl)
        (case za => k_is); (case zl => k_is); (case zk1 => k_is); (case zk2 => k_is)
      · refine' Z.def_mk ?za ?zl ?zk1 ?zk2 (fun _ _ _ _ _ _ us hl => match us, hl with | [_, _], _ => rfl)
        (case za => k_is); (case zl => k_is); (case zk1 => k_is); (case zk2 => k_is)
      · refine' Z.def_mk ?za ?zl ?zk1 ?zk2 (fun _ _ _ _ _ _ us hl => match us, hl with | [_, _, _], _ => rfl)
        (case za => k_is); (case zl => k_is); (case zk1 => k_is); (case zk2 => k_is)
      · refine' Z.def_mk ?za ?zl ?zk1 ?zk2 (fun _ _ _ _ _ _ us hl => match us, hl with | [_, _], _ => rfl)
        (case za => k_is); (case zl => k_is); (case zk1 => k_is); (case zk2 => k_is)
      · refine' Z.def_mk ?za ?zl ?zk1 ?zk2 (fun _ _ _ _ _ _ us hl => match us, hl with | [_, _], _ => rfl)
        (case za => k_is); (case zl => k_is); (case zk1 => k_is); (case zk2 => k_is)
      · refine' Z.def_mk ?za ?zl ?zk1 ?zk2 (fun _ _ _ _ _ _ us hl => match us, hl with | [_, _], _ => rfl)
        (case za => k_is); (case zl => k_is); (case zk1 => k_is); (case zk2 => k_is)
      · refine' Z.def_mk ?za ?zl ?zk1 ?zk2 (fun _ _ _ _ _ _ us hl => match us, hl with | [_, _], _ => rfl)
        (case za => k_is); (case zl => k_is); (case zk1 => k_is); (case zk2 => k_is)
      · refine' Z.def_mk ?za ?zl ?zk1 ?zk2 (fun _ _ _ _ _ _ us hl => match us, hl with | [_, _, _], _ => rfl)
        (case za => k_is); (case zl => k_is); (case zk1 => k_is); (case zk2 => k_is)
      · refine' Z.def_mk ?za ?zl ?zk1 ?zk2 (fun _ _ _ _ _ _ us hl => match us, hl with | [_, _], _ => rfl)
        (case za => k_is); (case zl => k_is); (case zk1 => k_is); (case zk2 => k_is)
      · refine' Z.def_mk ?za ?zl ?zk1 ?zk2 (fun _ _ _ _ _ _ us hl => match us, hl with | [_, _, _], _ => rfl)
        (case za => k_is); (case zl => k_is); (case zk1 => k_is); (case zk2 => k_is)
      · refine' Z.def_mk ?za ?zl ?zk1 ?zk2 (fun _ _ _ _ _ _ us hl => match us, hl with | [_, _, _, _, _], _ => rfl)
        (case za => k_is); (case zl => k_is); (case zk1 => k_is); (case zk2 => k_is)
      · refine' Z.def_mk ?za ?zl ?zk1 ?zk2 (fun _ _ _ _ _ _ us hl => match us, hl with | [_, _], _ => rfl)
        (case za => k_is); (case zl => k_is); (case zk1 => k_is); (case zk2 => k_is)
      · refine' Z.def_mk ?za ?zl ?zk1 ?zk2 (fun _ _ _ _ _ _ us hl => match us, hl with | [_, _], _ => rfl)
        (case za => k_is); (case zl => k_is); (case zk1 => k_is); (case zk2 => k_is)
      · refine' Z.def_mk ?za ?zl ?zk1 ?zk2 (fun _ _ _ _ _ _ us hl => match us, hl with | [_, _], _ => rfl)
        (case za => k_is); (case zl => k_is); (case zk1 => k_is); (case zk2 => k_is)
      · refine' Z.def_mk ?za ?zl ?zk1 ?zk2 (fun _ _ _ _ _ _ us hl => match us, hl with | [_], _ => rfl)
        (case za => k_is); (case zl => k_is); (case zk1 => k_is); (case zk2 => k_is)
      · refine' Z.def_mk ?za ?zl ?zk1 ?zk2 (fun _ _ _ _ _ _ us hl => match us, hl with | [_, _], _ => rfl)
        (case za => k_is); (case zl => k_is); (case zk1 => k_is); (case zk2 => k_is)
      · refine' Z.def_mk ?za ?zl ?zk1 ?zk2 (fun _ _ _ _ _ _ us hl => match us, hl with | [_, _], _ => rfl)
        (case za => k_is); (case zl => k_is); (case zk1 => k_is); (case zk2 => k_is)
      · refine' Z.def_mk ?za ?zl ?zk1 ?zk2 (fun _ _ _ _ _ _ us hl => match us, hl with | [_, _, _], _ => rfl)
        (case za => k_is); (case zl => k_is); (case zk1 => k_is); (case zk2 => k_is)
      · refine' Z.def_mk ?za ?zl ?zk1 ?zk2 (fun _ _ _ _ _ _ us hl => match us, hl with | [_], _ => rfl)
        (case za => k_is); (case zl => k_is); (case zk1 => k_is); (case zk2 => k_is)
      · refine' Z.def_mk ?za ?zl ?zk1 ?zk2 (fun _ _ _ _ _ _ us hl => match us, hl with | [_, _], _ => rfl)
        (case za => k_is); (case zl => k_is); (case zk1 => k_is); (case zk2 => k_is)
      · refine' Z.def_mk ?za ?zl ?zk1 ?zk2 (fun _ _ _ _ _ _ us hl => match us, hl with | [_, _, _], _ => rfl)
        (case za => k_is); (case zl => k_is); (case zk1 => k_is); (case zk2 => k_is)
      · refine' Z.def_mk ?za ?zl ?zk1 ?zk2 (fun _ _ _ _ _ _ us hl => match us, hl with | [_, _], _ => rfl)
        (case za => k_is); (case zl => k_is); (case zk1 => k_is); (case zk2 => k_is)
      · refine' Z.def_mk ?za ?zl ?zk1 ?zk2 (fun _ _ _ _ _ _ us hl => match us, hl with | [_, _], _ => rfl)
        (case za => k_is); (case zl => k_is); (case zk1 => k_is); (case zk2 => k_is)
      · refine' Z.def_mk ?za ?zl ?zk1 ?zk2 (fun _ _ _ _ _ _ us hl => match us, hl with | [_, _, _], _ => rfl)
        (case za => k_is); (case zl => k_is); (case zk1 => k_is); (case zk2 => k_is)
      · refine' Z.def_mk ?za ?zl ?zk1 ?zk2 (fun _ _ _ _ _ _ us hl => match us, hl with | [_, _, _], _ => rfl)
        (case za => k_is); (case zl => k_is); (case zk1 => k_is); (case zk2 => k_is)
      · refine' Z.def_mk ?za ?zl ?zk1 ?zk2 (fun _ _ _ _ _ _ us hl => match us, hl with | [_, _, _, _], _ => rfl)
        (case za => k_is); (case zl => k_is); (case zk1 => k_is); (case zk2 => k_is)
      · refine' Z.def_mk ?za ?zl ?zk1 ?zk2 (fun _ _ _ _ _ _ us hl => match us, hl with | [_], _ => rfl)
        (case za => k_is); (case zl => k_is); (case zk1 => k_is); (case zk2 => k_is)
    case zb =>
      intro x hx
      simp only [Z.bltNames, List.mem_cons, List.not_mem_nil, or_false] at hx
      rcases hx with rfl | rfl | rfl | rfl | rfl | rfl | rfl | rfl | rfl | rfl | rfl | rfl | rfl | rfl | rfl | rfl | rfl | rfl <;> k_is
    case zc =>
      intro x i hx
      simp only [K12.cs, List.mem_cons, List.not_mem_nil, or_false, Prod.mk.injEq] at hx
      rcases hx with ⟨rfl, rfl⟩ | ⟨rfl, rfl⟩
      all_goals exact ⟨_, by k_is⟩
    case zex =>
      intro x hx
      simp only [K12.exs, List.mem_cons, List.not_mem_nil, or_false] at hx
      rcases hx with rfl | rfl | rfl | rfl
      · refine' Z.exc_mk1 (st := Z.initOf (K12.top 11)) ?za ?zd ?zt ?zk ?zl ?zr ?zs ?zi ?zti ?zli ?zci ?zki (fun _ _ _ _ _ _ us hl => match us, hl with | [_, _], _ => rfl) ?znf (by decide) (by decide +kernel)
        (case za => k_is); (case zd => k_is); (case zt => k_is); (case zk => k_is); (case zl => k_is); (case zr => decide +kernel); (case zs => k_is); (case zi => k_is); (case zti => k_is); (case zli => k_is); (case zci => k_is); (case zki => k_is)
        (case znf => intro f hf; have hf : f ∈ (["at"] : List String) := hf; simp only [List.mem_cons, List.not_mem_nil, or_false] at hf; rcases hf with rfl <;> (show PySem.W.findIn _ _ _ = _) <;> k_is)
      · refine' Z.exc_mk0 ?za ?zd ?zt ?zk ?zx rfl
        (case za => k_is); (case zd => k_is); (case zt => k_is); (case zk => k_is); (case zx => k_exc)
      · refine' Z.exc_mk0 ?za ?zd ?zt ?zk ?zx rfl
        (case za => k_is); (case zd => k_is); (case zt => k_is); (case zk => k_is); (case zx => k_exc)
      · refine' Z.exc_mk0 ?za ?zd ?zt ?zk ?zx rfl
        (case za => k_is); (case zd => k_is); (case zt => k_is); (case zk => k_is); (case zx => k_exc)
    case zkn =>
      intro x hx
      simp only [K12.kds, List.mem_cons, List.not_mem_nil, or_false] at hx
      subst hx
      refine' Z.knd_mk (st := K12.top 38) ?z1 ?z2 ?z3 ?z4 ?z5 ?z6 ?z7 ?z8 ?z9 ?z10 ?z11 ?z12 ?z13 ?z14 (fun _ _ _ _ _ _ us hl => match us, hl with | [_], _ => rfl) (by decide +kernel) (by decide +kernel) (by decide) ?zall
      (case z1 => k_is); (case z2 => k_is); (case z3 => k_is); (case z4 => k_is); (case z5 => k_is); (case z6 => rfl); (case z7 => k_is); (case z8 => k_is); (case z9 => k_is); (case z10 => k_is); (case z11 => k_is); (case z12 => k_is); (case z13 => k_is); (case z14 => k_is)
      case zall =>
        intro y hy
        have hy : y ∈ (["NoWeb", "NoKind", "NoHeap", "NoPlace", "NoNumber", "NoTally", "NotTree", "NotJoined", "NoWeights", "NoRow", "NoSteps", "NoText", "TooGreat"] : List String) := hy
        simp only [List.mem_cons, List.not_mem_nil, or_false] at hy
        rcases hy with rfl | rfl | rfl | rfl | rfl | rfl | rfl | rfl | rfl | rfl | rfl | rfl | rfl
        · refine' Z.cls_mk ?za ?zl ?zn ?zm ?zt ?zg ?zh ?zi ?zj ?zk ?znf
          (case za => k_is); (case zl => k_is); (case zn => rfl); (case zm => rfl); (case zt => k_is); (case zg => k_is); (case zh => k_is); (case zi => k_is); (case zj => k_is); (case zk => k_is)
          (case znf => intro f hf; have hf : f ∈ (["at"] : List String) := hf; simp only [List.mem_cons, List.not_mem_nil, or_false] at hf; rcases hf with rfl <;> (show PySem.W.findIn _ _ _ = _) <;> k_is)
        · refine' Z.cls_mk ?za ?zl ?zn ?zm ?zt ?zg ?zh ?zi ?zj ?zk ?znf
          (case za => k_is); (case zl => k_is); (case zn => rfl); (case zm => rfl); (case zt => k_is); (case zg => k_is); (case zh => k_is); (case zi => k_is); (case zj => k_is); (case zk => k_is)
          (case znf => exact fun f hf => (nomatch (show f ∈ ([] : List String) from hf)))
        · refine' Z.cls_mk ?za ?zl ?zn ?zm ?zt ?zg ?zh ?zi ?zj ?zk ?znf
          (case za => k_is); (case zl => k_is); (case zn => rfl); (case zm => rfl); (case zt => k_is); (case zg => k_is); (case zh => k_is); (case zi => k_is); (case zj => k_is); (case zk => k_is)
          (case znf => exact fun f hf => (nomatch (show f ∈ ([] : List String) from hf)))
        · refine' Z.cls_mk ?za ?zl ?zn ?zm ?zt ?zg ?zh ?zi ?zj ?zk ?znf
          (case za => k_is); (case zl => k_is); (case zn => rfl); (case zm => rfl); (case zt => k_is); (case zg => k_is); (case zh => k_is); (case zi => k_is); (case zj => k_is); (case zk => k_is)
          (case znf => exact fun f hf => (nomatch (show f ∈ ([] : List String) from hf)))
        · refine' Z.cls_mk ?za ?zl ?zn ?zm ?zt ?zg ?zh ?zi ?zj ?zk ?znf
          (case za => k_is); (case zl => k_is); (case zn => rfl); (case zm => rfl); (case zt => k_is); (case zg => k_is); (case zh => k_is); (case zi => k_is); (case zj => k_is); (case zk => k_is)
          (case znf => exact fun f hf => (nomatch (show f ∈ ([] : List String) from hf)))
        · refine' Z.cls_mk ?za ?zl ?zn ?zm ?zt ?zg ?zh ?zi ?zj ?zk ?znf
          (case za => k_is); (case zl => k_is); (case zn => rfl); (case zm => rfl); (case zt => k_is); (case zg => k_is); (case zh => k_is); (case zi => k_is); (case zj => k_is); (case zk => k_is)
          (case znf => exact fun f hf => (nomatch (show f ∈ ([] : List String) from hf)))
        · refine' Z.cls_mk ?za ?zl ?zn ?zm ?zt ?zg ?zh ?zi ?zj ?zk ?znf
          (case za => k_is); (case zl => k_is); (case zn => rfl); (case zm => rfl); (case zt => k_is); (case zg => k_is); (case zh => k_is); (case zi => k_is); (case zj => k_is); (case zk => k_is)
          (case znf => exact fun f hf => (nomatch (show f ∈ ([] : List String) from hf)))
        · refine' Z.cls_mk ?za ?zl ?zn ?zm ?zt ?zg ?zh ?zi ?zj ?zk ?znf
          (case za => k_is); (case zl => k_is); (case zn => rfl); (case zm => rfl); (case zt => k_is); (case zg => k_is); (case zh => k_is); (case zi => k_is); (case zj => k_is); (case zk => k_is)
          (case znf => exact fun f hf => (nomatch (show f ∈ ([] : List String) from hf)))
        · refine' Z.cls_mk ?za ?zl ?zn ?zm ?zt ?zg ?zh ?zi ?zj ?zk ?znf
          (case za => k_is); (case zl => k_is); (case zn => rfl); (case zm => rfl); (case zt => k_is); (case zg => k_is); (case zh => k_is); (case zi => k_is); (case zj => k_is); (case zk => k_is)
          (case znf => exact fun f hf => (nomatch (show f ∈ ([] : List String) from hf)))
        · refine' Z.cls_mk ?za ?zl ?zn ?zm ?zt ?zg ?zh ?zi ?zj ?zk ?znf
          (case za => k_is); (case zl => k_is); (case zn => rfl); (case zm => rfl); (case zt => k_is); (case zg => k_is); (case zh => k_is); (case zi => k_is); (case zj => k_is); (case zk => k_is)
          (case znf => exact fun f hf => (nomatch (show f ∈ ([] : List String) from hf)))
        · refine' Z.cls_mk ?za ?zl ?zn ?zm ?zt ?zg ?zh ?zi ?zj ?zk ?znf
          (case za => k_is); (case zl => k_is); (case zn => rfl); (case zm => rfl); (case zt => k_is); (case zg => k_is); (case zh => k_is); (case zi => k_is); (case zj => k_is); (case zk => k_is)
          (case znf => intro f hf; have hf : f ∈ (["at"] : List String) := hf; simp only [List.mem_cons, List.not_mem_nil, or_false] at hf; rcases hf with rfl <;> (show PySem.W.findIn _ _ _ = _) <;> k_is)
        · refine' Z.cls_mk ?za ?zl ?zn ?zm ?zt ?zg ?zh ?zi ?zj ?zk ?znf
          (case za => k_is); (case zl => k_is); (case zn => rfl); (case zm => rfl); (case zt => k_is); (case zg => k_is); (case zh => k_is); (case zi => k_is); (case zj => k_is); (case zk => k_is)
          (case znf => intro f hf; have hf : f ∈ (["row"] : List String) := hf; simp only [List.mem_cons, List.not_mem_nil, or_false] at hf; rcases hf with rfl <;> (show PySem.W.findIn _ _ _ = _) <;> k_is)
        · refine' Z.cls_mk ?za ?zl ?zn ?zm ?zt ?zg ?zh ?zi ?zj ?zk ?znf
          (case za => k_is); (case zl => k_is); (case zn => rfl); (case zm => rfl); (case zt => k_is); (case zg => k_is); (case zh => k_is); (case zi => k_is); (case zj => k_is); (case zk => k_is)
          (case znf => intro f hf; have hf : f ∈ (["many", "most"] : List String) := hf; simp only [List.mem_cons, List.not_mem_nil, or_false] at hf; rcases hf with rfl | rfl <;> (show PySem.W.findIn _ _ _ = _) <;> k_is)

