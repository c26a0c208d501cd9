import PyProof.Rows.All
import Open.Row
import Wide.All
import OpenK.AllK
import Wide.FinOn
import KE.KExcSuper
import HandS.ForMost
import HandS.ForExc
import HandS.WordsExc
import HandS.ExcInit
import HandS.ExcField
import HandS.TryMany
import HandS.Nested
import HandS.NestedK
import HandS.Iter
import HandS.Zip
import KE.GoesMore
import HandS.Style
import HandS.TupAny
import KE.KRevSl
import HandS.Defaults
import HandS.CallSlots
import HandS.Flow
import HandS.TupMul
import HandS.IsInst
import HandS.Deep
import KE.KStateDown
import HandS.Head0
import HandS.Head1
import HandS.Head2
import HandS.HeadEnd
import HandS.HeadHook1
import HandS.HeadHook2
import HandS.RaiseMore
import HandS.Comp
import HandS.TryOnly
import HandS.SortRule
import KE.KSortKeySt
import Lean
import PySem.Challenge.RW_fewbodies_k02_types
set_option linter.all false
set_option maxRecDepth 100000
/-! Fb1: plain values, a small store of mutable cells, the IR and its evaluator. No program in sight. -/
namespace Fb
inductive D where
  | non | bl (b : Bool) | int (i : Int) | str (x : List Nat) | tup (xs : List D) | lst (xs : List D) | ro (xs : List D) | cell (n : Nat)
  deriving Inhabited
inductive Cell where
  | lst (xs : List D)
abbrev Store := List Cell
inductive Res (α : Type) where
  | ok (a : α) (S : Store) | exc (c : Nat) (as : List D) (S : Store) | bad
abbrev M (α : Type) := Store → Res α
def M.ret {α : Type} (a : α) : M α := fun S => .ok a S
def M.bind {α β : Type} (m : M α) (f : α → M β) : M β := fun S => match m S with
  | .ok a S' => f a S'
  | .exc c as S' => .exc c as S'
  | .bad => .bad
instance : Monad M where
  pure := M.ret
  bind := M.bind
def M.bad {α : Type} : M α := fun _ => .bad
def M.opt {α : Type} (o : Option α) : M α := fun S => match o with
  | some a => .ok a S
  | none => .bad
def SL : Nat := 16777216
abbrev Ev := List (Option D)

/-! ### what a value holds -/
/-- the items of a list that is the call's own (in either mode) -/
def ownOf (S : Store) : D → Option (List D)
  | .lst xs => some xs
  | .cell n => match S[n]? with
    | some (.lst xs) => some xs
    | none => none
  | _ => none
/-- the items of a list, of one that is but read, too -/
def lstOf (S : Store) : D → Option (List D)
  | .ro xs => some xs
  | d => ownOf S d
/-- the items of a list or tuple -/
def seqOf (S : Store) : D → Option (List D)
  | .tup xs => some xs
  | d => lstOf S d
def truthD (S : Store) : D → Option Bool
  | .non => some false
  | .bl b => some b
  | .int i => some (i != 0)
  | .str x => if x.length ≤ SL then some (!x.isEmpty) else none
  | d => (seqOf S d).map fun xs => !xs.isEmpty
def truthM (d : D) : M Bool := fun S => M.opt (truthD S d) S
mutual
def D.free : D → Bool
  | .tup xs => D.frees xs
  | .lst xs => D.frees xs
  | .ro xs => D.frees xs
  | .cell _ => false
  | _ => true
def D.frees : List D → Bool
  | [] => true
  | x :: xs => D.free x && D.frees xs
end
/-- Python's ==, of cell-free data -/
def beqI (a : Bool) (i : Int) : Bool := (if a then 1 else 0) == i
mutual
def D.eqv : D → D → Bool
  | .non, .non => true
  | .bl a, .bl b => a == b
  | .bl a, .int j => beqI a j
  | .int i, .bl b => beqI b i
  | .int i, .int j => i == j
  | .str x, .str y => x == y
  | .lst xs, .lst ys => D.eqvs xs ys
  | .lst xs, .ro ys => D.eqvs xs ys
  | .ro xs, .lst ys => D.eqvs xs ys
  | .ro xs, .ro ys => D.eqvs xs ys
  | .tup xs, .tup ys => D.eqvs xs ys
  | _, _ => false
def D.eqvs : List D → List D → Bool
  | [], [] => true
  | x :: xs, y :: ys => D.eqv x y && D.eqvs xs ys
  | _, _ => false
end
mutual
def D.depth : D → Nat
  | .tup xs => D.depths xs + 1
  | .lst xs => D.depths xs + 1
  | .ro xs => D.depths xs + 1
  | _ => 0
def D.depths : List D → Nat
  | [] => 0
  | x :: xs => max (D.depth x) (D.depths xs)
end
mutual
/-- one above the highest cell named -/
def D.top : D → Nat
  | .tup xs => D.tops xs
  | .lst xs => D.tops xs
  | .ro xs => D.tops xs
  | .cell n => n + 1
  | _ => 0
def D.tops : List D → Nat
  | [] => 0
  | x :: xs => max (D.top x) (D.tops xs)
end
def Cell.topB (k : Nat) : Cell → Bool
  | .lst xs => decide (D.tops xs ≤ k)
/-- a flat value: not an object -/
def D.flat : D → Bool
  | .non | .bl _ | .int _ | .str _ => true
  | _ => false

/-! ### texts -/
/-- split at one sign -/
def splitD (c : Nat) : List Nat → List Nat → List (List Nat)
  | acc, [] => [acc]
  | acc, x :: r => if x = c then acc :: splitD c [] r else splitD c (acc ++ [x]) r
def digV (acc : Nat) : List Nat → Nat
  | [] => acc
  | c :: r => digV (acc * 10 + (c - 48)) r
def isDig (c : Nat) : Bool := decide (48 ≤ c) && decide (c ≤ 57)
/-- int(text), of figures, with one sign ahead of them or none -/
def intOf (x : List Nat) : Option Int := match x with
  | [] => none
  | 45 :: r => if r.all isDig && !r.isEmpty && decide (r.length ≤ 600) then some (-(digV 0 r : Nat)) else none
  | x => if x.all isDig && decide (x.length ≤ 600) then some (digV 0 x : Nat) else none
def countD (c : Nat) : List Nat → Nat
  | [] => 0
  | x :: r => (if x = c then 1 else 0) + countD c r
def upC (c : Nat) : Nat := if 97 ≤ c ∧ c ≤ 122 then c - 32 else c
/-- each k-th item from the first on -/
def stepL {α : Type} (k : Nat) : Nat → List α → List α
  | _, [] => []
  | 0, x :: r => x :: stepL k (k - 1) r
  | j + 1, _ :: r => stepL k j r
def pickL {α : Type} : List Nat → List α → Option (List α)
  | [], _ => some []
  | i :: is, xs => match xs[i]?, pickL is xs with
    | some x, some ys => some (x :: ys)
    | _, _ => none
/-- the first place where it stands -/
def indexD (x : D) : Nat → List D → Option Nat
  | _, [] => none
  | i, y :: r => if D.eqv y x then some i else indexD x (i + 1) r
/-! ### operators -/
inductive Bo where
  | add | sub | mul | mod | fdiv | pow | shl
  deriving DecidableEq
inductive Co where
  | eq | ne | lt | le | gt | ge | isIn | notIn
  deriving DecidableEq
def two64 : Int := 18446744073709551616
def mulOk (i j : Int) : Bool := decide ((-two64 < i ∧ i < two64) ∨ (-two64 < j ∧ j < two64))
def cut1 (n : Nat) (o : Option Int) (d : Nat) : Nat := match o with
  | none => d
  | some i => if i < 0 then (i + n).toNat else min i.toNat n
def cutL {α : Type} (xs : List α) (lo hi : Option Int) : List α :=
  (xs.drop (cut1 xs.length lo 0)).take (cut1 xs.length hi xs.length - cut1 xs.length lo 0)
def ixL {α : Type} (xs : List α) (i : Int) : Option α := if i < 0 then (if i + xs.length < 0 then none else xs[(i + xs.length).toNat]?) else xs[i.toNat]?
def addD (S : Store) (x y : D) : Option D := match x, y with
  | .int i, .int j => some (.int (i + j))
  | .str a, .str b => if a.length + b.length ≤ SL then some (.str (a ++ b)) else none
  | .tup a, .tup b => if a.length + b.length ≤ SL then some (.tup (a ++ b)) else none
  | x, y => match ownOf S x, ownOf S y with
    | some a, some b => if a.length + b.length ≤ SL then some (.lst (a ++ b)) else none
    | _, _ => none
def repL {α : Type} (a : List α) (k : Int) : List α := (List.replicate k.toNat a).flatten
def mulD (S : Store) (x y : D) : Option D := match x, y with
  | .int i, .int j => if mulOk i j then some (.int (i * j)) else none
  | .tup a, .int k => if a.length ≤ 1000 ∧ k ≤ 1000 ∧ -1000000 ≤ k then some (.tup (repL a k)) else none
  | .str a, .int k => if a.length ≤ 1000 ∧ k ≤ 1000 ∧ -1000000 ≤ k then some (.str (repL a k)) else none
  | x, .int k => match ownOf S x with
    | some a => if a.length ≤ 1000 ∧ k ≤ 1000 ∧ -1000000 ≤ k then some (.lst (repL a k)) else none
    | none => none
  | _, _ => none
def binD (S : Store) (o : Bo) (x y : D) : Option D := match o with
  | .add => addD S x y
  | .mul => mulD S x y
  | .sub => match x, y with
    | .int i, .int j => some (.int (i - j))
    | _, _ => none
  | .mod => match x, y with
    | .int i, .int j => if 0 < j then some (.int (i % j)) else none
    | _, _ => none
  | .fdiv => match x, y with
    | .int i, .int j => if 0 < j ∧ j < 1073741824 then some (.int (i / j)) else none
    | _, _ => none
  | .pow => match x, y with
    | .int i, .int j => if 0 ≤ j ∧ j ≤ 1000000 ∧ -two64 < i ∧ i < two64 then some (.int (i ^ j.toNat)) else none
    | _, _ => none
  | .shl => match x, y with
    | .int i, .int j => if 0 ≤ j ∧ j ≤ 1000000 ∧ -two64 < i ∧ i < two64 then some (.int (i * 2 ^ j.toNat)) else none
    | _, _ => none
def binM (o : Bo) (x y : D) : M D := fun S => M.opt (binD S o x y) S
/-- x among data -/
def memD (x : D) : List D → Bool
  | [] => false
  | y :: r => D.eqv y x || memD x r
/-- a list in either mode, as data; tuples and lists within stay as they are -/
def dataOf (S : Store) (d : D) : Option D := match d with
  | .cell _ => (lstOf S d).map .lst
  | d => some d
def inD (S : Store) (x y : D) : Option Bool := match y with
  | .str b => match x with
    | .str [c] => some (b.contains c)
    | _ => none
  | .tup ys => if x.flat && ys.all D.flat then some (memD x ys) else none
  | y => match lstOf S y with
    | some ys => if x.free && D.frees ys && decide (D.depth x ≤ 60) && decide (D.depths ys ≤ 60) then some (memD x ys) else none
    | none => none
def eqD (S : Store) (x y : D) : Option Bool := match dataOf S x, dataOf S y with
  | some a, some b => if a.free && b.free && decide (D.depth a ≤ 60) && decide (D.depth b ≤ 60) then some (D.eqv a b) else none
  | _, _ => none
def ltD (f : Int → Int → Bool) (x y : D) : Option Bool := match x, y with
  | .int i, .int j => some (f i j)
  | _, _ => none
def cmpD (S : Store) (o : Co) (x y : D) : Option Bool := match o with
  | .lt => ltD (fun i j => decide (i < j)) x y
  | .le => ltD (fun i j => decide (i ≤ j)) x y
  | .gt => ltD (fun i j => decide (j < i)) x y
  | .ge => ltD (fun i j => decide (j ≤ i)) x y
  | .eq => eqD S x y
  | .ne => (eqD S x y).map (!·)
  | .isIn => inD S x y
  | .notIn => (inD S x y).map (!·)
def cmpM (o : Co) (x y : D) : M Bool := fun S => M.opt (cmpD S o x y) S
def idxM (x y : D) : M D := fun S => match x, y with
  | .str a, .int i => if a.length ≤ SL then M.opt ((ixL a i).map fun c => .str [c]) S else .bad
  | x, .int i => match seqOf S x with
    | some xs => M.opt (ixL xs i) S
    | none => .bad
  | _, _ => .bad
def partI : D → Option (Option Int)
  | .non => some none
  | .int i => some (some i)
  | _ => none
def cutD (S : Store) (x : D) (lo hi : Option Int) : Option D := match x with
  | .str a => if a.length ≤ SL then some (.str (cutL a lo hi)) else none
  | .tup xs => some (.tup (cutL xs lo hi))
  | x => (lstOf S x).map fun xs => .lst (cutL xs lo hi)
def revD (S : Store) (x : D) : Option D := match x with
  | .tup xs => some (.tup xs.reverse)
  | x => (lstOf S x).map fun xs => .lst xs.reverse
/-- a stable sort by a key -/
def insBy {α : Type} (k : α → Nat) (x : α) : List α → List α
  | [] => [x]
  | y :: r => if k x ≤ k y then x :: y :: r else y :: insBy k x r
def sortBy {α : Type} (k : α → Nat) : List α → List α
  | [] => []
  | x :: r => insBy k x (sortBy k r)
/-- x[lo::k] -/
def stpD (S : Store) (x : D) (lo k : Nat) : Option D := (lstOf S x).map fun xs => .lst (stepL k 0 (xs.drop lo))

/-! ### built-ins -/
inductive Ty where
  | str | int | bool | tup | lst
  deriving DecidableEq
def D.isTy (S : Store) : D → Ty → Bool
  | .str _, .str => true
  | .int _, .int => true
  | .bl _, .int => true
  | .bl _, .bool => true
  | .tup _, .tup => true
  | .lst _, .lst => true
  | .ro _, .lst => true
  | .cell n, .lst => (ownOf S (.cell n)).isSome
  | _, _ => false
inductive Bt where
  | len | int | str | tuple | list | min | max | abs | all | any | sum
  deriving DecidableEq
inductive Mt where
  | append | pop | popAt | extend | join | split | startswith | upper | index | count
  deriving DecidableEq
def digitsOf (n : Nat) : List Nat := (Nat.toDigits 10 n).map Char.toNat
def intText (i : Int) : List Nat := if i < 0 then 45 :: digitsOf i.natAbs else digitsOf i.natAbs
def boolsOf : List D → Option (List Bool)
  | [] => some []
  | .bl b :: r => (boolsOf r).map (b :: ·)
  | _ => none
def intsOf : List D → Option (List Int)
  | [] => some []
  | .int b :: r => (intsOf r).map (b :: ·)
  | _ => none
def strsOf : List D → Option (List (List Nat))
  | [] => some []
  | .str b :: r => (strsOf r).map (b :: ·)
  | _ => none
/-- sorted(x, key=len) -/
def srtD (S : Store) (x : D) : Option D := match lstOf S x with
  | some xs => match strsOf xs with
    | some ss => if ss.all (fun z => decide (z.length ≤ SL)) = true then some (.lst ((sortBy List.length ss).map .str)) else none
    | none => none
  | none => none
def joinD (s : List Nat) : List (List Nat) → List Nat
  | [] => []
  | [x] => x
  | x :: r => x ++ s ++ joinD s r
def bltD (S : Store) (b : Bt) (xs : List D) : Option D := match b, xs with
  | .len, [.str a] => if a.length ≤ SL then some (.int a.length) else none
  | .len, [x] => (seqOf S x).map fun ys => .int ys.length
  | .int, [.int i] => some (.int i)
  | .int, [.bl b] => some (.int (if b then 1 else 0))
  | .int, [.str a] => (intOf a).map .int
  | .str, [.int i] => if i.natAbs.log2 < 1920 then some (.str (intText i)) else none
  | .str, [.str a] => some (.str a)
  | .tuple, [x] => (seqOf S x).map .tup
  | .list, [x] => (seqOf S x).map .lst
  | .min, [.int i, .int j] => some (.int (if j < i then j else i))
  | .max, [.int i, .int j] => some (.int (if j > i then j else i))
  | .abs, [.int i] => some (.int (if i < 0 then -i else i))
  | .all, [x] => match lstOf S x with
    | some ys => (boolsOf ys).map fun bs => .bl (bs.all id)
    | none => none
  | .any, [x] => match lstOf S x with
    | some ys => (boolsOf ys).map fun bs => .bl (bs.any id)
    | none => none
  | .sum, [x] => match lstOf S x with
    | some ys => (intsOf ys).map fun ns => .int ns.sum
    | none => none
  | _, _ => none
/-- a method: its answer and the store behind it -/
def mthD (S : Store) (m : Mt) (x : D) (xs : List D) : Option (D × Store) := match m, x, xs with
  | .append, .cell n, [y] => match S[n]? with
    | some (.lst ys) => if ys.length < SL then some (.non, S.set n (.lst (ys ++ [y]))) else none
    | none => none
  | .extend, .cell n, [y] => match S[n]?, ownOf S y with
    | some (.lst ys), some zs => if ys.length + zs.length ≤ SL then some (.non, S.set n (.lst (ys ++ zs))) else none
    | _, _ => none
  | .pop, .cell n, [] => match S[n]? with
    | some (.lst ys) => (ys[ys.length - 1]?).map fun y => (y, S.set n (.lst ys.dropLast))
    | none => none
  | .popAt, .cell n, [.int i] => match S[n]? with
    | some (.lst ys) => if 0 ≤ i ∧ i < ys.length ∧ ys.length ≤ SL then (ys[i.toNat]?).map fun y => (y, S.set n (.lst (ys.eraseIdx i.toNat))) else none
    | none => none
  | .join, .str s, [x] => match seqOf S x with
    | some ys => match strsOf ys with
      | some zs => if (zs.map (·.length)).sum + zs.length * s.length ≤ SL then some (.str (joinD s zs), S) else none
      | none => none
    | none => none
  | .split, .str x, [.str [c]] => if x.length + 2 ≤ SL ∧ c < 256 then some (.lst ((splitD c [] x).map .str), S) else none
  | .startswith, .str x, [.str y] => some (.bl (x.take y.length == y), S)
  | .count, .str x, [.str [c]] => some (.int (countD c x), S)
  | .upper, .str x, [] => if x.length ≤ 5000000 ∧ x.all (fun c => decide (c < 128)) = true then some (.str (x.map upC), S) else none
  | .index, x, [y] => match lstOf S x with
    | some ys => if y.flat && ys.all D.flat then (indexD y 0 ys).map fun i => (.int (i : Nat), S) else none
    | none => none
  | _, _, _ => none

/-- the receiver's kind -/
def recvOk : Mt → D → Bool
  | .append, .cell _ => true
  | .pop, .cell _ => true
  | .popAt, .cell _ => true
  | .extend, .cell _ => true
  | .join, .str _ => true
  | .split, .str _ => true
  | .startswith, .str _ => true
  | .upper, .str _ => true
  | .count, .str _ => true
  | .index, .lst _ => true
  | .index, .ro _ => true
  | .index, .cell _ => true
  | _, _ => false
/-! ### the IR -/
inductive Pat where
  | nm (i : Nat) | tp (is : List Nat)
inductive IE where
  | lit (d : D) | glo (x : List Nat) (d : D) | var (i : Nat) | nil | cons (a r : IE)
  | bin (o : Bo) (a b : IE) | neg (a : IE) | not (a : IE) | and (a b : IE) | or (a b : IE) | ite (c a b : IE)
  | cmp (o : Co) (a b : IE) | chn (o o' : Co) (a b c : IE) | isN (a : IE) | notN (a : IE)
  | tup (es : IE) | lst (es : IE) | idx (a b : IE) | sli (a lo hi : IE) | rev (a : IE)
  | call (f : Nat) (es : IE) | blt (b : Bt) (es : IE) | isi (a : IE) (t : List Ty) | mth (m : Mt) (a es : IE)
  | comp (own : List Nat) (p : Pat) (it c e : IE)
  | rng1 (a : IE) | rng2 (a b : IE) | rng3 (a b : IE) (k : Nat) | srt (a : IE) | enum (a : IE) | zip (a b : IE)
  | alloc (a : IE) | lzip (a b : IE) | stp (a : IE) (lo k : Nat) | callk (f n m : Nat) (a b : IE) (perm : List Nat) | calld (f : Nat) (a : IE) (ds : List D)
/-- what a clause's suite does with the caught error: its fields -/
inductive HE where
  | lit (d : D) | fld (c k : Nat) | tup (es : HE) | nil | cons (a r : HE)
inductive HS where
  | ret (e : HE) | set (i : Nat) (e : HE)
structure Hnd where
  ns : List (List Nat)
  cs : List Nat
  nm : Option Nat
  body : HS
inductive IS where
  | skip | seq (a b : IS) | ex (e : IE) | set (i : Nat) (e : IE) | setP (is : List Nat) (e : IE) | par (is : List Nat) (es : IE) | put (a i e : IE)
  | aug (o : Bo) (i : Nat) (e : IE) | ite (c : IE) (a b : IS) | whl (c : IE) (b : IS) | for (p : Pat) (it : IE) (b : IS)
  | ret (e : IE) | retN | brk | cnt
  | augS (o : Bo) (a i e : IE) | rse (c n : Nat) (es : IE) | try (b : IS) (hs : List Hnd)
structure Cf where
  call : Nat → List D → M D
  fuel : Nat
  lv : Nat
/-- what a for walks -/
inductive Src where
  | xs (xs : List D) | cl (n : Nat)
def allocM (d : D) : M D := fun S => match d with
  | .lst xs => .ok (.cell S.length) (S ++ [.lst xs])
  | d => .ok d S
def wipeE (σ : Ev) : List Nat → Ev
  | [] => σ
  | v :: vs => (wipeE σ vs).set v none
def setAll : List Nat → List D → Ev → Option Ev
  | [], [], σ => some σ
  | i :: is, x :: xs, σ => setAll is xs (σ.set i (some x))
  | _, _, _ => none
def patE (p : Pat) (d : D) (S : Store) (σ : Ev) : Option Ev := match p with
  | .nm i => some (σ.set i (some d))
  | .tp is => match seqOf S d with
    | some xs => setAll is xs σ
    | none => none
def rngD (lo : Int) (n : Nat) : List D := (List.range n).map fun (i : Nat) => .int (lo + i)
def big62 : Int := 4611686018427387904
def rngK (lo : Int) (k n : Nat) : List D := (List.range n).map fun (i : Nat) => .int (lo + (i : Int) * k)
def rngN (i j : Int) (k : Nat) : Nat := if i < j then ((j - i - 1) / k + 1).toNat else 0
/-- the items of a list that is no cell -/
def valL : D → Option (List D)
  | .lst xs => some xs
  | .ro xs => some xs
  | _ => none
def enumV : D → Option (List D)
  | .tup xs => some xs
  | d => valL d
def enumD (i : Nat) : List D → List D
  | [] => []
  | x :: r => .tup [.int i, x] :: enumD (i + 1) r
def zipD : List D → List D → List D
  | x :: xs, y :: ys => .tup [x, y] :: zipD xs ys
  | _, _ => []
def zipS (x y : D) : Option Src := match x, y with
  | .tup xs, .tup ys => some (.xs (zipD xs ys))
  | x, y => match valL x, valL y with
    | some xs, some ys => some (.xs (zipD xs ys))
    | _, _ => none
def srcD (d : D) : Option Src := match d with
  | .tup xs => some (.xs xs)
  | .lst xs => some (.xs xs)
  | .ro xs => some (.xs xs)
  | .str x => some (.xs (x.map fun c => .str [c]))
  | .cell n => some (.cl n)
  | _ => none
/-- no error leaves a comprehension -/
def M.nox {α : Type} (f : M α) : M α := fun S => match f S with
  | .exc _ _ _ => .bad
  | r => r
/-- a comprehension's loop: f tells an item's element, or none -/
def compM (f : D → M (Option D)) : List D → Nat → M (List D)
  | [], _ => M.ret []
  | x :: r, k => M.bind (f x) fun o => match o with
    | none => compM f r k
    | some y => if k < SL then M.bind (compM f r (k + 1)) fun ys => M.ret (y :: ys) else M.bad
/-- .. over a cell as it stands at each turn -/
def compN (f : D → M (Option D)) (n : Nat) : Nat → Nat → Nat → M (List D)
  | 0, _, _ => M.bad
  | l + 1, i, k => fun S => match lstOf S (.cell n) with
    | none => .bad
    | some xs => match xs[i]? with
      | none => .ok [] S
      | some x => M.bind (f x) (fun o => match o with
        | none => compN f n l (i + 1) k
        | some y => if k < SL then M.bind (compN f n l (i + 1) (k + 1)) fun ys => M.ret (y :: ys) else M.bad) S
def compS (f : D → M (Option D)) (l : Nat) (s : Src) : M (List D) := match s with
  | .xs xs => compM f xs 0
  | .cl n => compN f n l 0 0
mutual
def evE (C : Cf) : IE → Ev → M D
  | .lit d, _ => M.ret d
  | .glo _ d, _ => M.ret d
  | .var i, σ => M.opt (σ[i]?.join)
  | .bin o a b, σ => M.bind (evE C a σ) fun x => M.bind (evE C b σ) fun y => binM o x y
  | .neg a, σ => M.bind (evE C a σ) fun x => match x with
    | .int i => M.ret (.int (-i))
    | _ => M.bad
  | .not a, σ => M.bind (M.bind (evE C a σ) truthM) fun b => M.ret (.bl !b)
  | .and a b, σ => M.bind (evE C a σ) fun x => M.bind (truthM x) fun t => if t then evE C b σ else M.ret x
  | .or a b, σ => M.bind (evE C a σ) fun x => M.bind (truthM x) fun t => if t then M.ret x else evE C b σ
  | .ite c a b, σ => M.bind (M.bind (evE C c σ) truthM) fun t => if t then evE C a σ else evE C b σ
  | .cmp o a b, σ => M.bind (evE C a σ) fun x => M.bind (evE C b σ) fun y => M.bind (cmpM o x y) fun t => M.ret (.bl t)
  | .chn o o' a b c, σ => M.bind (evE C a σ) fun x => M.bind (evE C b σ) fun y => M.bind (cmpM o x y) fun t =>
      if t then M.bind (evE C c σ) fun z => M.bind (cmpM o' y z) fun t' => M.ret (.bl t') else M.ret (.bl false)
  | .isN a, σ => M.bind (evE C a σ) fun x => M.ret (.bl (match x with
    | .non => true
    | _ => false))
  | .notN a, σ => M.bind (evE C a σ) fun x => M.ret (.bl (match x with
    | .non => false
    | _ => true))
  | .tup es, σ => M.bind (evA C es σ) fun xs => if xs.length ≤ SL then M.ret (.tup xs) else M.bad
  | .lst es, σ => M.bind (evA C es σ) fun xs => if xs.length ≤ SL then M.ret (.lst xs) else M.bad
  | .idx a b, σ => M.bind (evE C a σ) fun x => M.bind (evE C b σ) fun y => idxM x y
  | .sli a lo hi, σ => M.bind (evE C a σ) fun x => M.bind (evP C lo σ) fun l => M.bind (evP C hi σ) fun h => fun S => M.opt (cutD S x l h) S
  | .rev a, σ => M.bind (evE C a σ) fun x => fun S => M.opt (revD S x) S
  | .srt a, σ => M.bind (evE C a σ) fun x => fun S => M.opt (srtD S x) S
  | .call f es, σ => M.bind (evA C es σ) fun xs => C.call f xs
  | .blt b es, σ => M.bind (evA C es σ) fun xs => fun S => M.opt (bltD S b xs) S
  | .isi a t, σ => M.bind (evE C a σ) fun x => fun S => .ok (.bl (t.any (D.isTy S x))) S
  | .mth m a es, σ => M.bind (evE C a σ) fun x => if recvOk m x then M.bind (evA C es σ) fun xs => fun S => match mthD S m x xs with
    | some (d, S') => .ok d S'
    | none => .bad
    else M.bad
  | .comp own p it c e, σ => M.bind (evI C it σ) fun s =>
      M.bind (compS (fun x => M.nox fun S => match patE p x S (wipeE σ own) with
        | none => .bad
        | some σ' => M.bind (evC C c σ') (fun t => if t then M.bind (evE C e σ') fun y => M.ret (some y) else M.ret none) S) C.fuel s) fun ys => M.ret (.lst ys)
  | .alloc a, σ => M.bind (evE C a σ) allocM
  | .lzip a b, σ => M.bind (evE C a σ) fun x => M.bind (evE C b σ) fun y => fun S => match seqOf S x, seqOf S y with
    | some xs, some ys => .ok (.lst (zipD xs ys)) S
    | _, _ => .bad
  | .stp a lo k, σ => M.bind (evE C a σ) fun x => fun S => M.opt (stpD S x lo k) S
  | .callk f n m a b perm, σ => M.bind (evA C a σ) fun xs => M.bind (evA C b σ) fun ys => if xs.length = n ∧ ys.length = m then (match pickL perm (xs ++ ys) with
    | some zs => C.call f zs
    | none => M.bad) else M.bad
  | .calld f a ds, σ => M.bind (evA C a σ) fun xs => C.call f (xs ++ ds)
  | _, _ => M.bad
/-- an argument list -/
def evA (C : Cf) : IE → Ev → M (List D)
  | .nil, _ => M.ret []
  | .cons a r, σ => M.bind (evE C a σ) fun x => M.bind (evA C r σ) fun xs => M.ret (x :: xs)
  | _, _ => M.bad
/-- a slice's part -/
def evP (C : Cf) : IE → Ev → M (Option Int)
  | .nil, _ => M.ret none
  | .cons a _, σ => M.bind (evE C a σ) fun x => match x with
    | .int i => M.ret (some i)
    | _ => M.bad
  | _, _ => M.bad
/-- a clause's test -/
def evC (C : Cf) : IE → Ev → M Bool
  | .nil, _ => M.ret true
  | .cons a _, σ => M.bind (evE C a σ) truthM
  | _, _ => M.bad
/-- what is walked -/
def evI (C : Cf) : IE → Ev → M Src
  | .rng1 a, σ => M.bind (evE C a σ) fun x => match x with
    | .int j => if -big62 ≤ j ∧ j < big62 then M.ret (.xs (rngD 0 j.toNat)) else M.bad
    | _ => M.bad
  | .rng2 a b, σ => M.bind (evE C a σ) fun x => M.bind (evE C b σ) fun y => match x, y with
    | .int i, .int j => if -big62 ≤ i ∧ i < big62 ∧ -big62 ≤ j ∧ j < big62 then M.ret (.xs (rngD i (j - i).toNat)) else M.bad
    | _, _ => M.bad
  | .rng3 a b k, σ => M.bind (evE C a σ) fun x => M.bind (evE C b σ) fun y => match x, y with
    | .int i, .int j => if -big62 ≤ i ∧ i < big62 ∧ -big62 ≤ j ∧ j < big62 ∧ 0 < k ∧ k < 1000000 then M.ret (.xs (rngK i k (rngN i j k))) else M.bad
    | _, _ => M.bad
  | .enum a, σ => M.bind (evE C a σ) fun x => match enumV x with
    | some xs => M.ret (.xs (enumD 0 xs))
    | none => M.bad
  | .zip a b, σ => M.bind (evE C a σ) fun x => M.bind (evE C b σ) fun y => M.opt (zipS x y)
  | .cons a _, σ => M.bind (evE C a σ) fun x => M.opt (srcD x)
  | _, _ => M.bad
end
/-- as a test -/
def evT (C : Cf) (e : IE) (σ : Ev) : M Bool := M.bind (evE C e σ) truthM
/-! ### statements -/
inductive Fl where
  | nx (σ : Ev) | rt (d : D) | bk (σ : Ev) | ct (σ : Ev) | xc (c : Nat) (as : List D) (σ : Ev)
/-- an expression within a statement: an error is kept with the slots -/
def liftE {α : Type} (f : M α) (σ : Ev) (k : α → M Fl) : M Fl := fun S => match f S with
  | .ok a S' => k a S'
  | .exc c as S' => .ok (.xc c as σ) S'
  | .bad => .bad
def forL (f : D → Ev → M Fl) : List D → Ev → M Fl
  | [], σ => M.ret (.nx σ)
  | x :: r, σ => M.bind (f x σ) fun o => match o with
    | .nx σ' => forL f r σ'
    | .ct σ' => forL f r σ'
    | .bk σ' => M.ret (.nx σ')
    | .rt d => M.ret (.rt d)
    | .xc c as σ' => M.ret (.xc c as σ')
/-- over a cell as it stands at each turn -/
def forN (f : D → Ev → M Fl) (n : Nat) : Nat → Nat → Ev → M Fl
  | 0, _, _ => M.bad
  | k + 1, i, σ => fun S => match lstOf S (.cell n) with
    | none => .bad
    | some xs => match xs[i]? with
      | none => .ok (.nx σ) S
      | some x => M.bind (f x σ) (fun o => match o with
        | .nx σ' => forN f n k (i + 1) σ'
        | .ct σ' => forN f n k (i + 1) σ'
        | .bk σ' => M.ret (.nx σ')
        | .rt d => M.ret (.rt d)
        | .xc c as σ' => M.ret (.xc c as σ')) S
def whlN (c : Ev → M Bool) (f : Ev → M Fl) : Nat → Ev → M Fl
  | 0, _ => M.bad
  | k + 1, σ => liftE (c σ) σ fun t => if t then M.bind (f σ) fun o => match o with
      | .nx σ' => whlN c f k σ'
      | .ct σ' => whlN c f k σ'
      | .bk σ' => M.ret (.nx σ')
      | .rt d => M.ret (.rt d)
      | .xc c as σ' => M.ret (.xc c as σ')
    else M.ret (.nx σ)
/-- x[i] = v -/
def putD (S : Store) (x i v : D) : Option Store := match x, i with
  | .cell n, .int k => match S[n]? with
    | some (.lst ys) => if k < 0 then (if 0 ≤ k + ys.length then some (S.set n (.lst (ys.set (k + ys.length).toNat v))) else none)
        else if k < ys.length then some (S.set n (.lst (ys.set k.toNat v))) else none
    | none => none
  | _, _ => none
def putM (x i v : D) : M Unit := fun S => match putD S x i v with
  | some S' => .ok () S'
  | none => .bad
/-- an item of a cell's list -/
def cellIx (S : Store) (x i : D) : Option D := match x, i with
  | .cell n, .int k => match S[n]? with
    | some (.lst xs) => ixL xs k
    | none => none
  | _, _ => none
/-- x op= y, of ints -/
def augM (o : Bo) (x y : D) : M D := match o, x, y with
  | .add, .int i, .int j => M.ret (.int (i + j))
  | .sub, .int i, .int j => M.ret (.int (i - j))
  | _, _, _ => M.bad
mutual
/-- an error's fields in a suite -/
def evH (c : Nat) (as : List D) : HE → Option D
  | .lit d => some d
  | .fld c' k => if c' = c then as[k]? else none
  | .tup es => match evHs c as es with
    | some xs => if xs.length ≤ SL then some (.tup xs) else none
    | none => none
  | _ => none
def evHs (c : Nat) (as : List D) : HE → Option (List D)
  | .nil => some []
  | .cons a r => match evH c as a, evHs c as r with
    | some x, some xs => some (x :: xs)
    | _, _ => none
  | _ => none
end
def wipeO (σ : Ev) : Option Nat → Ev
  | none => σ
  | some i => σ.set i none
def hdS : List Hnd → Nat → List D → Ev → M Fl
  | [], c, as, σ => M.ret (.xc c as σ)
  | h :: r, c, as, σ => if h.cs.contains c then (match h.body with
      | .ret e => (match evH c as e with
        | some d => M.ret (.rt d)
        | none => M.bad)
      | .set i e => (match evH c as e with
        | some d => M.ret (.nx (wipeO ((wipeO σ h.nm).set i (some d)) h.nm))
        | none => M.bad))
    else hdS r c as σ
/-- an item to its target, then the body -/
def patB (p : Pat) (k : Ev → M Fl) (x : D) (σ : Ev) : M Fl := fun S => match patE p x S σ with
  | some σ' => k σ' S
  | none => .bad
def exS (C : Cf) : IS → Ev → M Fl
  | .skip, σ => M.ret (.nx σ)
  | .seq a b, σ => M.bind (exS C a σ) fun o => match o with
    | .nx σ' => exS C b σ'
    | o => M.ret o
  | .ex e, σ => liftE (evE C e σ) σ fun _ => M.ret (.nx σ)
  | .set i e, σ => liftE (evE C e σ) σ fun x => M.ret (.nx (σ.set i (some x)))
  | .setP is e, σ => liftE (evE C e σ) σ fun x => patB (.tp is) (fun σ' => M.ret (.nx σ')) x σ
  | .par is es, σ => liftE (evA C es σ) σ fun xs => patB (.tp is) (fun σ' => M.ret (.nx σ')) (.tup xs) σ
  | .put a i e, σ => liftE (evE C e σ) σ fun v => liftE (evE C a σ) σ fun x => liftE (evE C i σ) σ fun k => liftE (putM x k v) σ fun _ => M.ret (.nx σ)
  | .aug o i e, σ => liftE (M.opt (σ[i]?.join)) σ fun x => liftE (evE C e σ) σ fun y => liftE (augM o x y) σ fun z => M.ret (.nx (σ.set i (some z)))
  | .ite c a b, σ => liftE (evT C c σ) σ fun t => if t then exS C a σ else exS C b σ
  | .whl c b, σ => whlN (fun σ => evT C c σ) (fun σ => exS C b σ) C.fuel σ
  | .for p it b, σ => liftE (evI C it σ) σ fun s => match s with
    | .xs xs => forL (patB p fun σ' => exS C b σ') xs σ
    | .cl n => forN (patB p fun σ' => exS C b σ') n C.fuel 0 σ
  | .ret e, σ => liftE (evE C e σ) σ fun x => M.ret (.rt x)
  | .retN, _ => M.ret (.rt .non)
  | .brk, σ => M.ret (.bk σ)
  | .cnt, σ => M.ret (.ct σ)
  | .augS o a i e, σ => liftE (evE C a σ) σ fun x => liftE (evE C i σ) σ fun k => fun S => match cellIx S x k with
    | some v => liftE (evE C e σ) σ (fun y => liftE (augM o v y) σ fun z => liftE (putM x k z) σ fun _ => M.ret (.nx σ)) S
    | none => .bad
  | .rse c n es, σ => if 2 ≤ C.lv then liftE (evA C es σ) σ fun xs => if xs.length = n then M.ret (.xc c xs σ) else M.bad else M.bad
  | .try b hs, σ => M.bind (exS C b σ) fun o => match o with
    | .xc c as σ' => hdS hs c as σ'
    | o => M.ret o

/-! ### calls -/
structure Fn where
  np : Nat
  nl : Nat
  keep : Bool
  body : IS
mutual
def D.sub (g : Nat → Option D) : D → Option D
  | .tup xs => (D.subs g xs).map .tup
  | .lst xs => (D.subs g xs).map .lst
  | .ro xs => (D.subs g xs).map .ro
  | .cell n => g n
  | d => some d
def D.subs (g : Nat → Option D) : List D → Option (List D)
  | [] => some []
  | x :: xs => match D.sub g x, D.subs g xs with
    | some y, some ys => some (y :: ys)
    | _, _ => none
end
/-- cells from k on become what they hold; l: how deep -/
def frz (k : Nat) (S : Store) : Nat → D → Option D
  | 0 => D.sub fun n => if n < k then some (.cell n) else none
  | l + 1 => D.sub fun n => if n < k then some (.cell n) else match S[n]? with
    | some (.lst xs) => (xs.mapM (frz k S l)).map .lst
    | none => none
def frzC (k : Nat) (S : Store) : Cell → Option Cell
  | .lst xs => (xs.mapM (frz k S 4)).map .lst
def frzS (k : Nat) (S : Store) : Option Store := (S.take k).mapM (frzC k S)
/-- at a def's end: the own cells are let go -/
def leave (k : Nat) (d : D) (S : Store) : Res D := match frz k S 4 d, frzS k S with
  | some d', some S' => .ok d' S'
  | _, _ => .bad
/-- how many of the caller's cells a call is shown -/
def shown (xs : List D) (S : Store) : Nat := if D.tops xs ≤ S.length ∧ (S.take (D.tops xs)).all (Cell.topB (D.tops xs)) = true then D.tops xs else S.length
def runFn (C : Cf) (fn : Fn) (xs : List D) : M D := fun S =>
  match exS C fn.body (xs.map some ++ List.replicate (fn.nl - fn.np) none) S with
  | .ok (.rt d) S' => .ok d S'
  | .ok (.nx _) S' => .ok .non S'
  | .ok (.xc c as _) S' => .exc c as S'
  | .ok _ _ => .bad
  | .exc _ _ _ => .bad
  | .bad => .bad
def callFn (C : Cf) (fn : Fn) (xs : List D) : M D := fun S =>
  if fn.keep then runFn C fn xs S
  else match runFn C fn xs (S.take (shown xs S)) with
    | .ok d S' => (match frz (shown xs S) S' 4 d, frzS (shown xs S) S' with
      | some d', some S'' => .ok d' (S'' ++ S.drop (shown xs S))
      | _, _ => .bad)
    | .exc c as S' => (match as.mapM (frz (shown xs S) S' 4), frzS (shown xs S) S' with
      | some as', some S'' => .exc c as' (S'' ++ S.drop (shown xs S))
      | _, _ => .bad)
    | .bad => .bad
def callF (P : List Fn) (fuel : Nat) : Nat → Nat → List D → M D
  | 0, _, _ => M.bad
  | l + 1, f, xs => match P[f]? with
    | none => M.bad
    | some fn => if xs.length = fn.np then callFn ⟨callF P fuel l, fuel, l⟩ fn xs else M.bad
end Fb
set_option linter.all false
set_option maxRecDepth 100000
set_option maxHeartbeats 1000000
/-! Pw: weakest preconditions of the evaluator. -/
namespace Fb
def W {α : Type} (f : M α) (S : Store) (Q : α → Store → Prop) (E : Nat → List D → Store → Prop) : Prop := match f S with
  | .ok a S' => Q a S'
  | .exc c as S' => E c as S'
  | .bad => False
abbrev NE : Nat → List D → Store → Prop := fun _ _ _ => False
section
variable {α β : Type} {f : M α} {g : α → M β} {S S' : Store} {E : Nat → List D → Store → Prop}
theorem W_bind {Q : β → Store → Prop} : W (M.bind f g) S Q E ↔ W f S (fun a S1 => W (g a) S1 Q E) E := by
  unfold W M.bind
  cases f S <;> rfl
theorem W_ret {a : α} {Q : α → Store → Prop} : W (M.ret a) S Q E ↔ Q a S := Iff.rfl
theorem W_bad {Q : α → Store → Prop} : W (M.bad : M α) S Q E ↔ False := Iff.rfl
theorem W_opt {o : Option α} {Q : α → Store → Prop} : W (M.opt o) S Q E ↔ ∃ a, o = some a ∧ Q a S := by
  cases o with
  | none => exact ⟨fun h => h.elim, fun ⟨_, h, _⟩ => by cases h⟩
  | some a => exact ⟨fun h => ⟨a, rfl, h⟩, fun ⟨_, h, q⟩ => by cases h; exact q⟩
theorem W_optS {o : Store → Option α} {Q : α → Store → Prop} : W (fun S => M.opt (o S) S) S Q E ↔ ∃ a, o S = some a ∧ Q a S := W_opt (o := o S) (S := S)
theorem W_ok {o : Store → α} {Q : α → Store → Prop} : W (fun S => .ok (o S) S) S Q E ↔ Q (o S) S := Iff.rfl
theorem W_mono {Q Q' : α → Store → Prop} {E' : Nat → List D → Store → Prop} (h : W f S Q E) (hq : ∀ a S, Q a S → Q' a S) (he : ∀ c as S, E c as S → E' c as S) : W f S Q' E' := by
  unfold W at *
  cases q : f S with
  | ok a S' => rw [q] at h; exact hq _ _ h
  | exc c as S' => rw [q] at h; exact he _ _ _ h
  | bad => rw [q] at h; exact h
theorem W_mono' {Q Q' : α → Store → Prop} (h : W f S Q NE) (hq : ∀ a S, Q a S → Q' a S) : W f S Q' E := W_mono h hq fun _ _ _ z => z.elim
theorem W_eq {a : α} {Q : α → Store → Prop} (h : f S = .ok a S') (q : Q a S') : W f S Q E := by unfold W; rw [h]; exact q
theorem W_eq_iff {a : α} {Q : α → Store → Prop} (h : f S = .ok a S') : W f S Q E ↔ Q a S' := by unfold W; rw [h]
theorem W_get {Q : α → Store → Prop} (h : W f S Q NE) : ∃ a S', f S = .ok a S' ∧ Q a S' := by
  unfold W at h
  cases q : f S with
  | ok a S' => rw [q] at h; exact ⟨a, S', rfl, h⟩
  | exc c as S' => rw [q] at h; exact h.elim
  | bad => rw [q] at h; exact h.elim
theorem W_lift {σ : Ev} {k : α → M Fl} {Q : Fl → Store → Prop} : W (liftE f σ k) S Q E ↔ W f S (fun a S1 => W (k a) S1 Q E) (fun c as S1 => Q (.xc c as σ) S1) := by
  unfold W liftE
  cases f S <;> rfl
theorem W_seq {C : Cf} {a b : IS} {σ : Ev} {Q : Fl → Store → Prop} : W (exS C (.seq a b) σ) S Q E ↔ W (exS C a σ) S (fun o S1 => match o with
    | .nx σ' => W (exS C b σ') S1 Q E
    | o => Q o S1) E := by
  show W (M.bind (exS C a σ) _) S Q E ↔ _
  rw [W_bind]
  unfold W
  cases exS C a σ S with
  | ok o S1 => cases o <;> rfl
  | exc => rfl
  | bad => rfl
/-- a for over data, with an invariant by the items left -/
theorem W_forL {f : D → Ev → M Fl} {Q : Fl → Store → Prop} (I : List D → Ev → Store → Prop) :
    ∀ {xs : List D} {σ : Ev} {S : Store}, I xs σ S → (∀ x r σ S, I (x :: r) σ S → W (f x σ) S (fun o S1 => match o with
      | .nx σ' => I r σ' S1
      | .ct σ' => I r σ' S1
      | .bk σ' => Q (.nx σ') S1
      | .rt d => Q (.rt d) S1
      | .xc c as σ' => Q (.xc c as σ') S1) E) → (∀ σ S, I [] σ S → Q (.nx σ) S) → W (forL f xs σ) S Q E
  | [], σ, S, h, _, he => he σ S h
  | x :: r, σ, S, h, hs, he => by
    show W (M.bind (f x σ) _) S Q E
    rw [W_bind]
    have h1 := hs x r σ S h
    unfold W at h1
    show W (f x σ) S _ E
    unfold W
    cases q : f x σ S with
    | bad => rw [q] at h1; exact h1
    | exc c as S1 => rw [q] at h1; exact h1
    | ok o S1 =>
      rw [q] at h1
      cases o with
      | nx σ' => exact W_forL I h1 hs he
      | ct σ' => exact W_forL I h1 hs he
      | bk σ' => exact h1
      | rt d => exact h1
      | xc c as σ' => exact h1
/-- a comprehension's loop over data: items, elements so far, left -/
theorem W_compM {f : D → M (Option D)} {Q : List D → Store → Prop} (I : List D → List D → Store → Prop) :
    ∀ {xs acc : List D} {S : Store} {k : Nat}, I xs acc S → k = acc.length → (∀ x r acc S, I (x :: r) acc S → W (f x) S (fun o S1 => match o with
      | none => I r acc S1
      | some y => acc.length < SL ∧ I r (acc ++ [y]) S1) E) → (∀ acc S, I [] acc S → Q acc S) → W (compM f xs k) S (fun ys S1 => Q (acc ++ ys) S1) E
  | [], acc, S, k, h, _, _, he => by
    show Q (acc ++ []) S
    rw [List.append_nil]; exact he acc S h
  | x :: r, acc, S, k, h, hk, hs, he => by
    show W (M.bind (f x) _) S _ E
    rw [W_bind]
    have h1 := hs x r acc S h
    unfold W at h1
    show W (f x) S _ E
    unfold W
    cases q : f x S with
    | bad => rw [q] at h1; exact h1
    | exc c as S1 => rw [q] at h1; exact h1
    | ok o S1 =>
      rw [q] at h1
      cases o with
      | none => exact W_compM I h1 hk hs he
      | some y =>
        have h1 : acc.length < SL ∧ I r (acc ++ [y]) S1 := h1
        show W (if k < SL then M.bind (compM f r (k + 1)) fun ys => M.ret (y :: ys) else M.bad) S1 _ E
        rw [hk, if_pos h1.1, W_bind]
        have h2 := W_compM (Q := Q) I (k := acc.length + 1) h1.2 (by simp) hs he
        refine W_mono h2 (fun ys S2 q2 => ?_) fun _ _ _ z => z
        show Q (acc ++ (y :: ys)) S2
        rw [List.append_assoc] at q2
        exact q2
theorem W_comp {f : D → M (Option D)} {Q : List D → Store → Prop} (I : List D → List D → Store → Prop) {xs : List D} {S : Store} (h0 : I xs [] S) (hs : ∀ x r acc S, I (x :: r) acc S → W (f x) S (fun o S1 => match o with
      | none => I r acc S1
      | some y => acc.length < SL ∧ I r (acc ++ [y]) S1) E) (he : ∀ acc S, I [] acc S → Q acc S) : W (compM f xs 0) S Q E := by
  have h := W_compM (Q := Q) I (acc := []) (k := 0) h0 rfl hs he
  simpa using h
/-- an element with its exceptions barred -/
theorem W_nox {Q : α → Store → Prop} : W (M.nox f) S Q E ↔ W f S Q NE := by
  unfold W M.nox
  cases f S <;> rfl
end
/-! ### calls -/
theorem callF_succ {fs : List Fn} {fuel l f : Nat} {fn : Fn} {xs : List D} (h : fs[f]? = some fn) (hl : xs.length = fn.np) : callF fs fuel (l + 1) f xs = callFn ⟨callF fs fuel l, fuel, l⟩ fn xs := by
  show (match fs[f]? with
    | none => M.bad
    | some fn => if xs.length = fn.np then callFn ⟨callF fs fuel l, fuel, l⟩ fn xs else M.bad) = _
  rw [h]
  exact if_pos hl
/-- a body's ends -/
def EndR (Q : D → Store → Prop) (E : Nat → List D → Store → Prop) : Fl → Store → Prop
  | .rt d, S => Q d S
  | .nx _, S => Q .non S
  | .xc c as _, S => E c as S
  | _, _ => False
theorem W_run {C : Cf} {fn : Fn} {xs : List D} {S : Store} {Q : D → Store → Prop} {E : Nat → List D → Store → Prop} (h : W (exS C fn.body (xs.map some ++ List.replicate (fn.nl - fn.np) none)) S (EndR Q E) NE) : W (runFn C fn xs) S Q E := by
  unfold W at *
  unfold runFn
  cases q : exS C fn.body (xs.map some ++ List.replicate (fn.nl - fn.np) none) S with
  | bad => rw [q] at h; exact h
  | exc => rw [q] at h; exact h.elim
  | ok o S1 =>
    rw [q] at h
    cases o with
    | nx => exact h
    | rt => exact h
    | xc => exact h
    | bk => exact h.elim
    | ct => exact h.elim
/-! ### what is frozen -/
mutual
/-- cells below k alone -/
def D.low (k : Nat) : D → Bool
  | .tup xs => D.lows k xs
  | .lst xs => D.lows k xs
  | .ro xs => D.lows k xs
  | .cell n => decide (n < k)
  | _ => true
def D.lows (k : Nat) : List D → Bool
  | [] => true
  | x :: xs => D.low k x && D.lows k xs
end
mutual
theorem sub_low {k : Nat} {g : Nat → Option D} (hg : ∀ n, n < k → g n = some (.cell n)) : ∀ {d : D}, D.low k d = true → D.sub g d = some d
  | .non, _ => rfl
  | .bl _, _ => rfl
  | .int _, _ => rfl
  | .str _, _ => rfl
  | .tup xs, h => by show (D.subs g xs).map D.tup = _; rw [subs_low hg (show D.lows k xs = true from h)]; rfl
  | .lst xs, h => by show (D.subs g xs).map D.lst = _; rw [subs_low hg (show D.lows k xs = true from h)]; rfl
  | .ro xs, h => by show (D.subs g xs).map D.ro = _; rw [subs_low hg (show D.lows k xs = true from h)]; rfl
  | .cell n, h => hg n (of_decide_eq_true h)
theorem subs_low {k : Nat} {g : Nat → Option D} (hg : ∀ n, n < k → g n = some (.cell n)) : ∀ {ds : List D}, D.lows k ds = true → D.subs g ds = some ds
  | [], _ => rfl
  | x :: xs, h => by
    have h2 := Bool.and_eq_true_iff.mp (show (D.low k x && D.lows k xs) = true from h)
    unfold D.subs
    rw [sub_low hg h2.1, subs_low hg h2.2]
end
theorem frz_low {k : Nat} {S : Store} {d : D} (l : Nat) (h : D.low k d = true) : frz k S l d = some d := by
  cases l with
  | zero => exact sub_low (fun n hn => by simp only [hn, if_true]) h
  | succ l => exact sub_low (fun n hn => by simp only [hn, if_true]) h
def Cell.low (k : Nat) : Cell → Bool
  | .lst xs => D.lows k xs
theorem mapM_frz_low {k : Nat} {S : Store} {l : Nat} : ∀ {xs : List D}, D.lows k xs = true → xs.mapM (frz k S l) = some xs
  | [], _ => rfl
  | x :: xs, h => by
    have h2 := Bool.and_eq_true_iff.mp (show (D.low k x && D.lows k xs) = true from h)
    rw [List.mapM_cons, frz_low l h2.1, mapM_frz_low h2.2]; rfl
theorem frzC_low {k : Nat} {S : Store} {c : Cell} (h : c.low k = true) : frzC k S c = some c := by
  cases c with
  | lst xs =>
    show (xs.mapM (frz k S 4)).map Cell.lst = _
    rw [mapM_frz_low (show D.lows k xs = true from h)]; rfl
theorem mapM_id {α : Type} {f : α → Option α} : ∀ {xs : List α}, (∀ x ∈ xs, f x = some x) → xs.mapM f = some xs
  | [], _ => rfl
  | x :: xs, h => by
    rw [List.mapM_cons, h x List.mem_cons_self, mapM_id fun y hy => h y (List.mem_cons_of_mem _ hy)]; rfl
theorem frzS_low {k : Nat} {S : Store} (h : ∀ c ∈ S.take k, c.low k = true) : frzS k S = some (S.take k) := mapM_id fun c hc => frzC_low (h c hc)
mutual
theorem low_mono {k j : Nat} (hkj : k ≤ j) : ∀ {d : D}, D.low k d = true → D.low j d = true
  | .non, _ => rfl
  | .bl _, _ => rfl
  | .int _, _ => rfl
  | .str _, _ => rfl
  | .tup xs, h => lows_mono hkj (show D.lows k xs = true from h)
  | .lst xs, h => lows_mono hkj (show D.lows k xs = true from h)
  | .ro xs, h => lows_mono hkj (show D.lows k xs = true from h)
  | .cell n, h => decide_eq_true (Nat.lt_of_lt_of_le (of_decide_eq_true h) hkj)
theorem lows_mono {k j : Nat} (hkj : k ≤ j) : ∀ {ds : List D}, D.lows k ds = true → D.lows j ds = true
  | [], _ => rfl
  | x :: xs, h => by
    have h2 := Bool.and_eq_true_iff.mp (show (D.low k x && D.lows k xs) = true from h)
    exact Bool.and_eq_true_iff.mpr ⟨low_mono hkj h2.1, lows_mono hkj h2.2⟩
end
mutual
theorem low_free {k : Nat} : ∀ {d : D}, D.free d = true → D.low k d = true
  | .non, _ => rfl
  | .bl _, _ => rfl
  | .int _, _ => rfl
  | .str _, _ => rfl
  | .tup xs, h => lows_free (show D.frees xs = true from h)
  | .lst xs, h => lows_free (show D.frees xs = true from h)
  | .ro xs, h => lows_free (show D.frees xs = true from h)
  | .cell n, h => by cases h
theorem lows_free {k : Nat} : ∀ {ds : List D}, D.frees ds = true → D.lows k ds = true
  | [], _ => rfl
  | x :: xs, h => by
    have h2 := Bool.and_eq_true_iff.mp (show (D.free x && D.frees xs) = true from h)
    exact Bool.and_eq_true_iff.mpr ⟨low_free h2.1, lows_free h2.2⟩
end
mutual
theorem top_free : ∀ {d : D}, D.free d = true → D.top d = 0
  | .non, _ => rfl
  | .bl _, _ => rfl
  | .int _, _ => rfl
  | .str _, _ => rfl
  | .tup xs, h => tops_free (show D.frees xs = true from h)
  | .lst xs, h => tops_free (show D.frees xs = true from h)
  | .ro xs, h => tops_free (show D.frees xs = true from h)
  | .cell n, h => by cases h
theorem tops_free : ∀ {ds : List D}, D.frees ds = true → D.tops ds = 0
  | [], _ => rfl
  | x :: xs, h => by
    have h2 := Bool.and_eq_true_iff.mp (show (D.free x && D.frees xs) = true from h)
    show max (D.top x) (D.tops xs) = 0
    rw [top_free h2.1, tops_free h2.2]; rfl
end
theorem shown0 {xs : List D} {S : Store} (h : D.tops xs = 0) : shown xs S = 0 := by
  unfold shown
  rw [h]
  exact if_pos ⟨Nat.zero_le _, rfl⟩
theorem shown1 {xs : List D} {c : Cell} {R : Store} (h : D.tops xs = 1) (hc : c.topB 1 = true) : shown xs (c :: R) = 1 := by
  unfold shown
  rw [h]
  exact if_pos ⟨by simp, by simp [hc]⟩
/-- a call of cell-free arguments, by an equation -/
theorem call_freeZ {C : Cf} {fn : Fn} {xs : List D} {S S' : Store} {d d' : D} (hk : fn.keep = false) (hf : D.tops xs = 0) (h : exS C fn.body (xs.map some ++ List.replicate (fn.nl - fn.np) none) [] = .ok (.rt d) S') (hz : frz 0 S' 4 d = some d') : callFn C fn xs S = .ok d' S := by
  unfold callFn runFn
  rw [hk, shown0 hf]
  simp only [Bool.false_eq_true, if_false, List.take_zero, List.drop_zero, h, hz, frzS]
  rfl
theorem call_freeE {C : Cf} {fn : Fn} {xs : List D} {S S' : Store} {d : D} (hk : fn.keep = false) (hf : D.tops xs = 0) (hd : D.free d = true) (h : exS C fn.body (xs.map some ++ List.replicate (fn.nl - fn.np) none) [] = .ok (.rt d) S') : callFn C fn xs S = .ok d S :=
  call_freeZ hk hf h (frz_low 4 (low_free hd))
/-- .. that raises -/
theorem call_freeX {C : Cf} {fn : Fn} {xs : List D} {S S' : Store} {c : Nat} {as : List D} {σ : Ev} (hk : fn.keep = false) (hf : D.tops xs = 0) (hd : D.frees as = true) (h : exS C fn.body (xs.map some ++ List.replicate (fn.nl - fn.np) none) [] = .ok (.xc c as σ) S') : callFn C fn xs S = .exc c as S := by
  unfold callFn runFn
  rw [hk, shown0 hf]
  simp only [Bool.false_eq_true, if_false, List.take_zero, List.drop_zero, h, mapM_frz_low (lows_free (k := 0) hd), frzS]
  rfl
/-- a call that is handed the cell 0 -/
theorem call_oneZ {C : Cf} {fn : Fn} {xs : List D} {c c' : Cell} {R S1 : Store} {d d' : D} (hk : fn.keep = false) (ht : D.tops xs = 1) (hc : c.topB 1 = true) (h : exS C fn.body (xs.map some ++ List.replicate (fn.nl - fn.np) none) [c] = .ok (.rt d) (c' :: S1))
    (hd : frz 1 (c' :: S1) 4 d = some d') (hl : c'.low 1 = true) : callFn C fn xs (c :: R) = .ok d' (c' :: R) := by
  have e : frzS 1 (c' :: S1) = some [c'] := by
    have := frzS_low (k := 1) (S := c' :: S1) fun z hz => by
      have : z = c' := by simpa using hz
      rw [this]; exact hl
    simpa using this
  unfold callFn runFn
  rw [hk, shown1 ht hc]
  simp only [Bool.false_eq_true, if_false, List.take_succ_cons, List.take_zero, List.drop_succ_cons, List.drop_zero, h, hd, e]
  rfl
theorem call_oneE {C : Cf} {fn : Fn} {xs : List D} {c c' : Cell} {R S1 : Store} {d : D} (hk : fn.keep = false) (ht : D.tops xs = 1) (hc : c.topB 1 = true) (h : exS C fn.body (xs.map some ++ List.replicate (fn.nl - fn.np) none) [c] = .ok (.rt d) (c' :: S1))
    (hd : d.low 1 = true) (hl : c'.low 1 = true) : callFn C fn xs (c :: R) = .ok d (c' :: R) := call_oneZ hk ht hc h (frz_low 4 hd) hl
theorem shown2 {xs : List D} {c0 c : Cell} {R : Store} (h : D.tops xs = 2) (h0 : c0.topB 2 = true) (hc : c.topB 2 = true) : shown xs (c0 :: c :: R) = 2 := by
  unfold shown
  rw [h]
  exact if_pos ⟨by simp, by simp [h0, hc]⟩
/-- a call that is handed the cell 1, which may name the cell 0 -/
theorem call_twoZ {C : Cf} {fn : Fn} {xs : List D} {c0 c0' c c' : Cell} {R S1 : Store} {d d' : D} (hk : fn.keep = false) (ht : D.tops xs = 2) (h0 : c0.topB 2 = true) (hc : c.topB 2 = true) (h : exS C fn.body (xs.map some ++ List.replicate (fn.nl - fn.np) none) [c0, c] = .ok (.rt d) (c0' :: c' :: S1))
    (hd : frz 2 (c0' :: c' :: S1) 4 d = some d') (hl0 : c0'.low 2 = true) (hl : c'.low 2 = true) : callFn C fn xs (c0 :: c :: R) = .ok d' (c0' :: c' :: R) := by
  have e : frzS 2 (c0' :: c' :: S1) = some [c0', c'] := by
    have := frzS_low (k := 2) (S := c0' :: c' :: S1) fun z hz => by
      have : z = c0' ∨ z = c' := by simpa using hz
      rcases this with rfl | rfl
      · exact hl0
      · exact hl
    simpa using this
  unfold callFn runFn
  rw [hk, shown2 ht h0 hc]
  simp only [Bool.false_eq_true, if_false, List.take_succ_cons, List.take_zero, List.drop_succ_cons, List.drop_zero, h, hd, e]
  rfl
/-- a cell of cell-free items is frozen to a list -/
theorem frz_cell {k : Nat} {S : Store} {n : Nat} {xs : List D} (l : Nat) (hn : k ≤ n) (h : S[n]? = some (.lst xs)) (hf : D.frees xs = true) : frz k S (l + 1) (.cell n) = some (.lst xs) := by
  show (if n < k then some (D.cell n) else match S[n]? with
    | some (.lst xs) => (xs.mapM (frz k S l)).map D.lst
    | none => none) = _
  rw [if_neg (by omega), h]
  simp only [mapM_frz_low (lows_free (k := k) hf)]
  rfl
theorem call_keepE {C : Cf} {fn : Fn} {xs : List D} {S S' : Store} {d : D} (hk : fn.keep = true) (h : exS C fn.body (xs.map some ++ List.replicate (fn.nl - fn.np) none) S = .ok (.rt d) S') : callFn C fn xs S = .ok d S' := by
  unfold callFn runFn
  rw [hk, h]
  rfl
theorem perm_erase {α : Type} {l : List α} {i : Nat} (h : i < l.length) : (l[i] :: l.eraseIdx i).Perm l := by
  have e : l = l.take i ++ l[i] :: l.drop (i + 1) := by
    rw [← List.drop_eq_getElem_cons h, List.take_append_drop]
  rw [List.eraseIdx_eq_take_drop_succ]
  exact List.perm_middle.symm.trans (List.Perm.of_eq e.symm)
end Fb
set_option linter.all false
set_option maxRecDepth 100000
set_option maxHeartbeats 1000000
/-! Sx: the evaluator run by simp on terms whose shape is known. -/
namespace Fb
section
variable {α β : Type} {C : Cf} {σ : Ev} {S S' : Store}
def Res.bnd (r : Res α) (g : α → M β) : Res β := match r with
  | .ok a S' => g a S'
  | .exc c as S' => .exc c as S'
  | .bad => .bad
def Res.lft (r : Res α) (σ : Ev) (g : α → M Fl) : Res Fl := match r with
  | .ok a S' => g a S'
  | .exc c as S' => .ok (.xc c as σ) S'
  | .bad => .bad
def Res.sqn (r : Res Fl) (g : Ev → M Fl) : Res Fl := match r with
  | .ok (.nx σ) S' => g σ S'
  | .ok o S' => .ok o S'
  | .exc c as S' => .exc c as S'
  | .bad => .bad
@[simp] theorem bnd_ok {a : α} {g : α → M β} : Res.bnd (.ok a S) g = g a S := (rfl)
@[simp] theorem lft_ok {a : α} {g : α → M Fl} : Res.lft (.ok a S) σ g = g a S := (rfl)
@[simp] theorem sqn_nx {δ : Ev} {g : Ev → M Fl} : Res.sqn (.ok (.nx δ) S) g = g δ S := (rfl)
@[simp] theorem sqn_rt {d : D} {g : Ev → M Fl} : Res.sqn (.ok (.rt d) S) g = .ok (.rt d) S := (rfl)
@[simp] theorem bind_bnd {f : M α} {g : α → M β} : M.bind f g S = Res.bnd (f S) g := (rfl)
@[simp] theorem lift_lft {f : M α} {k : α → M Fl} : liftE f σ k S = Res.lft (f S) σ k := (rfl)
@[simp] theorem ret_ok {a : α} : M.ret a S = .ok a S := (rfl)
@[simp] theorem opt_some {a : α} : M.opt (some a) S = .ok a S := (rfl)
@[simp] theorem x_lit {d : D} : evE C (.lit d) σ S = .ok d S := (rfl)
@[simp] theorem x_glo {x : List Nat} {d : D} : evE C (.glo x d) σ S = .ok d S := (rfl)
@[simp] theorem x_var {i : Nat} : evE C (.var i) σ S = M.opt (σ[i]?.join) S := (rfl)
@[simp] theorem x_bin {o : Bo} {a b : IE} : evE C (.bin o a b) σ S = Res.bnd (evE C a σ S) fun x => M.bind (evE C b σ) fun y => binM o x y := (rfl)
@[simp] theorem x_not {a : IE} : evE C (.not a) σ S = Res.bnd (evT C a σ S) fun b => M.ret (.bl !b) := (rfl)
@[simp] theorem x_and {a b : IE} : evE C (.and a b) σ S = Res.bnd (evE C a σ S) fun x => M.bind (truthM x) fun t => if t then evE C b σ else M.ret x := (rfl)
@[simp] theorem x_or {a b : IE} : evE C (.or a b) σ S = Res.bnd (evE C a σ S) fun x => M.bind (truthM x) fun t => if t then M.ret x else evE C b σ := (rfl)
@[simp] theorem x_ite {c a b : IE} : evE C (.ite c a b) σ S = Res.bnd (evT C c σ S) fun t => if t then evE C a σ else evE C b σ := (rfl)
@[simp] theorem x_evT {a : IE} : evT C a σ S = Res.bnd (evE C a σ S) truthM := (rfl)
@[simp] theorem x_cmp {o : Co} {a b : IE} : evE C (.cmp o a b) σ S = Res.bnd (evE C a σ S) fun x => M.bind (evE C b σ) fun y => M.bind (cmpM o x y) fun t => M.ret (.bl t) := (rfl)
@[simp] theorem x_tup {es : IE} : evE C (.tup es) σ S = Res.bnd (evA C es σ S) fun xs => if xs.length ≤ SL then M.ret (.tup xs) else M.bad := (rfl)
@[simp] theorem x_lst {es : IE} : evE C (.lst es) σ S = Res.bnd (evA C es σ S) fun xs => if xs.length ≤ SL then M.ret (.lst xs) else M.bad := (rfl)
@[simp] theorem x_idx {a b : IE} : evE C (.idx a b) σ S = Res.bnd (evE C a σ S) fun x => M.bind (evE C b σ) fun y => idxM x y := (rfl)
@[simp] theorem x_sli {a lo hi : IE} : evE C (.sli a lo hi) σ S = Res.bnd (evE C a σ S) fun x => M.bind (evP C lo σ) fun l => M.bind (evP C hi σ) fun h => fun S => M.opt (cutD S x l h) S := (rfl)
@[simp] theorem x_call {f : Nat} {es : IE} : evE C (.call f es) σ S = Res.bnd (evA C es σ S) fun xs => C.call f xs := (rfl)
@[simp] theorem x_blt {b : Bt} {es : IE} : evE C (.blt b es) σ S = Res.bnd (evA C es σ S) fun xs => fun S => M.opt (bltD S b xs) S := (rfl)
@[simp] theorem x_isi {a : IE} {t : List Ty} : evE C (.isi a t) σ S = Res.bnd (evE C a σ S) fun x => fun S => .ok (.bl (t.any (D.isTy S x))) S := (rfl)
@[simp] theorem x_mth {m : Mt} {a es : IE} : evE C (.mth m a es) σ S = Res.bnd (evE C a σ S) fun x => if recvOk m x then M.bind (evA C es σ) fun xs => fun S => match mthD S m x xs with
    | some (d, S') => .ok d S'
    | none => .bad
    else M.bad := (rfl)
@[simp] theorem x_alloc {a : IE} : evE C (.alloc a) σ S = Res.bnd (evE C a σ S) allocM := (rfl)
@[simp] theorem x_nil : evA C .nil σ S = .ok [] S := (rfl)
@[simp] theorem x_cons {a r : IE} : evA C (.cons a r) σ S = Res.bnd (evE C a σ S) fun x => M.bind (evA C r σ) fun xs => M.ret (x :: xs) := (rfl)
@[simp] theorem x_pnil : evP C .nil σ S = .ok none S := (rfl)
@[simp] theorem x_pcons {a r : IE} : evP C (.cons a r) σ S = Res.bnd (evE C a σ S) fun x => match x with
    | .int i => M.ret (some i)
    | _ => M.bad := (rfl)
@[simp] theorem x_cnil : evC C .nil σ S = .ok true S := (rfl)
@[simp] theorem x_ccons {a r : IE} : evC C (.cons a r) σ S = Res.bnd (evE C a σ S) truthM := (rfl)
@[simp] theorem x_ival {a r : IE} : evI C (.cons a r) σ S = Res.bnd (evE C a σ S) fun x => M.opt (srcD x) := (rfl)
@[simp] theorem x_comp {own : List Nat} {p : Pat} {it c e : IE} : evE C (.comp own p it c e) σ S = Res.bnd (evI C it σ S) fun s =>
      M.bind (compS (fun x => M.nox fun S => match patE p x S (wipeE σ own) with
        | none => .bad
        | some σ' => M.bind (evC C c σ') (fun t => if t then M.bind (evE C e σ') fun y => M.ret (some y) else M.ret none) S) C.fuel s) fun ys => M.ret (.lst ys) := (rfl)
@[simp] theorem x_skip : exS C .skip σ S = .ok (.nx σ) S := (rfl)
@[simp] theorem x_seq {a b : IS} : exS C (.seq a b) σ S = Res.sqn (exS C a σ S) fun σ' => exS C b σ' := by
  show M.bind (exS C a σ) _ S = _
  unfold M.bind Res.sqn
  cases exS C a σ S with
  | ok o S1 => cases o <;> rfl
  | exc => rfl
  | bad => rfl
@[simp] theorem x_ex {e : IE} : exS C (.ex e) σ S = Res.lft (evE C e σ S) σ fun _ => M.ret (.nx σ) := (rfl)
@[simp] theorem x_set {i : Nat} {e : IE} : exS C (.set i e) σ S = Res.lft (evE C e σ S) σ fun x => M.ret (.nx (σ.set i (some x))) := (rfl)
@[simp] theorem x_setP {is : List Nat} {e : IE} : exS C (.setP is e) σ S = Res.lft (evE C e σ S) σ fun x => patB (.tp is) (fun σ' => M.ret (.nx σ')) x σ := (rfl)
@[simp] theorem x_par {is : List Nat} {es : IE} : exS C (.par is es) σ S = Res.lft (evA C es σ S) σ fun xs => patB (.tp is) (fun σ' => M.ret (.nx σ')) (.tup xs) σ := (rfl)
@[simp] theorem x_put {a i e : IE} : exS C (.put a i e) σ S = Res.lft (evE C e σ S) σ fun v => liftE (evE C a σ) σ fun x => liftE (evE C i σ) σ fun k => liftE (putM x k v) σ fun _ => M.ret (.nx σ) := (rfl)
@[simp] theorem x_sit {c : IE} {a b : IS} : exS C (.ite c a b) σ S = Res.lft (evT C c σ S) σ fun t => if t then exS C a σ else exS C b σ := (rfl)
@[simp] theorem x_for {p : Pat} {it : IE} {b : IS} : exS C (.for p it b) σ S = Res.lft (evI C it σ S) σ fun s => match s with
    | .xs xs => forL (patB p fun σ' => exS C b σ') xs σ
    | .cl n => forN (patB p fun σ' => exS C b σ') n C.fuel 0 σ := (rfl)
@[simp] theorem x_ret {e : IE} : exS C (.ret e) σ S = Res.lft (evE C e σ S) σ fun x => M.ret (.rt x) := (rfl)
@[simp] theorem x_retN : exS C .retN σ S = .ok (.rt .non) S := (rfl)
@[simp] theorem SL_val : SL = 16777216 := (rfl)
@[simp] theorem x_neg {a : IE} : evE C (.neg a) σ S = Res.bnd (evE C a σ S) fun x => match x with
    | .int i => M.ret (.int (-i))
    | _ => M.bad := (rfl)
@[simp] theorem x_chn {o o' : Co} {a b c : IE} : evE C (.chn o o' a b c) σ S = Res.bnd (evE C a σ S) fun x => M.bind (evE C b σ) fun y => M.bind (cmpM o x y) fun t =>
      if t then M.bind (evE C c σ) fun z => M.bind (cmpM o' y z) fun t' => M.ret (.bl t') else M.ret (.bl false) := (rfl)
@[simp] theorem x_rev {a : IE} : evE C (.rev a) σ S = Res.bnd (evE C a σ S) fun x => fun S => M.opt (revD S x) S := (rfl)
@[simp] theorem x_srt {a : IE} : evE C (.srt a) σ S = Res.bnd (evE C a σ S) fun x => fun S => M.opt (srtD S x) S := (rfl)
@[simp] theorem x_stp {a : IE} {lo k : Nat} : evE C (.stp a lo k) σ S = Res.bnd (evE C a σ S) fun x => fun S => M.opt (stpD S x lo k) S := (rfl)
@[simp] theorem x_isN {a : IE} : evE C (.isN a) σ S = Res.bnd (evE C a σ S) fun x => M.ret (.bl (match x with
    | .non => true
    | _ => false)) := (rfl)
@[simp] theorem x_calld {f : Nat} {a : IE} {ds : List D} : evE C (.calld f a ds) σ S = Res.bnd (evA C a σ S) fun xs => C.call f (xs ++ ds) := (rfl)
@[simp] theorem x_enum {a : IE} : evI C (.enum a) σ S = Res.bnd (evE C a σ S) fun x => match enumV x with
    | some xs => M.ret (.xs (enumD 0 xs))
    | none => M.bad := (rfl)
@[simp] theorem x_aug {o : Bo} {i : Nat} {e : IE} : exS C (.aug o i e) σ S = Res.lft (M.opt (σ[i]?.join) S) σ fun x => liftE (evE C e σ) σ fun y => liftE (augM o x y) σ fun z => M.ret (.nx (σ.set i (some z))) := (rfl)
@[simp] theorem x_rse {c n : Nat} {es : IE} (h : 2 ≤ C.lv) : exS C (.rse c n es) σ S = Res.lft (evA C es σ S) σ fun xs => if xs.length = n then M.ret (.xc c xs σ) else M.bad := by
  show (if 2 ≤ C.lv then _ else M.bad : M Fl) S = _
  rw [if_pos h]; rfl
@[simp] theorem x_brk : exS C .brk σ S = .ok (.bk σ) S := (rfl)
@[simp] theorem x_cnt : exS C .cnt σ S = .ok (.ct σ) S := (rfl)
@[simp] theorem lft_exc {α : Type} {c : Nat} {as : List D} {g : α → M Fl} : Res.lft (.exc c as S) σ g = .ok (.xc c as σ) S := (rfl)
@[simp] theorem bnd_exc {α β : Type} {c : Nat} {as : List D} {g : α → M β} : Res.bnd (.exc c as S) g = .exc c as S := (rfl)
@[simp] theorem sqn_xc {c : Nat} {as : List D} {δ : Ev} {g : Ev → M Fl} : Res.sqn (.ok (.xc c as δ) S) g = .ok (.xc c as δ) S := (rfl)
@[simp] theorem sqn_bk {δ : Ev} {g : Ev → M Fl} : Res.sqn (.ok (.bk δ) S) g = .ok (.bk δ) S := (rfl)
@[simp] theorem sqn_ct {δ : Ev} {g : Ev → M Fl} : Res.sqn (.ok (.ct δ) S) g = .ok (.ct δ) S := (rfl)
theorem x_try_ok {b : IS} {hs : List Hnd} {o : Fl} (h : exS C b σ S = .ok o S') (hx : ∀ c as δ, o ≠ .xc c as δ) : exS C (.try b hs) σ S = .ok o S' := by
  show M.bind (exS C b σ) _ S = _
  unfold M.bind
  rw [h]
  cases o <;> first | rfl | exact absurd rfl (hx _ _ _)
theorem x_try_xc {b : IS} {hs : List Hnd} {c : Nat} {as : List D} {δ : Ev} (h : exS C b σ S = .ok (.xc c as δ) S') : exS C (.try b hs) σ S = hdS hs c as δ S' := by
  show M.bind (exS C b σ) _ S = _
  unfold M.bind
  rw [h]
/-! targets -/
def setK (is : List Nat) (xs : List D) (σ : Ev) (k : Ev → M Fl) : M Fl := fun S => match setAll is xs σ with
  | some σ' => k σ' S
  | none => .bad
@[simp] theorem p_nm {i : Nat} {k : Ev → M Fl} {x : D} : patB (.nm i) k x σ S = k (σ.set i (some x)) S := (rfl)
@[simp] theorem p_tup {is : List Nat} {k : Ev → M Fl} {xs : List D} : patB (.tp is) k (.tup xs) σ S = setK is xs σ k S := (rfl)
@[simp] theorem p_lst {is : List Nat} {k : Ev → M Fl} {xs : List D} : patB (.tp is) k (.lst xs) σ S = setK is xs σ k S := (rfl)
@[simp] theorem p_cons {i : Nat} {is : List Nat} {k : Ev → M Fl} {x : D} {xs : List D} : setK (i :: is) (x :: xs) σ k S = setK is xs (σ.set i (some x)) k S := (rfl)
@[simp] theorem p_nil {k : Ev → M Fl} : setK [] [] σ k S = k σ S := (rfl)
/-! operators -/
@[simp] theorem t_bl {b : Bool} : truthM (.bl b) S = .ok b S := (rfl)
@[simp] theorem t_int {i : Int} : truthM (.int i) S = .ok (i != 0) S := (rfl)
@[simp] theorem t_tup {xs : List D} : truthM (.tup xs) S = .ok (!xs.isEmpty) S := (rfl)
@[simp] theorem t_lst {xs : List D} : truthM (.lst xs) S = .ok (!xs.isEmpty) S := (rfl)
@[simp] theorem o_addI {i j : Int} : binM .add (.int i) (.int j) S = .ok (.int (i + j)) S := (rfl)
@[simp] theorem o_subI {i j : Int} : binM .sub (.int i) (.int j) S = .ok (.int (i - j)) S := (rfl)
@[simp] theorem o_addS {a b : List Nat} (h : a.length + b.length ≤ 16777216) : binM .add (.str a) (.str b) S = .ok (.str (a ++ b)) S := by
  show M.opt (if a.length + b.length ≤ SL then _ else _) S = _
  rw [if_pos (show a.length + b.length ≤ SL from h)]; rfl
@[simp] theorem o_addT {a b : List D} (h : a.length + b.length ≤ 16777216) : binM .add (.tup a) (.tup b) S = .ok (.tup (a ++ b)) S := by
  show M.opt (if a.length + b.length ≤ SL then _ else _) S = _
  rw [if_pos (show a.length + b.length ≤ SL from h)]; rfl
@[simp] theorem o_addL {a b : List D} (h : a.length + b.length ≤ 16777216) : binM .add (.lst a) (.lst b) S = .ok (.lst (a ++ b)) S := by
  show M.opt (if a.length + b.length ≤ SL then _ else _) S = _
  rw [if_pos (show a.length + b.length ≤ SL from h)]; rfl
@[simp] theorem o_modI {i j : Int} (h : 0 < j) : binM .mod (.int i) (.int j) S = .ok (.int (i % j)) S := by
  show M.opt (if 0 < j then _ else _) S = _
  rw [if_pos h]; rfl
@[simp] theorem o_divI {i j : Int} (h : 0 < j ∧ j < 1073741824) : binM .fdiv (.int i) (.int j) S = .ok (.int (i / j)) S := by
  show M.opt (if 0 < j ∧ j < 1073741824 then _ else _) S = _
  rw [if_pos h]; rfl
@[simp] theorem o_mulI {i j : Int} (h : (-two64 < i ∧ i < two64) ∨ (-two64 < j ∧ j < two64)) : binM .mul (.int i) (.int j) S = .ok (.int (i * j)) S := by
  show M.opt (if mulOk i j = true then _ else _) S = _
  rw [if_pos (show mulOk i j = true from decide_eq_true h)]; rfl
@[simp] theorem o_idxT {xs : List D} {i : Int} (h : 0 ≤ i) : idxM (.tup xs) (.int i) S = M.opt (xs[i.toNat]?) S := by
  show M.opt (ixL xs i) S = _
  unfold ixL
  rw [if_neg (by omega)]
@[simp] theorem o_idxL {xs : List D} {i : Int} (h : 0 ≤ i) : idxM (.lst xs) (.int i) S = M.opt (xs[i.toNat]?) S := by
  show M.opt (ixL xs i) S = _
  unfold ixL
  rw [if_neg (by omega)]
@[simp] theorem o_idxR {xs : List D} {i : Int} (h : 0 ≤ i) : idxM (.ro xs) (.int i) S = M.opt (xs[i.toNat]?) S := by
  show M.opt (ixL xs i) S = _
  unfold ixL
  rw [if_neg (by omega)]
@[simp] theorem o_eqS {a b : List Nat} : cmpM .eq (.str a) (.str b) S = .ok (a == b) S := (rfl)
@[simp] theorem o_neS {a b : List Nat} : cmpM .ne (.str a) (.str b) S = .ok (!(a == b)) S := (rfl)
@[simp] theorem o_eqI {a b : Int} : cmpM .eq (.int a) (.int b) S = .ok (a == b) S := (rfl)
@[simp] theorem o_neI {a b : Int} : cmpM .ne (.int a) (.int b) S = .ok (!(a == b)) S := (rfl)
@[simp] theorem o_ltI {a b : Int} : cmpM .lt (.int a) (.int b) S = .ok (decide (a < b)) S := (rfl)
@[simp] theorem o_leI {a b : Int} : cmpM .le (.int a) (.int b) S = .ok (decide (a ≤ b)) S := (rfl)
@[simp] theorem o_gtI {a b : Int} : cmpM .gt (.int a) (.int b) S = .ok (decide (b < a)) S := (rfl)
@[simp] theorem o_geI {a b : Int} : cmpM .ge (.int a) (.int b) S = .ok (decide (b ≤ a)) S := (rfl)
@[simp] theorem o_inT {x : List Nat} {ys : List D} (h : ys.all D.flat = true) : cmpM .isIn (.str x) (.tup ys) S = .ok (memD (.str x) ys) S := by
  show M.opt (if (true && ys.all D.flat) = true then _ else _) S = _
  rw [h]; rfl
@[simp] theorem mem_str {x y : List Nat} {r : List D} : memD (.str x) (.str y :: r) = ((y == x) || memD (.str x) r) := (rfl)
@[simp] theorem mem_nil {x : D} : memD x [] = false := (rfl)
@[simp] theorem flat_str {x : List Nat} : D.flat (.str x) = true := (rfl)
end
@[simp high] theorem x_lst0 {C : Cf} {σ : Ev} {S : Store} : evE C (.lst .nil) σ S = .ok (.lst []) S := by
  rw [x_lst, x_nil, bnd_ok]
  exact congrFun (if_pos (Nat.zero_le _)) S
/-! ### lists and loops -/
inductive All2 {α β : Type} (R : α → β → Prop) : List α → List β → Prop
  | nil : All2 R [] []
  | cons {a : α} {b : β} {as : List α} {bs : List β} : R a b → All2 R as bs → All2 R (a :: as) (b :: bs)
theorem All2.len {α β : Type} {R : α → β → Prop} {as : List α} {bs : List β} (h : All2 R as bs) : as.length = bs.length := by
  induction h with
  | nil => rfl
  | cons _ _ ih => simp [ih]
theorem strs_map : ∀ zs : List (List Nat), strsOf (zs.map D.str) = some zs
  | [] => rfl
  | z :: r => by
    show (strsOf (r.map D.str)).map (z :: ·) = _
    rw [strs_map r]; rfl
theorem frees_strs : ∀ zs : List (List Nat), D.frees (zs.map D.str) = true
  | [] => rfl
  | z :: r => by show (true && D.frees (r.map D.str)) = true; rw [frees_strs r]; rfl
theorem frees_app : ∀ xs ys : List D, D.frees (xs ++ ys) = (D.frees xs && D.frees ys)
  | [], ys => by simp [D.frees]
  | x :: xs, ys => by simp [D.frees, frees_app xs ys, Bool.and_assoc]
theorem join_seq {S : Store} {s : List Nat} {d : D} {ys : List D} (zs : List (List Nat)) (hq : seqOf S d = some ys) (hy : ys = zs.map D.str) (h : (zs.map (·.length)).sum + zs.length * s.length ≤ 16777216) : mthD S .join (.str s) [d] = some (.str (joinD s zs), S) := by
  show (match seqOf S d with
    | some ys => match strsOf ys with
      | some zs => if (zs.map fun (z : List Nat) => z.length).sum + zs.length * s.length ≤ SL then some (D.str (joinD s zs), S) else none
      | none => none
    | none => none) = _
  rw [hq, hy]
  simp only [strs_map]
  exact if_pos h
theorem sum_le {zs : List (List Nat)} {b : Nat} (h : ∀ z ∈ zs, z.length ≤ b) : (zs.map (·.length)).sum ≤ b * zs.length := by
  induction zs with
  | nil => simp
  | cons z r ih =>
    have h1 := h z List.mem_cons_self
    have h2 := ih fun y hy => h y (List.mem_cons_of_mem _ hy)
    simp only [List.map_cons, List.sum_cons, List.length_cons, Nat.mul_add]
    omega
theorem join_len (s : List Nat) : ∀ zs : List (List Nat), (joinD s zs).length ≤ (zs.map (·.length)).sum + zs.length * s.length
  | [] => by simp [joinD]
  | [x] => by simp [joinD]
  | x :: y :: r => by
    have h := join_len s (y :: r)
    show (x ++ s ++ joinD s (y :: r)).length ≤ _
    simp only [List.length_append, List.map_cons, List.sum_cons, List.length_cons, Nat.add_mul, Nat.one_mul] at h ⊢
    omega
theorem join_nil : ∀ zs : List (List Nat), joinD [] zs = zs.flatten
  | [] => rfl
  | [x] => by simp [joinD]
  | x :: y :: r => by
    show x ++ [] ++ joinD [] (y :: r) = _
    rw [join_nil (y :: r)]; simp
def elG (C : Cf) (own : List Nat) (p : Pat) (c e : IE) (σ : Ev) (x : D) : M (Option D) := M.nox fun S => match patE p x S (wipeE σ own) with
  | none => .bad
  | some σ' => M.bind (evC C c σ') (fun t => if t then M.bind (evE C e σ') fun y => M.ret (some y) else M.ret none) S
theorem x_comp2 {C : Cf} {σ : Ev} {S : Store} {own : List Nat} {p : Pat} {it c e : IE} : evE C (.comp own p it c e) σ S = Res.bnd (evI C it σ S) fun s => M.bind (compS (elG C own p c e σ) C.fuel s) fun ys => M.ret (.lst ys) := (rfl)
theorem wipe_length : ∀ (own : List Nat) (σ : Ev), (wipeE σ own).length = σ.length
  | [], _ => rfl
  | v :: vs, σ => by show ((wipeE σ vs).set v none).length = _; rw [List.length_set, wipe_length vs]
theorem el_nm {C : Cf} {own : List Nat} {i : Nat} {e : IE} {σ : Ev} {x y : D} {S S' : Store} (h : evE C e ((wipeE σ own).set i (some x)) S = .ok y S') : elG C own (.nm i) .nil e σ x S = .ok (some y) S' := by
  have e2 : (M.bind (evC C .nil ((wipeE σ own).set i (some x))) (fun t => if t then M.bind (evE C e ((wipeE σ own).set i (some x))) fun y => M.ret (some y) else M.ret none) S : Res (Option D)) = .ok (some y) S' := by
    rw [bind_bnd, x_cnil, bnd_ok]
    simp only [if_true]
    rw [bind_bnd, h]; rfl
  unfold elG M.nox patE
  simp only
  rw [e2]
/-- a comprehension whose elements leave the store -/
theorem compM_all {f : D → M (Option D)} : ∀ {xs ys : List D} {k : Nat} {S : Store}, All2 (fun x y => ∀ S, f x S = .ok (some y) S) xs ys → xs.length + k ≤ 16777216 → compM f xs k S = .ok ys S
  | [], _, k, S, .nil, _ => rfl
  | x :: r, _, k, S, .cons (b := y) (bs := ys) h hr, hl => by
    show Res.bnd (f x S) _ = _
    rw [h S]
    show (if k < SL then M.bind (compM f r (k + 1)) fun ys => M.ret (y :: ys) else M.bad) S = _
    simp only [List.length_cons] at hl
    rw [if_pos (show k < SL by show k < 16777216; omega)]
    show Res.bnd (compM f r (k + 1) S) _ = _
    rw [compM_all hr (by omega)]
    rfl
/-- .. over a cell -/
theorem compN_all {f : D → M (Option D)} {n : Nat} {S : Store} {xs : List D} (hc : lstOf S (.cell n) = some xs) : ∀ (l : Nat) {ys : List D} {i k : Nat}, All2 (fun x y => f x S = .ok (some y) S) (xs.drop i) ys → (xs.drop i).length < l → (xs.drop i).length + k ≤ 16777216 → compN f n l i k S = .ok ys S
  | 0, _, _, _, _, h, _ => by omega
  | l + 1, ys, i, k, h, hl, hk => by
    unfold compN
    simp only [hc]
    by_cases hi : i < xs.length
    · have e : xs.drop i = xs[i] :: xs.drop (i + 1) := List.drop_eq_getElem_cons hi
      rw [e] at h hl hk
      simp only [List.length_cons] at hl hk
      rw [List.getElem?_eq_getElem hi]
      cases h with
      | @cons a b as bs h1 h2 =>
        show Res.bnd (f xs[i] S) _ = _
        rw [h1]
        show (if k < SL then M.bind (compN f n l (i + 1) (k + 1)) fun ys => M.ret (b :: ys) else M.bad) S = _
        rw [if_pos (show k < SL by show k < 16777216; omega)]
        show Res.bnd (compN f n l (i + 1) (k + 1) S) _ = _
        rw [compN_all hc l h2 (by omega) (by omega)]
        rfl
    · rw [List.drop_eq_nil_of_le (by omega)] at h
      cases h
      rw [List.getElem?_eq_none (by omega)]
theorem forL_nx {f : D → Ev → M Fl} {x : D} {r : List D} {σ σ' : Ev} {S S' : Store} (h : f x σ S = .ok (.nx σ') S') : forL f (x :: r) σ S = forL f r σ' S' := by
  show Res.bnd (f x σ S) _ = _
  rw [h]; rfl
theorem forL_rt {f : D → Ev → M Fl} {x d : D} {r : List D} {σ : Ev} {S S' : Store} (h : f x σ S = .ok (.rt d) S') : forL f (x :: r) σ S = .ok (.rt d) S' := by
  show Res.bnd (f x σ S) _ = _
  rw [h]; rfl
theorem forL_nil {f : D → Ev → M Fl} {σ : Ev} {S : Store} : forL f [] σ S = .ok (.nx σ) S := (rfl)
/-! ### with effects -/
theorem compM_ex {f : D → M (Option D)} (I : Store → Prop) (P : D → Prop) : ∀ {xs : List D} {k : Nat} {S : Store}, (∀ x ∈ xs, ∀ S, I S → ∃ y S', f x S = .ok (some y) S' ∧ P y ∧ I S') → xs.length + k ≤ 16777216 → I S →
    ∃ ys S', compM f xs k S = .ok ys S' ∧ (∀ y ∈ ys, P y) ∧ ys.length = xs.length ∧ I S'
  | [], k, S, _, _, h => ⟨[], S, rfl, fun y hy => (nomatch hy), rfl, h⟩
  | x :: r, k, S, hx, hl, h => by
    simp only [List.length_cons] at hl
    obtain ⟨y, S1, e1, p1, i1⟩ := hx x List.mem_cons_self S h
    obtain ⟨ys, S2, e2, p2, l2, i2⟩ := compM_ex I P (xs := r) (k := k + 1) (fun z hz => hx z (List.mem_cons_of_mem _ hz)) (by omega) i1
    refine ⟨y :: ys, S2, ?_, fun z hz => ?_, by simp [l2], i2⟩
    · show Res.bnd (f x S) _ = _
      rw [e1]
      show (if k < SL then M.bind (compM f r (k + 1)) fun ys => M.ret (y :: ys) else M.bad) S1 = _
      rw [if_pos (show k < SL by show k < 16777216; omega)]
      show Res.bnd (compM f r (k + 1) S1) _ = _
      rw [e2]; rfl
    · rcases List.mem_cons.mp hz with e | e
      · rw [e]; exact p1
      · exact p2 z e
theorem forL_ix {f : D → Ev → M Fl} (I : Nat → Ev → Store → Prop) : ∀ {xs : List D} {j : Nat} {σ : Ev} {S : Store}, (∀ (i : Nat) (x : D) (σ : Ev) (S : Store), xs[i]? = some x → I (j + i) σ S → ∃ σ' S', f x σ S = .ok (.nx σ') S' ∧ I (j + i + 1) σ' S') → I j σ S →
    ∃ σ' S', forL f xs σ S = .ok (.nx σ') S' ∧ I (j + xs.length) σ' S'
  | [], j, σ, S, _, h => ⟨σ, S, rfl, h⟩
  | x :: r, j, σ, S, hx, h => by
    obtain ⟨σ1, S1, e1, i1⟩ := hx 0 x σ S rfl h
    obtain ⟨σ2, S2, e2, i2⟩ := forL_ix I (xs := r) (j := j + 1) (fun i y σ S hy hi => by
      have := hx (i + 1) y σ S (by simpa using hy) (by rw [show j + (i + 1) = j + 1 + i by omega]; exact hi)
      rw [show j + (i + 1) + 1 = j + 1 + i + 1 by omega] at this
      exact this) i1
    refine ⟨σ2, S2, ?_, ?_⟩
    · rw [forL_nx e1, e2]
    · rw [List.length_cons, show j + (r.length + 1) = j + 1 + r.length by omega]; exact i2
/-- .. that may answer on the way -/
theorem forL_rx {f : D → Ev → M Fl} (I : Nat → Ev → Store → Prop) (R : D → Store → Prop) : ∀ {xs : List D} {j : Nat} {σ : Ev} {S : Store}, (∀ (i : Nat) (x : D) (σ : Ev) (S : Store), xs[i]? = some x → I (j + i) σ S → (∃ σ' S', f x σ S = .ok (.nx σ') S' ∧ I (j + i + 1) σ' S') ∨ ∃ d S', f x σ S = .ok (.rt d) S' ∧ R d S') → I j σ S →
    (∃ σ' S', forL f xs σ S = .ok (.nx σ') S' ∧ I (j + xs.length) σ' S') ∨ ∃ d S', forL f xs σ S = .ok (.rt d) S' ∧ R d S'
  | [], j, σ, S, _, h => .inl ⟨σ, S, rfl, h⟩
  | x :: r, j, σ, S, hx, h => by
    rcases hx 0 x σ S rfl h with ⟨σ1, S1, e1, i1⟩ | ⟨d, S1, e1, r1⟩
    · have q := forL_rx I R (xs := r) (j := j + 1) (σ := σ1) (S := S1) (fun i y σ S hy hi => by
        have := hx (i + 1) y σ S (by simpa using hy) (by rw [show j + (i + 1) = j + 1 + i by omega]; exact hi)
        rw [show j + (i + 1) + 1 = j + 1 + i + 1 by omega] at this
        exact this) i1
      rw [forL_nx e1, List.length_cons, show j + (r.length + 1) = j + 1 + r.length by omega]
      exact q
    · exact .inr ⟨d, S1, forL_rt e1, r1⟩
theorem el_set {own : List Nat} {i : Nat} {σ : Ev} {x : D} (h : i < σ.length) : ((wipeE σ own).set i (some x))[i]? = some (some x) := List.getElem?_set_self (by rw [wipe_length]; exact h)
def rngM (x : D) : M Src := match x with
  | .int j => if -big62 ≤ j ∧ j < big62 then M.ret (.xs (rngD 0 j.toNat)) else M.bad
  | _ => M.bad
@[simp] theorem x_rng1 {C : Cf} {σ : Ev} {S : Store} {a : IE} : evI C (.rng1 a) σ S = Res.bnd (evE C a σ S) rngM := (rfl)
@[simp] theorem x_rngM {j : Int} {S : Store} (h0 : -4611686018427387904 ≤ j) (h1 : j < 4611686018427387904) : rngM (.int j) S = .ok (.xs (rngD 0 j.toNat)) S := by
  show (if -big62 ≤ j ∧ j < big62 then M.ret (Src.xs (rngD 0 j.toNat)) else M.bad) S = _
  rw [if_pos ⟨h0, h1⟩]; rfl
@[simp] theorem x_compS {f : D → M (Option D)} {l : Nat} {xs : List D} {S : Store} : compS f l (.xs xs) S = compM f xs 0 S := (rfl)
@[simp] theorem x_compC {f : D → M (Option D)} {l n : Nat} {S : Store} : compS f l (.cl n) S = compN f n l 0 0 S := (rfl)
theorem rngM_nat {m : Nat} {S : Store} (h : m ≤ 1000000) : rngM (.int m) S = .ok (.xs (rngD 0 m)) S := by
  have := x_rngM (j := (m : Int)) (S := S) (by omega) (by omega)
  rw [Int.toNat_natCast] at this
  exact this
theorem rng_at {n i : Nat} {x : D} (h : (rngD 0 n)[i]? = some x) : x = .int i ∧ i < n := by
  unfold rngD at h
  rw [List.getElem?_map] at h
  by_cases hi : i < n
  · rw [List.getElem?_range hi] at h
    cases h
    exact ⟨by simp, hi⟩
  · rw [List.getElem?_eq_none (by simpa using hi)] at h; cases h
theorem rng_mem {n : Nat} {x : D} (h : x ∈ rngD 0 n) : ∃ i : Nat, x = .int i ∧ i < n := by
  obtain ⟨i, hi, e⟩ := List.getElem_of_mem h
  obtain ⟨h1, h2⟩ := rng_at (show (rngD 0 n)[i]? = some x by rw [List.getElem?_eq_getElem hi, e])
  exact ⟨i, h1, h2⟩
theorem rng_len {n : Nat} : (rngD 0 n).length = n := by simp [rngD]
theorem strs_of {ys : List D} {b : Nat} (h : ∀ y ∈ ys, ∃ z, y = .str z ∧ z.length ≤ b) : ∃ zs : List (List Nat), ys = zs.map .str ∧ ∀ z ∈ zs, z.length ≤ b := by
  induction ys with
  | nil => exact ⟨[], rfl, fun z hz => (nomatch hz)⟩
  | cons y r ih =>
    obtain ⟨z, rfl, hz⟩ := h y List.mem_cons_self
    obtain ⟨zs, rfl, hzs⟩ := ih fun w hw => h w (List.mem_cons_of_mem _ hw)
    refine ⟨z :: zs, rfl, fun w hw => ?_⟩
    rcases List.mem_cons.mp hw with e | e
    · rw [e]; exact hz
    · exact hzs w e
theorem depths_strs : ∀ zs : List (List Nat), D.depths (zs.map D.str) = 0
  | [] => rfl
  | z :: r => by
    show max 0 (D.depths (r.map D.str)) = 0
    rw [depths_strs r]; rfl
theorem o_notT {S : Store} {x : List Nat} {ys : List D} (h : ys.all D.flat = true) : cmpM .notIn (.str x) (.tup ys) S = .ok (!memD (.str x) ys) S := by
  show M.opt ((if (true && ys.all D.flat) = true then some (memD (.str x) ys) else none).map (!·)) S = _
  rw [h]; rfl
theorem o_notL {S : Store} {x : List Nat} {d : D} {zs : List (List Nat)} (h : lstOf S d = some (zs.map .str)) (hd : (∃ xs, d = .lst xs) ∨ ∃ n, d = .cell n) : cmpM .notIn (.str x) d S = .ok (!memD (.str x) (zs.map .str)) S := by
  have e : inD S (.str x) d = some (memD (.str x) (zs.map .str)) := by
    have e2 : inD S (.str x) d = (match lstOf S d with
      | some ys => if (D.free (.str x) && D.frees ys && decide (D.depth (.str x) ≤ 60) && decide (D.depths ys ≤ 60)) = true then some (memD (.str x) ys) else none
      | none => none) := by
      rcases hd with ⟨xs, rfl⟩ | ⟨n, rfl⟩ <;> rfl
    rw [e2, h]
    simp only [frees_strs, depths_strs, D.free, D.depth]
    rfl
  show M.opt ((inD S (.str x) d).map (!·)) S = _
  rw [e]; rfl
end Fb
set_option linter.all false
set_option maxRecDepth 100000
set_option maxHeartbeats 1000000
/-! Kx: loops of pure elements. -/
namespace Fb
theorem compM_fm {f : D → M (Option D)} {g : D → Option D} {S : Store} : ∀ {xs : List D} {k : Nat}, (∀ x ∈ xs, f x S = .ok (g x) S) → xs.length + k ≤ 16777216 → compM f xs k S = .ok (xs.filterMap g) S
  | [], k, _, _ => rfl
  | x :: r, k, h, hl => by
    simp only [List.length_cons] at hl
    show Res.bnd (f x S) _ = _
    rw [h x List.mem_cons_self]
    cases e : g x with
    | none =>
      show compM f r k S = _
      rw [compM_fm (fun y hy => h y (List.mem_cons_of_mem _ hy)) (by omega), List.filterMap_cons_none e]
    | some y =>
      show (if k < SL then M.bind (compM f r (k + 1)) fun ys => M.ret (y :: ys) else M.bad) S = _
      rw [if_pos (show k < SL by show k < 16777216; omega)]
      show Res.bnd (compM f r (k + 1) S) _ = _
      rw [compM_fm (fun y hy => h y (List.mem_cons_of_mem _ hy)) (by omega), List.filterMap_cons_some e]; rfl
theorem el_fl {C : Cf} {own : List Nat} {i : Nat} {c e : IE} {σ : Ev} {x y : D} {S : Store} {t : Bool} (hc : evT C c ((wipeE σ own).set i (some x)) S = .ok t S) (h : t = true → evE C e ((wipeE σ own).set i (some x)) S = .ok y S) : elG C own (.nm i) (.cons c .nil) e σ x S = .ok (if t then some y else none) S := by
  have e2 : (M.bind (evC C (.cons c .nil) ((wipeE σ own).set i (some x))) (fun t => if t then M.bind (evE C e ((wipeE σ own).set i (some x))) fun y => M.ret (some y) else M.ret none) S : Res (Option D)) = .ok (if t then some y else none) S := by
    show Res.bnd (evT C c ((wipeE σ own).set i (some x)) S) _ = _
    rw [hc]
    cases t with
    | false => rfl
    | true =>
      show Res.bnd (evE C e ((wipeE σ own).set i (some x)) S) _ = _
      rw [h rfl]; rfl
  unfold elG M.nox patE
  simp only
  rw [e2]
/-- nothing is left over -/
theorem empty_fm {xs : List D} {p : D → Bool} : (xs.filterMap fun x => if p x = false then some x else none).isEmpty = xs.all p := by
  induction xs with
  | nil => rfl
  | cons x r ih =>
    cases h : p x with
    | true => simp [h, ih]
    | false => simp [h]
theorem mem_strs {x : List Nat} : ∀ ys : List (List Nat), memD (.str x) (ys.map .str) = decide (x ∈ ys)
  | [] => rfl
  | y :: r => by
    show ((y == x) || memD (.str x) (r.map .str)) = _
    rw [mem_strs r]
    by_cases h : y = x
    · subst h; simp
    · have h2 : (y == x) = false := by simpa using h
      have h3 : ¬ x = y := fun z => h z.symm
      rw [h2]; simp [h3]
theorem flat_strs {ys : List (List Nat)} : (ys.map D.str).all D.flat = true := by
  induction ys with
  | nil => rfl
  | cons y r ih => simp [ih]
theorem in_tup {S : Store} {x : List Nat} {ys : List (List Nat)} : cmpM .isIn (.str x) (.tup (ys.map .str)) S = .ok (decide (x ∈ ys)) S := by
  rw [o_inT flat_strs, mem_strs]
theorem ni_tup {S : Store} {x : List Nat} {ys : List (List Nat)} : cmpM .notIn (.str x) (.tup (ys.map .str)) S = .ok (!decide (x ∈ ys)) S := by
  rw [o_notT flat_strs, mem_strs]
theorem ni_lst {S : Store} {x : List Nat} {ys : List (List Nat)} : cmpM .notIn (.str x) (.lst (ys.map .str)) S = .ok (!decide (x ∈ ys)) S := by
  rw [o_notL rfl (.inl ⟨_, rfl⟩), mem_strs]
theorem in_lst {S : Store} {x : List Nat} {ys : List (List Nat)} : cmpM .isIn (.str x) (.lst (ys.map .str)) S = .ok (decide (x ∈ ys)) S := by
  have e : inD S (.str x) (.lst (ys.map .str)) = some (memD (.str x) (ys.map .str)) := by
    show (if (D.free (.str x) && D.frees (ys.map D.str) && decide (D.depth (.str x) ≤ 60) && decide (D.depths (ys.map D.str) ≤ 60)) = true then some (memD (.str x) (ys.map .str)) else none) = _
    simp only [frees_strs, depths_strs, D.free, D.depth]; rfl
  show M.opt (inD S (.str x) (.lst (ys.map .str))) S = _
  rw [e, mem_strs]; rfl
theorem in_str {S : Store} {c : Nat} {ys : List Nat} : cmpM .isIn (.str [c]) (.str ys) S = .ok (ys.contains c) S := (rfl)
theorem ni_str {S : Store} {c : Nat} {ys : List Nat} : cmpM .notIn (.str [c]) (.str ys) S = .ok (!ys.contains c) S := (rfl)
section
variable {S : Store}
@[simp] theorem b_lenS {a : List Nat} (h : a.length ≤ 16777216) : bltD S .len [.str a] = some (.int a.length) := if_pos h
@[simp] theorem b_lenT {xs : List D} : bltD S .len [.tup xs] = some (.int xs.length) := (rfl)
@[simp] theorem b_lenL {xs : List D} : bltD S .len [.lst xs] = some (.int xs.length) := (rfl)
@[simp] theorem b_tupL {xs : List D} : bltD S .tuple [.lst xs] = some (.tup xs) := (rfl)
@[simp] theorem b_tupT {xs : List D} : bltD S .tuple [.tup xs] = some (.tup xs) := (rfl)
@[simp] theorem b_lstT {xs : List D} : bltD S .list [.tup xs] = some (.lst xs) := (rfl)
@[simp] theorem b_lstL {xs : List D} : bltD S .list [.lst xs] = some (.lst xs) := (rfl)
@[simp] theorem b_intI {i : Int} : bltD S .int [.int i] = some (.int i) := (rfl)
@[simp] theorem b_minI {i j : Int} : bltD S .min [.int i, .int j] = some (.int (if j < i then j else i)) := (rfl)
theorem le_nat {a b : Nat} : ((a : Int) ≤ (b : Int)) = (a ≤ b) := by simp
theorem one_le {n : Nat} : ((1 : Int) ≤ (n : Int)) = (1 ≤ n) := by rw [eq_iff_iff]; omega
theorem bools_map : ∀ bs : List Bool, boolsOf (bs.map .bl) = some bs
  | [] => rfl
  | b :: r => by
    show (boolsOf (r.map .bl)).map (b :: ·) = _
    rw [bools_map r]; rfl
theorem b_all {bs : List Bool} : bltD S .all [.lst (bs.map .bl)] = some (.bl (bs.all id)) := by
  show (boolsOf (bs.map .bl)).map (fun bs => D.bl (bs.all id)) = _
  rw [bools_map]; rfl
end
theorem all2_map {α β γ : Type} {R : β → γ → Prop} {f : α → β} {g : α → γ} : ∀ {xs : List α}, (∀ x ∈ xs, R (f x) (g x)) → All2 R (xs.map f) (xs.map g)
  | [], _ => .nil
  | x :: r, h => .cons (h x List.mem_cons_self) (all2_map fun y hy => h y (List.mem_cons_of_mem _ hy))
/-- a loop that checks -/
theorem forL_chk {f : D → Ev → M Fl} {p : D → Bool} {d : D} {S : Store} (T : Ev → Prop) : ∀ {xs : List D} {σ : Ev}, (∀ x ∈ xs, ∀ σ, T σ → (p x = true → ∃ σ', f x σ S = .ok (.nx σ') S ∧ T σ') ∧ (p x = false → f x σ S = .ok (.rt d) S)) → T σ →
    (xs.all p = true → ∃ σ', forL f xs σ S = .ok (.nx σ') S ∧ T σ') ∧ (xs.all p = false → forL f xs σ S = .ok (.rt d) S)
  | [], σ, _, t => ⟨fun _ => ⟨σ, rfl, t⟩, fun h => by cases h⟩
  | x :: r, σ, h, t => by
    obtain ⟨h1, h2⟩ := h x List.mem_cons_self σ t
    cases e : p x with
    | false =>
      refine ⟨fun z => ?_, fun _ => forL_rt (h2 e)⟩
      rw [List.all_cons, e] at z; cases z
    | true =>
      obtain ⟨σ', e1, t1⟩ := h1 e
      rw [forL_nx e1, List.all_cons, e, Bool.true_and]
      exact forL_chk T (fun y hy => h y (List.mem_cons_of_mem _ hy)) t1
theorem o_last {S : Store} {xs : List D} {x : D} : idxM (.tup (xs ++ [x])) (.int (-1)) S = .ok x S := by
  show M.opt (ixL (xs ++ [x]) (-1)) S = _
  unfold ixL
  rw [if_pos (by omega), if_neg (by simp; omega)]
  have : (-1 + ((xs ++ [x]).length : Int)).toNat = xs.length := by simp; omega
  rw [this, List.getElem?_append_right (Nat.le_refl _)]
  simp
theorem c_init {S : Store} {xs : List D} {x : D} : cutD S (.tup (xs ++ [x])) none (some (-1)) = some (.tup xs) := by
  show some (D.tup (cutL (xs ++ [x]) none (some (-1)))) = _
  unfold cutL cut1
  simp only [List.length_append, List.length_singleton]
  rw [if_pos (by omega)]
  have : (-1 + ((xs.length + 1 : Nat) : Int)).toNat = xs.length := by omega
  rw [this]; simp
/-- text by text -/
theorem fm_map {α : Type} {f : α → D} {p : D → Option D} : ∀ xs : List α, (xs.map f).filterMap p = xs.filterMap (p ∘ f)
  | [] => rfl
  | x :: r => by simp [List.filterMap_cons, fm_map r]
theorem cells_get {cs : List D} (hi : ∀ x ∈ cs, ∃ z, x = .int z) {i : Int} (h0 : 0 ≤ i) (h1 : i < cs.length) : ∃ z : Int, cs[i.toNat]? = some (.int z) := by
  have h2 : i.toNat < cs.length := by omega
  obtain ⟨z, e⟩ := hi cs[i.toNat] (List.getElem_mem h2)
  exact ⟨z, by rw [List.getElem?_eq_getElem h2, e]⟩
theorem get_in {α : Type} {xs : List α} {i : Nat} {x : α} (h : xs[i]? = some x) : ∀ k : i < xs.length, xs[i]'k = x := fun k => by
  rw [List.getElem?_eq_getElem k] at h
  exact Option.some.inj h
@[simp] theorem idx_cell {S : Store} {n : Nat} {i : Int} : idxM (.cell n) (.int i) S = (match S[n]? with
  | some (.lst xs) => M.opt (ixL xs i) S
  | none => .bad) := by
  show (match lstOf S (.cell n) with
    | some xs => M.opt (ixL xs i) S
    | none => .bad) = _
  show (match (match S[n]? with
    | some (.lst xs) => some xs
    | none => none) with
    | some xs => M.opt (ixL xs i) S
    | none => .bad) = _
  cases S[n]? with
  | none => rfl
  | some c => cases c; rfl
@[simp] theorem ixL_lit {α : Type} {xs : List α} {i : Int} (h : 0 ≤ i) : ixL xs i = xs[i.toNat]? := by
  unfold ixL
  rw [if_neg (by omega)]
theorem putM_eq {S : Store} {n : Nat} {xs : List D} {i : Int} {v : D} (h : S[n]? = some (.lst xs)) (h0 : 0 ≤ i) (h1 : i < xs.length) : putM (.cell n) (.int i) v S = .ok () (S.set n (.lst (xs.set i.toNat v))) := by
  unfold putM putD
  simp only [h, if_neg (show ¬ i < 0 by omega), if_pos h1]
theorem idx_str {S : Store} {a : List Nat} {i : Int} (h : a.length ≤ 16777216) (h0 : 0 ≤ i) : idxM (.str a) (.int i) S = M.opt ((a[i.toNat]?).map fun c => .str [c]) S := by
  show (if a.length ≤ SL then M.opt ((ixL a i).map fun c => D.str [c]) S else .bad) = _
  rw [if_pos (show a.length ≤ SL from h), ixL_lit h0]
/-- more indexes than values to shun -/
theorem shun {α : Type} [DecidableEq α] (f : Nat → α) : ∀ (ys : List α) (is : List Nat), is.Nodup → (∀ i ∈ is, ∀ j ∈ is, f i = f j → i = j) → ys.length < is.length → ∃ i ∈ is, f i ∉ ys
  | [], [], _, _, h => by simp at h
  | [], i :: is, _, _, _ => ⟨i, List.mem_cons_self, by simp⟩
  | y :: r, is, hn, hi, h => by
    by_cases q : ∃ i0 ∈ is, f i0 = y
    · obtain ⟨i0, hm, e⟩ := q
      obtain ⟨i, h1, h2⟩ := shun f r (is.erase i0) (hn.erase i0) (fun i a j b => hi i (List.mem_of_mem_erase a) j (List.mem_of_mem_erase b)) (by rw [List.length_erase_of_mem hm]; simp at h; omega)
      have h3 := (hn.mem_erase_iff).mp h1
      refine ⟨i, h3.2, fun z => ?_⟩
      rcases List.mem_cons.mp z with z | z
      · exact h3.1 (hi i h3.2 i0 hm (z.trans e.symm))
      · exact h2 z
    · obtain ⟨i, h1, h2⟩ := shun f r is hn hi (by simp at h; omega)
      refine ⟨i, h1, fun z => ?_⟩
      rcases List.mem_cons.mp z with z | z
      · exact q ⟨i, h1, z⟩
      · exact h2 z
@[simp] theorem alloc_lst {S : Store} {xs : List D} : allocM (.lst xs) S = .ok (.cell S.length) (S ++ [.lst xs]) := (rfl)
theorem m_app {S : Store} {n : Nat} {xs : List D} {y : D} (h : S[n]? = some (.lst xs)) (hl : xs.length < 16777216) : mthD S .append (.cell n) [y] = some (.non, S.set n (.lst (xs ++ [y]))) := by
  show (match S[n]? with
    | some (.lst ys) => if ys.length < SL then some (D.non, S.set n (.lst (ys ++ [y]))) else none
    | none => none) = _
  rw [h]
  exact if_pos hl
theorem o_addLC {S : Store} {n : Nat} {a b : List D} (h : S[n]? = some (.lst b)) (hl : a.length + b.length ≤ 16777216) : binM .add (.lst a) (.cell n) S = .ok (.lst (a ++ b)) S := by
  have e : addD S (.lst a) (.cell n) = some (.lst (a ++ b)) := by
    show (match ownOf S (.lst a), ownOf S (.cell n) with
      | some a, some b => if a.length + b.length ≤ SL then some (D.lst (a ++ b)) else none
      | _, _ => none) = _
    have : ownOf S (.cell n) = some b := by
      show (match S[n]? with
        | some (.lst xs) => some xs
        | none => none) = _
      rw [h]
    rw [this]
    exact if_pos hl
  show M.opt (addD S (.lst a) (.cell n)) S = _
  rw [e]; rfl
theorem cutL_len {α : Type} (a : List α) (lo hi : Option Int) : (cutL a lo hi).length ≤ a.length := by
  unfold cutL
  rw [List.length_take, List.length_drop]
  omega
theorem cut_str {S : Store} {a : List Nat} {lo hi : Option Int} (h : a.length ≤ 16777216) : cutD S (.str a) lo hi = some (.str (cutL a lo hi)) := if_pos h
theorem cut_tup {S : Store} {a : List D} {lo hi : Option Int} : cutD S (.tup a) lo hi = some (.tup (cutL a lo hi)) := (rfl)
theorem cut_lst {S : Store} {a : List D} {lo hi : Option Int} : cutD S (.lst a) lo hi = some (.lst (cutL a lo hi)) := (rfl)
theorem cutL_map {α β : Type} {f : α → β} {a : List α} {lo hi : Option Int} : cutL (a.map f) lo hi = (cutL a lo hi).map f := by
  unfold cutL
  rw [List.map_take, List.map_drop, List.length_map]
theorem mem_cutL {α : Type} {a : List α} {lo hi : Option Int} {x : α} (h : x ∈ cutL a lo hi) : x ∈ a := List.mem_of_mem_drop (List.mem_of_mem_take h)
theorem m_upper {S : Store} {a : List Nat} (h : a.length ≤ 5000000) (h2 : ∀ c ∈ a, c < 128) : mthD S .upper (.str a) [] = some (.str (a.map upC), S) := by
  have e : a.all (fun c => decide (c < 128)) = true := List.all_eq_true.mpr fun c hc => decide_eq_true (h2 c hc)
  show (if a.length ≤ 5000000 ∧ a.all (fun c => decide (c < 128)) = true then some (D.str (a.map upC), S) else none) = _
  rw [if_pos ⟨h, e⟩]
/-- a loop that goes through -/
theorem forL_nxs {f : D → Ev → M Fl} {S : Store} (T : Ev → Prop) : ∀ {xs : List D} {σ : Ev}, (∀ x ∈ xs, ∀ σ, T σ → ∃ σ', f x σ S = .ok (.nx σ') S ∧ T σ') → T σ → ∃ σ', forL f xs σ S = .ok (.nx σ') S ∧ T σ'
  | [], σ, _, t => ⟨σ, rfl, t⟩
  | x :: r, σ, h, t => by
    obtain ⟨σ', e1, t1⟩ := h x List.mem_cons_self σ t
    rw [forL_nx e1]
    exact forL_nxs T (fun y hy => h y (List.mem_cons_of_mem _ hy)) t1
theorem cutL_length {α : Type} {a : List α} {lo hi : Option Int} : (cutL a lo hi).length = min (cut1 a.length hi a.length - cut1 a.length lo 0) (a.length - cut1 a.length lo 0) := by
  unfold cutL
  rw [List.length_take, List.length_drop]
/-- cell-free and not long -/
def FL (k : Nat) (xs : List D) : Prop := D.frees xs = true ∧ xs.length ≤ k
theorem fl_nil : FL 0 [] := ⟨rfl, Nat.le_refl _⟩
theorem fl_cons {k : Nat} {x : D} {xs : List D} (h : D.free x = true) (r : FL k xs) : FL (k + 1) (x :: xs) := ⟨by simp [D.frees, h, r.1], by have := r.2; simp; exact this⟩
theorem fl_app {k j : Nat} {xs ys : List D} (h : FL k xs) (r : FL j ys) : FL (k + j) (xs ++ ys) := ⟨by rw [frees_app, h.1, r.1]; rfl, by have := h.2; have := r.2; simp; omega⟩
theorem frees_mem {xs : List D} : D.frees xs = true ↔ ∀ x ∈ xs, D.free x = true := by
  induction xs with
  | nil => simp [D.frees]
  | cons x r ih => simp [D.frees, ih]
theorem fl_sub {k : Nat} {xs ys : List D} (h : FL k xs) (hm : ∀ y ∈ ys, y ∈ xs) (hl : ys.length ≤ xs.length) : FL k ys := ⟨frees_mem.mpr fun y hy => frees_mem.mp h.1 y (hm y hy), Nat.le_trans hl h.2⟩
theorem fl_cut {k : Nat} {xs : List D} {lo hi : Option Int} (h : FL k xs) : FL k (cutL xs lo hi) := fl_sub h (fun _ hy => mem_cutL hy) (cutL_len _ _ _)
theorem fl_rev {k : Nat} {xs : List D} (h : FL k xs) : FL k xs.reverse := fl_sub h (fun _ hy => List.mem_reverse.mp hy) (by simp)
theorem fl_rep {k : Nat} {x : D} (h : D.free x = true) : FL k (List.replicate k x) := ⟨frees_mem.mpr fun y hy => by rw [List.eq_of_mem_replicate hy]; exact h, by simp⟩
theorem fl_strs {k : Nat} {zs : List (List Nat)} (h : zs.length ≤ k) : FL k (zs.map .str) := ⟨frees_strs zs, by simpa using h⟩
theorem rep1 {α : Type} {x : α} {k : Int} : repL [x] k = List.replicate k.toNat x := by
  unfold repL
  induction k.toNat with
  | zero => rfl
  | succ n ih => rw [List.replicate_succ, List.flatten_cons, ih, List.replicate_succ]; rfl
theorem o_mulT {S : Store} {x : D} {k : Int} (h0 : -1000000 ≤ k) (h1 : k ≤ 1000) : binM .mul (.tup [x]) (.int k) S = .ok (.tup (List.replicate k.toNat x)) S := by
  show M.opt (if [x].length ≤ 1000 ∧ k ≤ 1000 ∧ -1000000 ≤ k then some (D.tup (repL [x] k)) else none) S = _
  rw [if_pos ⟨by simp, h1, h0⟩, rep1]; rfl
theorem o_mulL {S : Store} {x : D} {k : Int} (h0 : -1000000 ≤ k) (h1 : k ≤ 1000) : binM .mul (.lst [x]) (.int k) S = .ok (.lst (List.replicate k.toNat x)) S := by
  show M.opt (if [x].length ≤ 1000 ∧ k ≤ 1000 ∧ -1000000 ≤ k then some (D.lst (repL [x] k)) else none) S = _
  rw [if_pos ⟨by simp, h1, h0⟩, rep1]; rfl
theorem o_mulS {S : Store} {x : Nat} {k : Int} (h0 : -1000000 ≤ k) (h1 : k ≤ 1000) : binM .mul (.str [x]) (.int k) S = .ok (.str (List.replicate k.toNat x)) S := by
  show M.opt (if [x].length ≤ 1000 ∧ k ≤ 1000 ∧ -1000000 ≤ k then some (D.str (repL [x] k)) else none) S = _
  rw [if_pos ⟨by simp, h1, h0⟩, rep1]; rfl
theorem forL_stop {f : D → Ev → M Fl} {x : D} {r : List D} {σ : Ev} {S S' : Store} {o : Fl} (h : f x σ S = .ok o S') (ho : (∃ d, o = .rt d) ∨ ∃ c as δ, o = .xc c as δ) : forL f (x :: r) σ S = .ok o S' := by
  show Res.bnd (f x σ S) _ = _
  rw [h]
  rcases ho with ⟨d, rfl⟩ | ⟨c, as, δ, rfl⟩ <;> rfl
/-- a loop to the first item that stops it -/
theorem forL_first {f : D → Ev → M Fl} {S : Store} (T : Ev → Prop) (p : Nat → Bool) (stop : Nat → Fl → Prop) (hs : ∀ i o, stop i o → (∃ d, o = .rt d) ∨ ∃ c as δ, o = .xc c as δ) : ∀ {xs : List D} {k : Nat} {σ : Ev},
    (∀ i x σ, xs[i]? = some x → T σ → (p (k + i) = true → ∃ σ', f x σ S = .ok (.nx σ') S ∧ T σ') ∧ (p (k + i) = false → ∃ o, f x σ S = .ok o S ∧ stop (k + i) o)) → T σ →
    ((∀ i, i < xs.length → p (k + i) = true) ∧ ∃ σ', forL f xs σ S = .ok (.nx σ') S ∧ T σ') ∨ ∃ i, i < xs.length ∧ p (k + i) = false ∧ (∀ j, j < i → p (k + j) = true) ∧ ∃ o, forL f xs σ S = .ok o S ∧ stop (k + i) o
  | [], k, σ, _, t => .inl ⟨fun i h => by simp at h, σ, rfl, t⟩
  | x :: r, k, σ, h, t => by
    cases e : p k with
    | false =>
      obtain ⟨o, e1, e2⟩ := (h 0 x σ rfl t).2 e
      exact .inr ⟨0, by simp, e, fun j hj => by omega, o, forL_stop e1 (hs _ _ e2), e2⟩
    | true =>
      obtain ⟨σ', e1, t1⟩ := (h 0 x σ rfl t).1 e
      have h2 := forL_first (f := f) (S := S) T p stop hs (xs := r) (k := k + 1) (σ := σ') (fun i y σ hy ht => by
        have := h (i + 1) y σ (by simpa using hy) ht
        rw [show k + (i + 1) = k + 1 + i by omega] at this
        exact this) t1
      rw [forL_nx e1]
      rcases h2 with ⟨h3, h4⟩ | ⟨i, h3, h4, h5, h6⟩
      · refine .inl ⟨fun i hi => ?_, h4⟩
        cases i with
        | zero => exact e
        | succ i => rw [show k + (i + 1) = k + 1 + i by omega]; exact h3 i (by simpa using hi)
      · refine .inr ⟨i + 1, by simpa using h3, by rw [show k + (i + 1) = k + 1 + i by omega]; exact h4, fun j hj => ?_, by rw [show k + (i + 1) = k + 1 + i by omega]; exact h6⟩
        cases j with
        | zero => exact e
        | succ j => rw [show k + (j + 1) = k + 1 + j by omega]; exact h5 j (by omega)
theorem enum_at {xs : List D} {k i : Nat} : (enumD k xs)[i]? = (xs[i]?).map fun x => .tup [.int ((k + i : Nat) : Int), x] := by
  induction xs generalizing k i with
  | nil => simp [enumD]
  | cons x r ih =>
    cases i with
    | zero => simp [enumD]
    | succ i =>
      show (enumD (k + 1) r)[i]? = _
      rw [ih, List.getElem?_cons_succ, show k + 1 + i = k + (i + 1) by omega]
theorem enum_len {xs : List D} {k : Nat} : (enumD k xs).length = xs.length := by
  induction xs generalizing k with
  | nil => rfl
  | cons x r ih => simp [enumD, ih]
theorem m_split {S : Store} {x : List Nat} {c : Nat} (h : x.length ≤ 1000000) (hc : c < 256) : mthD S .split (.str x) [.str [c]] = some (.lst ((splitD c [] x).map .str), S) := by
  show (if x.length + 2 ≤ SL ∧ c < 256 then some (D.lst ((splitD c [] x).map .str), S) else none) = _
  rw [if_pos ⟨by show x.length + 2 ≤ 16777216; omega, hc⟩]
theorem split_len (c : Nat) : ∀ (x acc : List Nat), (splitD c acc x).length ≤ x.length + 1
  | [], acc => by simp [splitD]
  | a :: r, acc => by
    unfold splitD
    split
    · have := split_len c r []; simp; omega
    · have := split_len c r (acc ++ [a]); simp; omega
end Fb
set_option linter.all false
set_option maxRecDepth 100000
/-! the defs of the law as terms of Fb1; printed by gen.py -/
namespace Lw
open Fb
def f_are_texts : Fn := ⟨1, 2, false, (.seq (.ret (.and (.isi (.var 0) [.tup]) (.not (.comp [1] (.nm 1) (.cons (.var 0) .nil) (.cons (.not (.isi (.var 1) [.str])) .nil) (.var 1)))))
  .skip)⟩
def f_is_name : Fn := ⟨1, 2, false, (.seq (.ite (.or (.not (.isi (.var 0) [.str])) (.or (.not (.chn .le .le (.lit (.int 1)) (.blt .len (.cons (.var 0) .nil)) (.glo [78, 65, 77, 69, 95, 77, 79, 83, 84] (.int 8)))) (.cmp .isIn (.var 0) (.glo [87, 79, 82, 68, 83] (.tup [(.str [98, 97, 115, 101]), (.str [99, 97, 108, 108]), (.str [99, 97, 115, 101]), (.str [101, 108, 115, 101]), (.str [101, 110, 100]), (.str [102, 117, 110]), (.str [103, 105, 118, 101]), (.str [103, 114, 111, 117, 110, 100, 115]), (.str [105, 102]), (.str [108, 101, 116]), (.str [111, 117, 116]), (.str [115, 116, 97, 114, 116]), (.str [119, 114, 97, 112, 115])])))))
  (.seq (.ret (.lit (.bl false)))
  .skip)
  .skip)
  (.seq (.ret (.not (.comp [1] (.nm 1) (.cons (.var 0) .nil) (.cons (.cmp .notIn (.var 1) (.glo [76, 69, 84, 84, 69, 82, 83] (.str [97, 98, 99, 100, 101, 102, 103, 104, 105, 106, 107, 108, 109, 110, 111, 112, 113, 114, 115, 116, 117, 118, 119, 120, 121, 122]))) .nil) (.var 1))))
  .skip))⟩
def f_is_type : Fn := ⟨2, 3, false, (.seq (.ite (.or (.not (.call 0 (.cons (.var 1) .nil))) (.not (.chn .le .le (.lit (.int 1)) (.blt .len (.cons (.var 1) .nil)) (.glo [84, 89, 80, 69, 95, 77, 79, 83, 84] (.int 60)))))
  (.seq (.ret (.lit (.bl false)))
  .skip)
  .skip)
  (.seq (.ret (.and (.cmp .isIn (.idx (.var 1) (.neg (.lit (.int 1)))) (.idx (.var 0) (.lit (.int 1)))) (.not (.comp [2] (.nm 2) (.cons (.sli (.var 1) .nil (.cons (.neg (.lit (.int 1))) .nil)) .nil) (.cons (.cmp .notIn (.var 2) (.idx (.var 0) (.lit (.int 0)))) .nil) (.var 2)))))
  .skip))⟩
def f_type_text : Fn := ⟨1, 1, false, (.seq (.ret (.mth .join (.lit (.str [32])) (.cons (.var 0) .nil)))
  .skip)⟩
def f_read_type : Fn := ⟨2, 5, false, (.seq (.set 2 (.blt .tuple (.cons (.comp [4] (.nm 4) (.cons (.mth .split (.var 1) (.cons (.lit (.str [32])) .nil)) .nil) (.cons (.cmp .ne (.var 4) (.lit (.str []))) .nil) (.var 4)) .nil)))
  (.seq (.for (.tp [3, 4]) (.enum (.var 2))
  (.seq (.ite (.cmp .notIn (.var 4) (.bin .add (.idx (.var 0) (.lit (.int 0))) (.idx (.var 0) (.lit (.int 1)))))
  (.seq (.rse 1 2 (.cons (.var 3) (.cons (.lit (.str [110, 97, 109, 101])) .nil)))
  .skip)
  .skip)
  .skip))
  (.seq (.ite (.not (.call 2 (.cons (.var 0) (.cons (.var 2) .nil))))
  (.seq (.rse 1 2 (.cons (.neg (.lit (.int 1))) (.cons (.lit (.str [115, 104, 97, 112, 101])) .nil)))
  .skip)
  .skip)
  (.seq (.ret (.var 2))
  .skip))))⟩
def f_law_box : Fn := ⟨1, 3, true, (.seq (.set 1 (.alloc (.lst (.cons (.bin .add (.bin .mod (.blt .len (.cons (.var 0) .nil)) (.lit (.int 83))) (.lit (.int 11))) .nil))))
  (.seq (.for (.nm 2) (.cons (.sli (.var 0) .nil (.cons (.lit (.int 70)) .nil)) .nil)
  (.seq (.ex (.mth .append (.var 1) (.cons (.bin .mod (.blt .int (.cons (.var 2) .nil)) (.lit (.int 998857))) .nil)))
  .skip))
  (.seq (.ret (.alloc (.lst (.cons (.lit (.int 3)) (.cons (.lit (.int 70001)) (.cons (.var 1) .nil))))))
  .skip)))⟩
def f_law_take : Fn := ⟨2, 3, false, (.seq (.set 2 (.idx (.var 0) (.lit (.int 2))))
  (.seq (.put (.var 0) (.lit (.int 0)) (.bin .add (.idx (.var 0) (.lit (.int 0))) (.lit (.int 1))))
  (.seq (.put (.var 0) (.lit (.int 1)) (.bin .mod (.bin .add (.bin .add (.bin .mul (.idx (.var 0) (.lit (.int 1))) (.lit (.int 211))) (.bin .mul (.idx (.var 2) (.bin .mod (.idx (.var 0) (.lit (.int 0))) (.blt .len (.cons (.var 2) .nil)))) (.lit (.int 37)))) (.bin .mul (.idx (.var 0) (.lit (.int 0))) (.lit (.int 6529)))) (.lit (.int 998857))))
  (.seq (.ret (.bin .mod (.blt .int (.cons (.bin .fdiv (.idx (.var 0) (.lit (.int 1))) (.lit (.int 13))) .nil)) (.var 1)))
  .skip))))⟩
def f_law_bias : Fn := ⟨3, 5, false, (.seq (.set 3 (.idx (.idx (.var 0) (.lit (.int 2))) (.bin .mod (.bin .add (.bin .mul (.var 1) (.lit (.int 5))) (.lit (.int 1))) (.blt .len (.cons (.idx (.var 0) (.lit (.int 2))) .nil)))))
  (.seq (.set 4 (.bin .mod (.bin .add (.bin .fdiv (.var 3) (.lit (.int 3))) (.bin .mul (.var 1) (.lit (.int 5)))) (.lit (.int 8))))
  (.seq (.ite (.cmp .eq (.var 4) (.lit (.int 0)))
  (.seq (.ret (.lit (.int 0)))
  .skip)
  .skip)
  (.seq (.ite (.or (.cmp .eq (.var 4) (.lit (.int 1))) (.cmp .eq (.var 4) (.lit (.int 2))))
  (.seq (.ret (.bin .sub (.var 2) (.lit (.int 1))))
  .skip)
  .skip)
  (.seq (.ite (.cmp .eq (.var 4) (.lit (.int 3)))
  (.seq (.ret (.bin .mod (.blt .int (.cons (.bin .fdiv (.var 3) (.lit (.int 41))) .nil)) (.var 2)))
  .skip)
  .skip)
  (.seq (.ret (.call 6 (.cons (.var 0) (.cons (.var 2) .nil))))
  .skip))))))⟩
def f_law_reserved : Fn := ⟨0, 0, false, (.seq (.ret (.lst (.cons (.lit (.str [98, 97, 115, 101])) (.cons (.lit (.str [99, 97, 108, 108])) (.cons (.lit (.str [99, 97, 115, 101])) (.cons (.lit (.str [101, 108, 115, 101])) (.cons (.lit (.str [101, 110, 100])) (.cons (.lit (.str [102, 117, 110])) (.cons (.lit (.str [103, 105, 118, 101])) (.cons (.lit (.str [103, 114, 111, 117, 110, 100, 115])) (.cons (.lit (.str [105, 102])) (.cons (.lit (.str [108, 101, 116])) (.cons (.lit (.str [111, 117, 116])) (.cons (.lit (.str [115, 116, 97, 114, 116])) (.cons (.lit (.str [119, 114, 97, 112, 115])) .nil)))))))))))))))
  .skip)⟩
def f_law_letter : Fn := ⟨1, 1, false, (.seq (.ret (.idx (.lit (.str [97, 98, 99, 100, 101, 102, 103, 104, 105, 106, 107, 108, 109, 110, 111, 112, 113, 114, 115, 116, 117, 118, 119, 120, 121, 122])) (.call 6 (.cons (.var 0) (.cons (.lit (.int 26)) .nil)))))
  .skip)⟩
def f_law_fresh : Fn := ⟨3, 5, false, (.seq (.set 3 (.mth .join (.lit (.str [])) (.cons (.comp [4] (.nm 4) (.rng1 (.bin .add (.lit (.int 1)) (.call 7 (.cons (.var 0) (.cons (.var 1) (.cons (.lit (.int 8)) .nil)))))) .nil (.call 9 (.cons (.var 0) .nil))) .nil)))
  (.seq (.ite (.and (.cmp .gt (.blt .len (.cons (.var 2) .nil)) (.lit (.int 0))) (.cmp .eq (.call 6 (.cons (.var 0) (.cons (.lit (.int 4)) .nil))) (.lit (.int 0))))
  (.seq (.set 3 (.sli (.bin .add (.idx (.var 2) (.call 6 (.cons (.var 0) (.cons (.blt .len (.cons (.var 2) .nil)) .nil)))) (.call 9 (.cons (.var 0) .nil))) (.cons (.neg (.lit (.int 8))) .nil) .nil))
  .skip)
  .skip)
  (.seq (.for (.nm 4) (.rng1 (.lit (.int 150)))
  (.seq (.ite (.and (.cmp .notIn (.var 3) (.var 2)) (.cmp .notIn (.var 3) (.call 8 .nil)))
  (.seq (.ret (.var 3))
  .skip)
  .skip)
  (.seq (.set 3 (.bin .add (.idx (.lit (.str [122, 121, 120, 119, 118, 117, 116, 115, 114, 113, 112, 111, 110, 109, 108, 107, 106, 105, 104, 103, 102, 101, 100, 99, 98, 97])) (.bin .mod (.var 4) (.lit (.int 26)))) (.idx (.lit (.str [97, 98, 99, 100, 101, 102, 103, 104, 105, 106, 107, 108, 109, 110, 111, 112, 113, 114, 115, 116, 117, 118, 119, 120, 121, 122])) (.bin .fdiv (.var 4) (.lit (.int 26))))))
  .skip)))
  (.seq (.ret (.var 3))
  .skip))))⟩
def f_law_lot : Fn := ⟨4, 6, false, (.seq (.set 4 (.alloc (.lst .nil)))
  (.seq (.for (.nm 5) (.rng1 (.var 2))
  (.seq (.ex (.mth .append (.var 4) (.cons (.call 10 (.cons (.var 0) (.cons (.var 1) (.cons (.bin .add (.var 3) (.var 4)) .nil)))) .nil)))
  .skip))
  (.seq (.ret (.var 4))
  .skip)))⟩
def f_law_program : Fn := ⟨1, 7, false, (.seq (.set 1 (.call 11 (.cons (.var 0) (.cons (.lit (.int 3)) (.cons (.call 7 (.cons (.var 0) (.cons (.lit (.int 2)) (.cons (.lit (.int 7)) .nil)))) (.cons (.lst .nil) .nil))))))
  (.seq (.set 2 (.call 11 (.cons (.var 0) (.cons (.lit (.int 5)) (.cons (.bin .add (.lit (.int 1)) (.call 7 (.cons (.var 0) (.cons (.lit (.int 4)) (.cons (.lit (.int 4)) .nil))))) (.cons (.var 1) .nil))))))
  (.seq (.set 3 (.tup (.cons (.tup .nil) (.cons (.tup (.cons (.lit (.str [110])) (.cons (.call 6 (.cons (.var 0) (.cons (.lit (.int 30)) .nil))) .nil))) .nil))))
  (.seq (.set 4 (.tup (.cons (.call 10 (.cons (.var 0) (.cons (.lit (.int 6)) (.cons (.lst .nil) .nil)))) (.cons (.tup .nil) (.cons (.tup (.cons (.tup (.cons (.lit (.str [45])) (.cons (.var 3) .nil))) .nil)) .nil)))))
  (.seq (.set 5 (.tup (.cons (.call 10 (.cons (.var 0) (.cons (.lit (.int 7)) (.cons (.lst (.cons (.idx (.var 4) (.lit (.int 0))) .nil)) .nil)))) (.cons (.tup (.cons (.lit (.str [97])) .nil)) (.cons (.blt .tuple (.cons (.comp [6] (.nm 6) (.cons (.bin .add (.var 1) (.var 2)) .nil) .nil (.tup (.cons (.var 6) (.cons (.var 3) .nil)))) .nil)) .nil)))))
  (.seq (.ret (.tup (.cons (.blt .tuple (.cons (.var 1) .nil)) (.cons (.blt .tuple (.cons (.var 2) .nil)) (.cons (.tup (.cons (.var 4) (.cons (.var 5) .nil))) (.cons (.tup (.cons (.tup (.cons (.idx (.var 4) (.lit (.int 0))) (.cons (.tup (.cons (.idx (.var 2) (.lit (.int 0))) .nil)) .nil))) .nil)) .nil))))))
  .skip))))))⟩
def f_law_name_due : Fn := ⟨1, 2, false, (.seq (.ite (.or (.not (.isi (.var 0) [.str])) (.or (.cmp .lt (.blt .len (.cons (.var 0) .nil)) (.lit (.int 1))) (.or (.cmp .gt (.blt .len (.cons (.var 0) .nil)) (.lit (.int 8))) (.cmp .isIn (.var 0) (.call 8 .nil)))))
  (.seq (.ret (.lit (.bl false)))
  .skip)
  .skip)
  (.seq (.ret (.blt .all (.cons (.comp [1] (.nm 1) (.cons (.var 0) .nil) .nil (.cmp .isIn (.var 1) (.lit (.str [97, 98, 99, 100, 101, 102, 103, 104, 105, 106, 107, 108, 109, 110, 111, 112, 113, 114, 115, 116, 117, 118, 119, 120, 121, 122])))) .nil)))
  .skip))⟩
def f_law_type_due : Fn := ⟨2, 4, false, (.seq (.ite (.or (.not (.isi (.var 1) [.tup])) (.or (.cmp .lt (.blt .len (.cons (.var 1) .nil)) (.lit (.int 1))) (.cmp .gt (.blt .len (.cons (.var 1) .nil)) (.lit (.int 60)))))
  (.seq (.ret (.lit (.bl false)))
  .skip)
  .skip)
  (.seq (.for (.nm 2) (.rng1 (.blt .len (.cons (.var 1) .nil)))
  (.seq (.set 3 (.ite (.cmp .eq (.var 2) (.bin .sub (.blt .len (.cons (.var 1) .nil)) (.lit (.int 1)))) (.idx (.var 0) (.lit (.int 1))) (.idx (.var 0) (.lit (.int 0)))))
  (.seq (.ite (.or (.not (.isi (.idx (.var 1) (.var 2)) [.str])) (.cmp .notIn (.idx (.var 1) (.var 2)) (.var 3)))
  (.seq (.ret (.lit (.bl false)))
  .skip)
  .skip)
  .skip)))
  (.seq (.ret (.lit (.bl true)))
  .skip)))⟩
def f_law_is : Fn := ⟨2, 2, false, (.seq (.ret (.and (.isi (.var 0) [.bool]) (.cmp .eq (.var 0) (.var 1))))
  .skip)⟩
def f_law_near_names : Fn := ⟨2, 7, false, (.seq (.set 2 (.call 6 (.cons (.var 0) (.cons (.bin .add (.blt .len (.cons (.var 1) .nil)) (.lit (.int 1))) .nil))))
  (.seq (.set 3 (.idx (.tup (.cons (.lit (.str [65])) (.cons (.lit (.str [90])) (.cons (.lit (.str [48])) (.cons (.lit (.str [57])) (.cons (.lit (.str [32])) (.cons (.lit (.str [95])) (.cons (.lit (.str [45])) (.cons (.lit (.str [35])) (.cons (.lit (.str [84])) (.cons (.lit (.str [85])) (.cons (.lit (.str [10])) (.cons (.lit (.str [9])) (.cons (.lit (.str [46])) (.cons (.lit (.str [123])) (.cons (.lit (.str [96])) (.cons (.lit (.str [64])) .nil))))))))))))))))) (.call 6 (.cons (.var 0) (.cons (.lit (.int 16)) .nil)))))
  (.seq (.set 4 (.idx (.call 8 .nil) (.call 6 (.cons (.var 0) (.cons (.lit (.int 13)) .nil)))))
  (.seq (.set 5 (.sli (.bin .add (.var 1) (.lit (.str [97, 98, 99, 100, 101, 102, 103, 104]))) .nil (.cons (.lit (.int 8)) .nil)))
  (.seq (.set 6 (.lst (.cons (.bin .add (.bin .add (.sli (.var 1) .nil (.cons (.var 2) .nil)) (.var 3)) (.sli (.var 1) (.cons (.var 2) .nil) .nil)) (.cons (.bin .add (.bin .add (.sli (.var 1) .nil (.cons (.var 2) .nil)) (.var 3)) (.sli (.var 1) (.cons (.bin .add (.var 2) (.lit (.int 1))) .nil) .nil)) (.cons (.var 4) (.cons (.sli (.var 4) .nil (.cons (.neg (.lit (.int 1))) .nil)) (.cons (.sli (.bin .add (.var 4) (.var 1)) .nil (.cons (.lit (.int 8)) .nil)) (.cons (.mth .upper (.var 4) .nil) (.cons (.sli (.var 4) (.cons (.lit (.int 1)) .nil) .nil) .nil)))))))))
  (.seq (.set 6 (.bin .add (.var 6) (.lst (.cons (.var 5) (.cons (.bin .add (.var 5) (.call 9 (.cons (.var 0) .nil))) (.cons (.bin .add (.sli (.var 5) .nil (.cons (.lit (.int 7)) .nil)) (.var 3)) (.cons (.mth .upper (.var 1) .nil) (.cons (.bin .add (.var 1) (.lit (.str [10]))) (.cons (.bin .add (.lit (.str [32])) (.var 1)) (.cons (.lit (.str [])) (.cons (.bin .add (.var 5) (.var 5)) .nil)))))))))))
  (.seq (.ret (.bin .add (.var 6) (.lst (.cons (.lit .non) (.cons (.lit (.int 0)) (.cons (.lit (.int 7)) (.cons (.lit (.bl true)) (.cons (.tup (.cons (.var 1) .nil)) (.cons (.lst (.cons (.var 1) .nil)) (.cons (.tup .nil) (.cons (.tup (.cons (.lit (.str [97])) (.cons (.lit (.str [98])) .nil))) (.cons (.tup (.cons (.tup (.cons (.var 1) .nil)) .nil)) .nil))))))))))))
  .skip)))))))⟩
def f_law_names_right : Fn := ⟨2, 5, false, (.seq (.set 2 (.bin .add (.blt .list (.cons (.bin .add (.idx (.var 1) (.lit (.int 0))) (.idx (.var 1) (.lit (.int 1)))) .nil)) (.lst (.cons (.call 10 (.cons (.var 0) (.cons (.lit (.int 8)) (.cons (.lst .nil) .nil)))) (.cons (.call 10 (.cons (.var 0) (.cons (.lit (.int 9)) (.cons (.lst .nil) .nil)))) .nil)))))
  (.seq (.for (.nm 3) (.cons (.var 2) .nil)
  (.seq (.ite (.not (.call 15 (.cons (.call 1 (.cons (.var 3) .nil)) (.cons (.lit (.bl true)) .nil))))
  (.seq (.ret (.lit (.bl false)))
  .skip)
  .skip)
  .skip))
  (.seq (.for (.nm 4) (.cons (.call 16 (.cons (.var 0) (.cons (.idx (.var 2) (.call 6 (.cons (.var 0) (.cons (.blt .len (.cons (.var 2) .nil)) .nil)))) .nil))) .nil)
  (.seq (.ite (.not (.call 15 (.cons (.call 1 (.cons (.var 4) .nil)) (.cons (.call 13 (.cons (.var 4) .nil)) .nil))))
  (.seq (.ret (.lit (.bl false)))
  .skip)
  .skip)
  .skip))
  (.seq (.ret (.call 15 (.cons (.call 1 (.cons (.idx (.call 8 .nil) (.call 6 (.cons (.var 0) (.cons (.lit (.int 13)) .nil)))) .nil)) (.cons (.lit (.bl false)) .nil))))
  .skip))))⟩
def f_law_drawn : Fn := ⟨3, 7, false, (.seq (.par [5, 6] (.cons (.idx (.var 1) (.lit (.int 0))) (.cons (.idx (.var 1) (.lit (.int 1))) .nil)))
  (.seq (.set 3 (.alloc (.lst .nil)))
  (.seq (.for (.nm 4) (.rng1 (.bin .mul (.blt .min (.cons (.lit (.int 1)) (.cons (.blt .len (.cons (.var 5) .nil)) .nil))) (.call 7 (.cons (.var 0) (.cons (.lit (.int 10)) (.cons (.var 2) .nil))))))
  (.seq (.ex (.mth .append (.var 3) (.cons (.idx (.var 5) (.call 6 (.cons (.var 0) (.cons (.blt .len (.cons (.var 5) .nil)) .nil)))) .nil)))
  .skip))
  (.seq (.ret (.bin .add (.blt .tuple (.cons (.var 3) .nil)) (.tup (.cons (.idx (.var 6) (.call 6 (.cons (.var 0) (.cons (.blt .len (.cons (.var 6) .nil)) .nil)))) .nil))))
  .skip))))⟩
def f_law_near_types : Fn := ⟨3, 9, false, (.seq (.par [7, 8] (.cons (.idx (.var 1) (.lit (.int 0))) (.cons (.idx (.var 1) (.lit (.int 1))) .nil)))
  (.seq (.set 3 (.call 6 (.cons (.var 0) (.cons (.blt .len (.cons (.var 2) .nil)) .nil))))
  (.seq (.set 4 (.call 10 (.cons (.var 0) (.cons (.lit (.int 11)) (.cons (.blt .list (.cons (.bin .add (.var 7) (.var 8)) .nil)) .nil)))))
  (.seq (.set 5 (.lst (.cons (.sli (.var 2) .nil (.cons (.neg (.lit (.int 1))) .nil)) (.cons (.bin .add (.var 2) (.sli (.var 2) (.cons (.neg (.lit (.int 1))) .nil) .nil)) (.cons (.bin .add (.bin .add (.sli (.var 2) .nil (.cons (.var 3) .nil)) (.tup (.cons (.var 4) .nil))) (.sli (.var 2) (.cons (.var 3) .nil) .nil)) (.cons (.bin .add (.bin .add (.sli (.var 2) .nil (.cons (.var 3) .nil)) (.tup (.cons (.var 4) .nil))) (.sli (.var 2) (.cons (.bin .add (.var 3) (.lit (.int 1))) .nil) .nil)) (.cons (.tup .nil) (.cons (.blt .list (.cons (.var 2) .nil)) (.cons (.mth .join (.lit (.str [32])) (.cons (.var 2) .nil)) .nil)))))))))
  (.seq (.set 5 (.bin .add (.var 5) (.lst (.cons (.bin .add (.bin .add (.sli (.var 2) .nil (.cons (.var 3) .nil)) (.sli (.var 8) .nil (.cons (.lit (.int 1)) .nil))) (.sli (.var 2) (.cons (.var 3) .nil) .nil)) (.cons (.bin .add (.sli (.var 8) (.cons (.neg (.lit (.int 1))) .nil) .nil) (.var 2)) (.cons (.bin .add (.bin .add (.sli (.var 2) .nil (.cons (.var 3) .nil)) (.tup (.cons (.lit .non) .nil))) (.sli (.var 2) (.cons (.bin .add (.var 3) (.lit (.int 1))) .nil) .nil)) (.cons (.bin .add (.bin .add (.sli (.var 2) .nil (.cons (.var 3) .nil)) (.tup (.cons (.lst (.cons (.idx (.var 2) (.var 3)) .nil)) .nil))) (.sli (.var 2) (.cons (.bin .add (.var 3) (.lit (.int 1))) .nil) .nil)) .nil)))))))
  (.seq (.set 5 (.bin .add (.var 5) (.lst (.cons (.bin .add (.bin .add (.sli (.var 2) .nil (.cons (.var 3) .nil)) (.tup (.cons (.tup (.cons (.idx (.var 2) (.var 3)) .nil)) .nil))) (.sli (.var 2) (.cons (.bin .add (.var 3) (.lit (.int 1))) .nil) .nil)) (.cons (.bin .add (.bin .add (.sli (.var 2) .nil (.cons (.var 3) .nil)) (.tup (.cons (.lit (.bl true)) .nil))) (.sli (.var 2) (.cons (.var 3) .nil) .nil)) (.cons (.idx (.var 2) (.neg (.lit (.int 1)))) (.cons (.lit .non) (.cons (.lit (.int 0)) (.cons (.rev (.var 2)) (.cons (.sli (.var 2) (.cons (.var 3) .nil) .nil) (.cons (.tup (.cons (.var 2) .nil)) .nil)))))))))))
  (.seq (.set 5 (.bin .add (.var 5) (.lst (.cons (.bin .add (.bin .add (.sli (.var 2) .nil (.cons (.var 3) .nil)) (.tup (.cons (.mth .upper (.idx (.var 2) (.var 3)) .nil) .nil))) (.sli (.var 2) (.cons (.bin .add (.var 3) (.lit (.int 1))) .nil) .nil)) (.cons (.bin .add (.bin .add (.sli (.var 2) .nil (.cons (.var 3) .nil)) (.tup (.cons (.bin .add (.idx (.var 2) (.var 3)) (.lit (.str [32]))) .nil))) (.sli (.var 2) (.cons (.bin .add (.var 3) (.lit (.int 1))) .nil) .nil)) (.cons (.bin .add (.bin .add (.sli (.var 2) .nil (.cons (.var 3) .nil)) (.tup (.cons (.lit (.str [])) .nil))) (.sli (.var 2) (.cons (.var 3) .nil) .nil)) .nil))))))
  (.seq (.for (.nm 6) (.cons (.var 7) .nil)
  (.seq (.set 5 (.bin .add (.var 5) (.lst (.cons (.bin .add (.bin .mul (.tup (.cons (.var 6) .nil)) (.lit (.int 59))) (.sli (.var 8) (.cons (.neg (.lit (.int 1))) .nil) .nil)) (.cons (.bin .add (.bin .mul (.tup (.cons (.var 6) .nil)) (.lit (.int 60))) (.sli (.var 8) (.cons (.neg (.lit (.int 1))) .nil) .nil)) (.cons (.bin .add (.var 2) (.tup (.cons (.var 6) .nil))) (.cons (.tup (.cons (.var 6) .nil)) (.cons (.bin .add (.tup (.cons (.var 6) .nil)) (.sli (.var 2) (.cons (.neg (.lit (.int 1))) .nil) .nil)) (.cons (.bin .mul (.tup (.cons (.var 6) .nil)) (.lit (.int 60))) (.cons (.bin .add (.tup (.cons (.var 6) (.cons (.var 6) .nil))) (.sli (.var 2) (.cons (.neg (.lit (.int 1))) .nil) .nil)) .nil))))))))))
  .skip))
  (.seq (.ret (.var 5))
  .skip)))))))))⟩
def f_law_types_right : Fn := ⟨2, 6, false, (.seq (.for (.nm 2) (.rng1 (.lit (.int 3)))
  (.seq (.set 3 (.call 18 (.cons (.var 0) (.cons (.var 1) (.cons (.lit (.int 60)) .nil)))))
  (.seq (.ite (.not (.call 15 (.cons (.call 2 (.cons (.var 1) (.cons (.var 3) .nil))) (.cons (.lit (.bl true)) .nil))))
  (.seq (.ret (.lit (.bl false)))
  .skip)
  .skip)
  (.seq (.set 4 (.call 3 (.cons (.var 3) .nil)))
  (.seq (.ite (.or (.not (.isi (.var 4) [.str])) (.cmp .ne (.var 4) (.mth .join (.lit (.str [32])) (.cons (.var 3) .nil))))
  (.seq (.ret (.lit (.bl false)))
  .skip)
  .skip)
  (.seq (.for (.nm 5) (.cons (.call 19 (.cons (.var 0) (.cons (.var 1) (.cons (.var 3) .nil)))) .nil)
  (.seq (.ite (.not (.call 15 (.cons (.call 2 (.cons (.var 1) (.cons (.var 5) .nil))) (.cons (.call 14 (.cons (.var 1) (.cons (.var 5) .nil))) .nil))))
  (.seq (.ret (.lit (.bl false)))
  .skip)
  .skip)
  .skip))
  .skip))))))
  (.seq (.ret (.call 15 (.cons (.call 2 (.cons (.var 1) (.cons (.idx (.var 1) (.lit (.int 1))) .nil))) (.cons (.cmp .eq (.blt .len (.cons (.idx (.var 1) (.lit (.int 1))) .nil)) (.lit (.int 1))) .nil))))
  .skip))⟩
def f_law_spaced : Fn := ⟨2, 7, false, (.seq (.set 2 (.bin .sub (.lit (.int 400)) (.blt .len (.cons (.mth .join (.lit (.str [32])) (.cons (.var 1) .nil)) .nil))))
  (.seq (.set 3 (.lit (.str [])))
  (.seq (.for (.nm 4) (.rng1 (.blt .len (.cons (.var 1) .nil)))
  (.seq (.set 6 (.bin .mul (.call 6 (.cons (.var 0) (.cons (.lit (.int 3)) .nil))) (.call 6 (.cons (.var 0) (.cons (.lit (.int 2)) .nil)))))
  (.seq (.ite (.cmp .gt (.var 6) (.var 2))
  (.seq (.set 6 (.lit (.int 0)))
  .skip)
  .skip)
  (.seq (.set 2 (.bin .sub (.var 2) (.var 6)))
  (.seq (.set 3 (.bin .add (.bin .add (.var 3) (.bin .mul (.lit (.str [32])) (.bin .add (.var 6) (.blt .min (.cons (.var 4) (.cons (.lit (.int 1)) .nil)))))) (.idx (.var 1) (.var 4))))
  .skip)))))
  (.seq (.set 5 (.call 7 (.cons (.var 0) (.cons (.lit (.int 12)) (.cons (.lit (.int 4)) .nil)))))
  (.seq (.ite (.cmp .eq (.call 6 (.cons (.var 0) (.cons (.lit (.int 5)) .nil))) (.lit (.int 0)))
  (.seq (.set 5 (.var 2))
  .skip)
  .skip)
  (.seq (.ret (.bin .add (.var 3) (.bin .mul (.lit (.str [32])) (.blt .min (.cons (.var 5) (.cons (.var 2) .nil))))))
  .skip))))))⟩
def f_law_fitting : Fn := ⟨1, 2, false, (.seq (.for (.nm 1) (.rng1 (.blt .len (.cons (.var 0) .nil)))
  (.seq (.ite (.cmp .le (.blt .len (.cons (.mth .join (.lit (.str [32])) (.cons (.sli (.var 0) (.cons (.var 1) .nil) .nil) .nil)) .nil)) (.lit (.int 400)))
  (.seq (.ret (.sli (.var 0) (.cons (.var 1) .nil) .nil))
  .skip)
  .skip)
  .skip))
  (.seq (.ret (.sli (.var 0) (.cons (.neg (.lit (.int 1))) .nil) .nil))
  .skip))⟩
def f_law_told : Fn := ⟨2, 3, false, (.seq (.try (.seq (.ret (.tup (.cons (.lit (.str [116, 111, 108, 100])) (.cons (.call 4 (.cons (.var 0) (.cons (.var 1) .nil))) .nil))))
  .skip)
  [⟨[[66, 97, 100, 80, 114, 111, 103, 114, 97, 109], [66, 97, 100, 66, 111, 111, 107], [66, 97, 100, 67, 111, 100, 101], [66, 97, 100, 76, 105, 110, 101], [66, 97, 100, 67, 111, 109, 109, 97, 110, 100], [66, 97, 100, 83, 116, 101, 112], [69, 110, 100, 108, 101, 115, 115], [78, 111, 83, 117, 99, 104], [84, 97, 107, 101, 110]], [0, 2, 3, 4, 5, 6, 7, 8, 9], none, (.ret (.tup (.cons (.lit (.str [111, 116, 104, 101, 114])) (.cons (.lit (.int 0)) .nil))))⟩,
   ⟨[[66, 97, 100, 84, 121, 112, 101]], [1], (some 2), (.ret (.tup (.cons (.lit (.str [114, 97, 105, 115, 101, 100])) (.cons (.tup (.cons (.fld 1 0) (.cons (.fld 1 1) .nil))) .nil))))⟩,
   ⟨[[70, 101, 119, 69, 114, 114, 111, 114]], [0, 1, 2, 3, 4, 5, 6, 7, 8, 9], none, (.ret (.tup (.cons (.lit (.str [111, 116, 104, 101, 114])) (.cons (.lit (.int 1)) .nil))))⟩])
  .skip)⟩
def f_law_read_due : Fn := ⟨2, 3, false, (.seq (.for (.nm 2) (.rng1 (.blt .len (.cons (.var 1) .nil)))
  (.seq (.ite (.cmp .notIn (.idx (.var 1) (.var 2)) (.bin .add (.idx (.var 0) (.lit (.int 0))) (.idx (.var 0) (.lit (.int 1)))))
  (.seq (.ret (.tup (.cons (.lit (.str [114, 97, 105, 115, 101, 100])) (.cons (.tup (.cons (.var 2) (.cons (.lit (.str [110, 97, 109, 101])) .nil))) .nil))))
  .skip)
  .skip)
  .skip))
  (.seq (.ite (.not (.call 14 (.cons (.var 0) (.cons (.blt .tuple (.cons (.var 1) .nil)) .nil))))
  (.seq (.ret (.tup (.cons (.lit (.str [114, 97, 105, 115, 101, 100])) (.cons (.tup (.cons (.neg (.lit (.int 1))) (.cons (.lit (.str [115, 104, 97, 112, 101])) .nil))) .nil))))
  .skip)
  .skip)
  (.seq (.ret (.tup (.cons (.lit (.str [116, 111, 108, 100])) (.cons (.blt .tuple (.cons (.var 1) .nil)) .nil))))
  .skip)))⟩
def f_law_alike : Fn := ⟨2, 3, false, (.seq (.ite (.isi (.var 1) [.tup])
  (.seq (.ite (.or (.not (.isi (.var 0) [.tup])) (.cmp .ne (.blt .len (.cons (.var 0) .nil)) (.blt .len (.cons (.var 1) .nil))))
  (.seq (.ret (.lit (.bl false)))
  .skip)
  .skip)
  (.seq (.ret (.blt .all (.cons (.comp [2] (.nm 2) (.rng1 (.blt .len (.cons (.var 1) .nil))) .nil (.call 25 (.cons (.idx (.var 0) (.var 2)) (.cons (.idx (.var 1) (.var 2)) .nil)))) .nil)))
  .skip))
  .skip)
  (.seq (.ite (.isi (.var 1) [.str])
  (.seq (.ret (.and (.isi (.var 0) [.str]) (.cmp .eq (.var 0) (.var 1))))
  .skip)
  .skip)
  (.seq (.ret (.and (.isi (.var 0) [.int]) (.and (.not (.isi (.var 0) [.bool])) (.cmp .eq (.var 0) (.var 1)))))
  .skip)))⟩
def f_law_read_right : Fn := ⟨3, 4, false, (.seq (.set 3 (.call 22 (.cons (.var 2) .nil)))
  (.seq (.ret (.call 25 (.cons (.call 23 (.cons (.var 1) (.cons (.call 21 (.cons (.var 0) (.cons (.var 3) .nil))) .nil))) (.cons (.call 24 (.cons (.var 1) (.cons (.var 3) .nil))) .nil))))
  .skip))⟩
def f_law_odd_word : Fn := ⟨2, 6, false, (.seq (.set 2 (.blt .list (.cons (.bin .add (.idx (.var 1) (.lit (.int 0))) (.idx (.var 1) (.lit (.int 1)))) .nil)))
  (.seq (.set 3 (.call 10 (.cons (.var 0) (.cons (.lit (.int 13)) (.cons (.var 2) .nil)))))
  (.seq (.set 4 (.idx (.var 2) (.call 6 (.cons (.var 0) (.cons (.blt .len (.cons (.var 2) .nil)) .nil)))))
  (.seq (.set 5 (.lst (.cons (.var 3) (.cons (.mth .upper (.var 4) .nil) (.cons (.bin .add (.bin .add (.var 4) (.lit (.str [9]))) (.var 4)) (.cons (.bin .add (.lit (.str [35])) (.var 4)) (.cons (.bin .add (.var 4) (.lit (.str [49]))) (.cons (.lit (.str [84])) (.cons (.lit (.str [45])) (.cons (.bin .add (.var 4) (.lit (.str [44]))) (.cons (.bin .add (.lit (.str [40])) (.var 4)) (.cons (.bin .add (.var 4) (.lit (.str [95]))) (.cons (.lit (.str [9])) (.cons (.lit (.str [48])) .nil))))))))))))))
  (.seq (.ret (.idx (.var 5) (.call 6 (.cons (.var 0) (.cons (.blt .len (.cons (.var 5) .nil)) .nil)))))
  .skip)))))⟩
def f_law_reading_right : Fn := ⟨2, 11, false, (.seq (.par [4, 5] (.cons (.blt .list (.cons (.idx (.var 1) (.lit (.int 0))) .nil)) (.cons (.blt .list (.cons (.idx (.var 1) (.lit (.int 1))) .nil)) .nil)))
  (.seq (.set 2 (.idx (.srt (.bin .add (.var 4) (.sli (.var 5) .nil (.cons (.lit (.int 1)) .nil)))) (.lit (.int 0))))
  (.seq (.for (.nm 3) (.rng1 (.lit (.int 4)))
  (.seq (.set 6 (.blt .list (.cons (.call 18 (.cons (.var 0) (.cons (.var 1) (.cons (.idx (.tup (.cons (.lit (.int 4)) (.cons (.lit (.int 60)) .nil))) (.bin .mod (.var 3) (.lit (.int 2)))) .nil)))) .nil)))
  (.seq (.set 7 (.call 6 (.cons (.var 0) (.cons (.bin .add (.blt .len (.cons (.var 6) .nil)) (.lit (.int 1))) .nil))))
  (.seq (.set 8 (.bin .add (.bin .add (.sli (.var 6) .nil (.cons (.var 7) .nil)) (.lst (.cons (.call 27 (.cons (.var 0) (.cons (.var 1) .nil))) .nil))) (.sli (.var 6) (.cons (.var 7) .nil) .nil)))
  (.seq (.set 9 (.lst (.cons (.var 6) (.cons (.var 8) (.cons (.bin .add (.var 8) (.lst (.cons (.call 27 (.cons (.var 0) (.cons (.var 1) .nil))) .nil))) (.cons (.sli (.var 6) .nil (.cons (.neg (.lit (.int 1))) .nil)) (.cons (.bin .add (.var 6) (.sli (.var 5) .nil (.cons (.lit (.int 1)) .nil))) (.cons (.bin .add (.sli (.var 5) (.cons (.neg (.lit (.int 1))) .nil) .nil) (.var 6)) (.cons (.rev (.var 6)) (.cons (.lst .nil) .nil))))))))))
  (.seq (.set 9 (.bin .add (.var 9) (.lst (.cons (.bin .add (.sli (.var 6) .nil (.cons (.var 7) .nil)) (.lst (.cons (.call 27 (.cons (.var 0) (.cons (.var 1) .nil))) .nil))) (.cons (.bin .add (.var 6) (.sli (.var 4) .nil (.cons (.lit (.int 1)) .nil))) (.cons (.bin .add (.sli (.var 6) (.cons (.neg (.lit (.int 4))) .nil) .nil) (.sli (.var 6) (.cons (.neg (.lit (.int 4))) .nil) .nil)) .nil))))))
  (.seq (.for (.nm 10) (.cons (.var 9) .nil)
  (.seq (.ite (.not (.call 26 (.cons (.var 0) (.cons (.var 1) (.cons (.var 10) .nil)))))
  (.seq (.ret (.lit (.bl false)))
  .skip)
  .skip)
  .skip))
  .skip)))))))
  (.seq (.ite (.and (.cmp .lt (.blt .len (.cons (.var 2) .nil)) (.lit (.int 6))) (.or (.not (.call 26 (.cons (.var 0) (.cons (.var 1) (.cons (.bin .add (.bin .mul (.lst (.cons (.var 2) .nil)) (.lit (.int 60))) (.sli (.var 5) .nil (.cons (.lit (.int 1)) .nil))) .nil))))) (.not (.call 26 (.cons (.var 0) (.cons (.var 1) (.cons (.bin .add (.bin .mul (.lst (.cons (.var 2) .nil)) (.lit (.int 59))) (.sli (.var 5) .nil (.cons (.lit (.int 1)) .nil))) .nil)))))))
  (.seq (.ret (.lit (.bl false)))
  .skip)
  .skip)
  (.seq (.ret (.call 26 (.cons (.var 0) (.cons (.var 1) (.cons (.sli (.var 5) .nil (.cons (.lit (.int 1)) .nil)) .nil)))))
  .skip)))))⟩
def f_law : Fn := ⟨1, 4, false, (.seq (.set 1 (.call 5 (.cons (.var 0) .nil)))
  (.seq (.for (.nm 2) (.rng1 (.lit (.int 2)))
  (.seq (.set 3 (.call 12 (.cons (.var 1) .nil)))
  (.seq (.ite (.or (.not (.call 17 (.cons (.var 1) (.cons (.var 3) .nil)))) (.or (.not (.call 20 (.cons (.var 1) (.cons (.var 3) .nil)))) (.not (.call 28 (.cons (.var 1) (.cons (.var 3) .nil))))))
  (.seq (.ret (.lit (.bl false)))
  .skip)
  .skip)
  .skip)))
  (.seq (.ret (.lit (.bl true)))
  .skip)))⟩
def fs : List Fn := [f_are_texts, f_is_name, f_is_type, f_type_text, f_read_type, f_law_box, f_law_take, f_law_bias, f_law_reserved, f_law_letter, f_law_fresh, f_law_lot, f_law_program, f_law_name_due, f_law_type_due, f_law_is, f_law_near_names, f_law_names_right, f_law_drawn, f_law_near_types, f_law_types_right, f_law_spaced, f_law_fitting, f_law_told, f_law_read_due, f_law_alike, f_law_read_right, f_law_odd_word, f_law_reading_right, f_law]
end Lw
set_option linter.all false
set_option maxRecDepth 100000
set_option maxHeartbeats 4000000
/-! K2a: names. -/
namespace Lw
open Fb
def isS : D → Bool
  | .str _ => true
  | _ => false
def areT : D → Bool
  | .tup xs => xs.all isS
  | _ => false
def short : D → Prop
  | .tup xs => xs.length ≤ 100000
  | .str xs => xs.length ≤ 100000
  | _ => True
theorem isS_ty {S : Store} {d : D} : D.isTy S d .str = isS d := by cases d <;> rfl
variable {fuel l : Nat} {S : Store}
theorem are_texts {d : D} (hf : D.free d = true) (hs : short d) : callF fs fuel (l + 1) 0 [d] S = .ok (.bl (areT d)) S := by
  rw [callF_succ (show fs[0]? = some f_are_texts from rfl) rfl]
  refine call_freeE (S' := []) rfl (tops_free (by simp [D.frees, hf])) rfl ?_
  cases d with
  | tup xs =>
    have hs : xs.length ≤ 100000 := hs
    have e : compM (elG ⟨callF fs fuel l, fuel, l⟩ [1] (.nm 1) (.cons (.not (.isi (.var 1) [.str])) .nil) (.var 1) [some (.tup xs), none]) xs 0 [] = .ok (xs.filterMap fun x => if !isS x then some x else none) [] := by
      refine compM_fm (fun x hx => ?_) (by omega)
      exact el_fl (t := !isS x) (by simp (disch := (first | decide | assumption | (simp only [List.length_append, List.length_cons, List.length_nil, List.length_map] <;> omega) | omega)) [wipeE, f_are_texts, isS_ty]) fun _ => by simp (disch := (first | decide | assumption | (simp only [List.length_append, List.length_cons, List.length_nil, List.length_map] <;> omega) | omega)) [wipeE]
    simp (disch := (first | decide | assumption | (simp only [List.length_append, List.length_cons, List.length_nil, List.length_map] <;> omega) | omega)) [-x_comp, f_are_texts, srcD, x_comp2, e, D.isTy, empty_fm, areT]
  | _ => simp (disch := (first | decide | assumption | (simp only [List.length_append, List.length_cons, List.length_nil, List.length_map] <;> omega) | omega)) [f_are_texts, D.isTy, areT]
def resv : List (List Nat) := [[98, 97, 115, 101], [99, 97, 108, 108], [99, 97, 115, 101], [101, 108, 115, 101], [101, 110, 100], [102, 117, 110], [103, 105, 118, 101], [103, 114, 111, 117, 110, 100, 115], [105, 102], [108, 101, 116], [111, 117, 116], [115, 116, 97, 114, 116], [119, 114, 97, 112, 115]]
def lets : List Nat := [97, 98, 99, 100, 101, 102, 103, 104, 105, 106, 107, 108, 109, 110, 111, 112, 113, 114, 115, 116, 117, 118, 119, 120, 121, 122]
def isL (c : Nat) : Bool := lets.contains c
def isLd : D → Bool
  | .str [c] => isL c
  | _ => false
theorem niL {c : Nat} {S : Store} : cmpM .notIn (.str [c]) (.str [97, 98, 99, 100, 101, 102, 103, 104, 105, 106, 107, 108, 109, 110, 111, 112, 113, 114, 115, 116, 117, 118, 119, 120, 121, 122]) S = .ok (!isL c) S := (rfl)
theorem inL {c : Nat} {S : Store} : cmpM .isIn (.str [c]) (.str [97, 98, 99, 100, 101, 102, 103, 104, 105, 106, 107, 108, 109, 110, 111, 112, 113, 114, 115, 116, 117, 118, 119, 120, 121, 122]) S = .ok (isL c) S := (rfl)
def nameB : D → Bool
  | .str w => decide (1 ≤ w.length) && decide (w.length ≤ 8) && !decide (w ∈ resv) && w.all isL
  | _ => false
theorem reserved : callF fs fuel (l + 1) 8 [] S = .ok (.lst (resv.map .str)) S := by
  rw [callF_succ (show fs[8]? = some f_law_reserved from rfl) rfl]
  exact call_freeE (S' := []) rfl rfl rfl rfl
theorem inW {w : List Nat} {S : Store} : cmpM .isIn (.str w) (.tup [(.str [98, 97, 115, 101]), (.str [99, 97, 108, 108]), (.str [99, 97, 115, 101]), (.str [101, 108, 115, 101]), (.str [101, 110, 100]), (.str [102, 117, 110]), (.str [103, 105, 118, 101]), (.str [103, 114, 111, 117, 110, 100, 115]), (.str [105, 102]), (.str [108, 101, 116]), (.str [111, 117, 116]), (.str [115, 116, 97, 114, 116]), (.str [119, 114, 97, 112, 115])]) S = .ok (decide (w ∈ resv)) S := in_tup (ys := resv)
theorem is_name {d : D} (hf : D.free d = true) (hs : short d) : callF fs fuel (l + 1) 1 [d] S = .ok (.bl (nameB d)) S := by
  rw [callF_succ (show fs[1]? = some f_is_name from rfl) rfl]
  refine call_freeE (S' := []) rfl (tops_free (by simp [D.frees, hf])) rfl ?_
  cases d with
  | str w =>
    have hs : w.length ≤ 100000 := hs
    have e : compM (elG ⟨callF fs fuel l, fuel, l⟩ [1] (.nm 1) (.cons (.cmp .notIn (.var 1) (.glo [76, 69, 84, 84, 69, 82, 83] (.str [97, 98, 99, 100, 101, 102, 103, 104, 105, 106, 107, 108, 109, 110, 111, 112, 113, 114, 115, 116, 117, 118, 119, 120, 121, 122]))) .nil) (.var 1) [some (.str w), none]) (w.map fun c => .str [c]) 0 [] = .ok ((w.map fun c => D.str [c]).filterMap fun x => if !isLd x then some x else none) [] := by
      refine compM_fm (fun x hx => ?_) (by simp; omega)
      obtain ⟨c, _, rfl⟩ := List.mem_map.mp hx
      exact el_fl (t := !isL c) (by simp (disch := (first | decide | assumption | (simp only [List.length_append, List.length_cons, List.length_nil, List.length_map] <;> omega) | omega)) [wipeE, niL]) fun _ => by simp (disch := (first | decide | assumption | (simp only [List.length_append, List.length_cons, List.length_nil, List.length_map] <;> omega) | omega)) [wipeE]
    have e2 : ((w.map fun c => D.str [c]).filterMap fun x => if isLd x = false then some x else none).isEmpty = w.all isL := by
      rw [empty_fm, List.all_map]; rfl
    rw [List.filterMap_map] at e2
    have q1 : ((1 : Int) ≤ (w.length : Int)) = (1 ≤ w.length) := by rw [eq_iff_iff]; omega
    have q2 : ((w.length : Int) ≤ 8) = (w.length ≤ 8) := by rw [eq_iff_iff]; omega
    by_cases h1 : 1 ≤ w.length <;> by_cases h2 : w.length ≤ 8 <;> by_cases h3 : w ∈ resv <;> simp (disch := (first | decide | assumption | (simp only [List.length_append, List.length_cons, List.length_nil, List.length_map] <;> omega) | omega)) [-x_comp, -o_inT, f_is_name, srcD, x_comp2, e, e2, D.isTy, inW, nameB, q1, q2, h1, h2, h3]
  | _ => simp (disch := (first | decide | assumption | (simp only [List.length_append, List.length_cons, List.length_nil, List.length_map] <;> omega) | omega)) [f_is_name, D.isTy, nameB]
theorem name_due {d : D} (hf : D.free d = true) (hs : short d) : callF fs fuel (l + 2) 13 [d] S = .ok (.bl (nameB d)) S := by
  rw [callF_succ (show fs[13]? = some f_law_name_due from rfl) rfl]
  refine call_freeE (S' := []) rfl (tops_free (by simp [D.frees, hf])) rfl ?_
  cases d with
  | str w =>
    have hs : w.length ≤ 100000 := hs
    have e : compM (elG ⟨callF fs fuel (l + 1), fuel, l + 1⟩ [1] (.nm 1) .nil (.cmp .isIn (.var 1) (.lit (.str [97, 98, 99, 100, 101, 102, 103, 104, 105, 106, 107, 108, 109, 110, 111, 112, 113, 114, 115, 116, 117, 118, 119, 120, 121, 122]))) [some (.str w), none]) (w.map fun c => .str [c]) 0 [] = .ok ((w.map isL).map .bl) [] := by
      refine compM_all ?_ (by simp; omega)
      rw [List.map_map]
      refine all2_map fun c _ S => ?_
      exact el_nm (by simp (disch := (first | decide | assumption | (simp only [List.length_append, List.length_cons, List.length_nil, List.length_map] <;> omega) | omega)) [wipeE, inL])
    have q1 : ((w.length : Int) < 1) = ¬ (1 ≤ w.length) := by rw [eq_iff_iff]; omega
    have q2 : ((8 : Int) < (w.length : Int)) = ¬ (w.length ≤ 8) := by rw [eq_iff_iff]; omega
    have e2 : bltD [] .all [.lst ((w.map isL).map .bl)] = some (.bl (w.all isL)) := by rw [b_all, List.all_map]; rfl
    have r : ∀ S : Store, callF fs fuel (l + 1) 8 [] S = .ok (.lst (resv.map .str)) S := fun S => reserved
    by_cases h1 : 1 ≤ w.length <;> by_cases h2 : w.length ≤ 8 <;> by_cases h3 : w ∈ resv <;> simp (disch := (first | decide | assumption | (simp only [List.length_append, List.length_cons, List.length_nil, List.length_map] <;> omega) | omega)) [-x_comp, -o_inT, -List.map_map, f_law_name_due, srcD, x_comp2, e, e2, D.isTy, in_lst, r, nameB, q1, q2, h1, h2, h3]
  | _ => simp (disch := (first | decide | assumption | (simp only [List.length_append, List.length_cons, List.length_nil, List.length_map] <;> omega) | omega)) [f_law_name_due, D.isTy, nameB]
end Lw
set_option linter.all false
set_option maxRecDepth 100000
set_option maxHeartbeats 4000000
/-! K2b: types. -/
namespace Lw
open Fb
def prog (ws gs : List (List Nat)) (x y : D) : D := .tup [.tup (ws.map .str), .tup (gs.map .str), x, y]
theorem prog_free {ws gs : List (List Nat)} {x y : D} (hx : D.free x = true) (hy : D.free y = true) : D.free (prog ws gs x y) = true := by
  simp [prog, D.free, D.frees, frees_strs, hx, hy]
def tyB (ws gs : List (List Nat)) (init : List (List Nat)) (z : List Nat) : Bool := decide (init.length + 1 ≤ 60) && decide (z ∈ gs) && init.all fun w => decide (w ∈ ws)
def typeB (ws gs : List (List Nat)) : D → Bool
  | .tup xs => match strsOf xs with
    | some zs => match zs.getLast? with
      | some z => tyB ws gs zs.dropLast z
      | none => false
    | none => false
  | _ => false
theorem strs_all : ∀ {xs : List D}, xs.all isS = true → ∃ zs : List (List Nat), xs = zs.map .str
  | [], _ => ⟨[], rfl⟩
  | x :: r, h => by
    rw [List.all_cons, Bool.and_eq_true] at h
    obtain ⟨zs, rfl⟩ := strs_all h.2
    cases x with
    | str w => exact ⟨w :: zs, rfl⟩
    | _ => exact absurd h.1 (by simp [isS])
theorem strs_not : ∀ {xs : List D}, xs.all isS = false → strsOf xs = none
  | [], h => by cases h
  | x :: r, h => by
    cases x with
    | str w =>
      have h2 : r.all isS = false := by simpa [isS] using h
      show (strsOf r).map (w :: ·) = none
      rw [strs_not h2]; rfl
    | _ => rfl
theorem typeB_strs {ws gs init : List (List Nat)} {z : List Nat} : typeB ws gs (.tup ((init ++ [z]).map .str)) = tyB ws gs init z := by
  show (match strsOf ((init ++ [z]).map D.str) with
    | some zs => (match zs.getLast? with
      | some z => tyB ws gs zs.dropLast z
      | none => false)
    | none => false) = _
  rw [strs_map]
  simp
def isW (ws : List (List Nat)) : D → Bool
  | .str c => decide (c ∈ ws)
  | _ => false
variable {fuel l : Nat} {S : Store} {ws gs : List (List Nat)} {x y : D}
theorem is_type {d : D} (hx : D.free x = true) (hy : D.free y = true) (hf : D.free d = true) (hs : short d) : callF fs fuel (l + 2) 2 [prog ws gs x y, d] S = .ok (.bl (typeB ws gs d)) S := by
  rw [callF_succ (show fs[2]? = some f_is_type from rfl) rfl]
  refine call_freeE (S' := []) rfl (tops_free (by simp [D.frees, hf, prog_free hx hy])) rfl ?_
  have r : ∀ S : Store, callF fs fuel (l + 1) 0 [d] S = .ok (.bl (areT d)) S := fun S => are_texts hf hs
  cases d with
  | tup xs =>
    have hs : xs.length ≤ 100000 := hs
    cases ha : xs.all isS with
    | false =>
      have e : typeB ws gs (.tup xs) = false := by simp [typeB, strs_not ha]
      have e2 : areT (.tup xs) = false := ha
      rw [e2] at r
      simp (disch := (first | decide | assumption | (simp only [List.length_append, List.length_cons, List.length_nil, List.length_map] <;> omega) | omega)) [f_is_type, r, e]
    | true =>
      obtain ⟨zs, rfl⟩ := strs_all ha
      have e2 : areT (.tup (zs.map .str)) = true := ha
      rw [e2] at r
      rcases List.eq_nil_or_concat zs with rfl | ⟨init, z, rfl⟩
      · have r : ∀ S : Store, callF fs fuel (l + 1) 0 [.tup []] S = .ok (.bl true) S := r
        simp (disch := (first | decide | assumption | (simp only [List.length_append, List.length_cons, List.length_nil, List.length_map] <;> omega) | omega)) [f_is_type, r, typeB, strsOf]
      · rw [List.concat_eq_append] at *
        rw [typeB_strs]
        have e3 : (init ++ [z]).map D.str = init.map D.str ++ [.str z] := by simp
        rw [e3] at r ⊢
        have e : compM (elG ⟨callF fs fuel (l + 1), fuel, l + 1⟩ [2] (.nm 2) (.cons (.cmp .notIn (.var 2) (.idx (.var 0) (.lit (.int 0)))) .nil) (.var 2) [some (.tup [.tup (ws.map .str), .tup (gs.map .str), x, y]), some (.tup (init.map D.str ++ [.str z])), none]) (init.map .str) 0 [] = .ok ((init.map D.str).filterMap fun x => if !isW ws x then some x else none) [] := by
          refine compM_fm (fun x hx => ?_) (by simp; simp at hs; omega)
          obtain ⟨c, _, rfl⟩ := List.mem_map.mp hx
          exact el_fl (t := !decide (c ∈ ws)) (by simp (disch := (first | decide | assumption | (simp only [List.length_append, List.length_cons, List.length_nil, List.length_map] <;> omega) | omega)) [-o_inT, wipeE, prog, ni_tup]) fun _ => by simp (disch := (first | decide | assumption | (simp only [List.length_append, List.length_cons, List.length_nil, List.length_map] <;> omega) | omega)) [wipeE]
        have e5 : (((init.map D.str).filterMap fun x => if isW ws x = false then some x else none).isEmpty) = init.all fun w => decide (w ∈ ws) := by
          rw [empty_fm, List.all_map]; rfl
        rw [List.filterMap_map] at e5
        have q1 : ((1 : Int) ≤ (init.length : Int) + 1) = True := by rw [eq_iff_iff]; simp; omega
        have q2 : ((init.length : Int) + 1 ≤ 60) = (init.length ≤ 59) := by rw [eq_iff_iff]; omega
        by_cases h1 : init.length ≤ 59 <;> by_cases h2 : z ∈ gs <;> simp (disch := (first | decide | assumption | (simp only [List.length_append, List.length_cons, List.length_nil, List.length_map] <;> omega) | omega)) [-x_comp, -o_inT, f_is_type, prog, r, q1, q2, srcD, x_comp2, e, e5, in_tup, o_last, c_init, tyB, h1, h2]
  | _ => simp (disch := (first | decide | assumption | (simp only [List.length_append, List.length_cons, List.length_nil, List.length_map] <;> omega) | omega)) [f_is_type, r, areT, typeB]
end Lw
set_option linter.all false
set_option maxRecDepth 100000
set_option maxHeartbeats 4000000
/-! K2c: the law's types. -/
namespace Lw
open Fb
variable {fuel l : Nat} {S : Store} {ws gs : List (List Nat)} {x y : D}
def okK (ws gs : List (List Nat)) (xs : List D) : D → Bool
  | .int k => match xs[k.toNat]? with
    | some (.str w) => decide (w ∈ if k.toNat + 1 = xs.length then gs else ws)
    | _ => false
  | _ => false
theorem rng_all {n : Nat} {p : D → Bool} : (rngD 0 n).all p = true ↔ ∀ k : Nat, k < n → p (.int k) = true := by
  rw [List.all_eq_true]
  refine ⟨fun h k hk => h _ ?_, fun h x hx => ?_⟩
  · unfold rngD
    exact List.mem_map.mpr ⟨k, List.mem_range.mpr hk, by simp⟩
  · obtain ⟨i, rfl, hi⟩ := rng_mem hx
    exact h i hi
theorem okK_all {xs : List D} (h : xs ≠ []) (hl : xs.length ≤ 60) : (rngD 0 xs.length).all (okK ws gs xs) = typeB ws gs (.tup xs) := by
  cases ha : xs.all isS with
  | false =>
    have e : typeB ws gs (.tup xs) = false := by simp [typeB, strs_not ha]
    rw [e]
    cases q : (rngD 0 xs.length).all (okK ws gs xs) with
    | false => rfl
    | true =>
      exfalso
      have q := rng_all.mp q
      have : xs.all isS = true := List.all_eq_true.mpr fun z hz => by
        obtain ⟨k, hk, e⟩ := List.getElem_of_mem hz
        have := q k hk
        unfold okK at this
        simp only [Int.toNat_natCast, List.getElem?_eq_getElem hk, e] at this
        cases z <;> first | rfl | (simp at this)
      rw [ha] at this; cases this
  | true =>
    obtain ⟨zs, rfl⟩ := strs_all ha
    rcases List.eq_nil_or_concat zs with rfl | ⟨init, z, rfl⟩
    · exact absurd rfl h
    · rw [List.concat_eq_append] at *
      rw [typeB_strs]
      have hl2 : init.length + 1 ≤ 60 := by simpa using hl
      rw [Bool.eq_iff_iff, rng_all]
      unfold tyB
      simp only [Bool.and_eq_true, decide_eq_true_eq, List.all_eq_true]
      have hlen : ((init ++ [z]).map D.str).length = init.length + 1 := by simp
      rw [hlen]
      refine ⟨fun q => ⟨⟨hl2, ?_⟩, fun w hw => ?_⟩, fun ⟨⟨_, q1⟩, q2⟩ k hk => ?_⟩
      · have := q init.length (by omega)
        unfold okK at this
        rw [hlen] at this
        simpa using this
      · obtain ⟨k, hk, e⟩ := List.getElem_of_mem hw
        have := q k (by omega)
        unfold okK at this
        rw [hlen] at this
        simp only [Int.toNat_natCast, List.getElem?_map, List.getElem?_append_left hk, List.getElem?_eq_getElem hk, Option.map_some, e] at this
        rw [decide_eq_true_eq, if_neg (by omega)] at this
        exact this
      · unfold okK
        rw [hlen]
        by_cases e : k = init.length
        · subst e; simpa using q1
        · have hk2 : k < init.length := by omega
          simp only [Int.toNat_natCast, List.getElem?_map, List.getElem?_append_left hk2, List.getElem?_eq_getElem hk2, Option.map_some]
          rw [decide_eq_true_eq, if_neg (by omega)]
          exact q2 _ (List.getElem_mem hk2)
theorem type_due {d : D} (hx : D.free x = true) (hy : D.free y = true) (hf : D.free d = true) (hs : short d) : callF fs fuel (l + 1) 14 [prog ws gs x y, d] S = .ok (.bl (typeB ws gs d)) S := by
  rw [callF_succ (show fs[14]? = some f_law_type_due from rfl) rfl]
  refine call_freeE (S' := []) rfl (tops_free (by simp [D.frees, hf, prog_free hx hy])) rfl ?_
  cases d with
  | tup xs =>
    have hs : xs.length ≤ 100000 := hs
    by_cases h1 : 1 ≤ xs.length
    · have q1 : ((xs.length : Int) < 1) = False := eq_false (by omega)
      by_cases h2 : xs.length ≤ 60
      · have q2 : ((60 : Int) < (xs.length : Int)) = False := eq_false (by omega)
        rw [← okK_all (by intro z; rw [z] at h1; simp at h1) h2]
        generalize hB : (IS.seq (.set 3 (.ite (.cmp .eq (.var 2) (.bin .sub (.blt .len (.cons (.var 1) .nil)) (.lit (.int 1)))) (.idx (.var 0) (.lit (.int 1))) (.idx (.var 0) (.lit (.int 0)))))
          (.seq (.ite (.or (.not (.isi (.idx (.var 1) (.var 2)) [.str])) (.cmp .notIn (.idx (.var 1) (.var 2)) (.var 3)))
          (.seq (.ret (.lit (.bl false)))
          .skip)
          .skip)
          .skip)) = B
        have loop := forL_chk (f := patB (.nm 2) fun σ' => exS ⟨callF fs fuel l, fuel, l⟩ B σ') (p := okK ws gs xs) (d := .bl false) (S := []) (fun σ => ∃ a b, σ = [some (.tup [.tup (ws.map .str), .tup (gs.map .str), x, y]), some (.tup xs), a, b])
          (xs := rngD 0 xs.length) (σ := [some (.tup [.tup (ws.map .str), .tup (gs.map .str), x, y]), some (.tup xs), none, none]) (fun z hz σ ⟨a, b, e⟩ => by
            obtain ⟨k, rfl, hk⟩ := rng_mem hz
            subst e hB
            obtain ⟨u, e3⟩ : ∃ u, xs[k] = u := ⟨_, rfl⟩
            have e1 : xs[k]? = some u := by rw [List.getElem?_eq_getElem hk, e3]
            have q3 : ((k : Int) = (xs.length : Int) - 1) = (k + 1 = xs.length) := by rw [eq_iff_iff]; omega
            have q4 : (0 : Int) ≤ (k : Int) := by omega
            unfold okK
            simp only [Int.toNat_natCast, e1]
            cases u with
            | str w =>
              by_cases h3 : k + 1 = xs.length
              · simp only [if_pos h3]
                refine ⟨fun h => ?_, fun h => ?_⟩
                · simp (disch := (first | decide | assumption | (simp only [List.length_append, List.length_cons, List.length_nil, List.length_map] <;> omega) | omega)) [D.isTy, e3, q3, h3, ni_tup, h]
                · simp (disch := (first | decide | assumption | (simp only [List.length_append, List.length_cons, List.length_nil, List.length_map] <;> omega) | omega)) [D.isTy, e3, q3, h3, ni_tup, h]
              · simp only [if_neg h3]
                refine ⟨fun h => ?_, fun h => ?_⟩
                · simp (disch := (first | decide | assumption | (simp only [List.length_append, List.length_cons, List.length_nil, List.length_map] <;> omega) | omega)) [D.isTy, e3, q3, h3, ni_tup, h]
                · simp (disch := (first | decide | assumption | (simp only [List.length_append, List.length_cons, List.length_nil, List.length_map] <;> omega) | omega)) [D.isTy, e3, q3, h3, ni_tup, h]
            | _ =>
              by_cases h3 : k + 1 = xs.length <;> simp (disch := (first | decide | assumption | (simp only [List.length_append, List.length_cons, List.length_nil, List.length_map] <;> omega) | omega)) [D.isTy, e3, q3, h3]) ⟨_, _, rfl⟩
        cases q : (rngD 0 xs.length).all (okK ws gs xs) with
        | true =>
          obtain ⟨σ', e, _⟩ := loop.1 q
          simp (disch := (first | decide | assumption | (simp only [List.length_append, List.length_cons, List.length_nil, List.length_map] <;> omega) | omega)) [f_law_type_due, D.isTy, prog, q1, q2, rngM_nat (m := xs.length), hB, e]
        | false =>
          have e := loop.2 q
          simp (disch := (first | decide | assumption | (simp only [List.length_append, List.length_cons, List.length_nil, List.length_map] <;> omega) | omega)) [f_law_type_due, D.isTy, prog, q1, q2, rngM_nat (m := xs.length), hB, e]
      · have q2 : ((60 : Int) < (xs.length : Int)) = True := eq_true (by omega)
        have e : typeB ws gs (.tup xs) = false := by
          cases ha : xs.all isS with
          | false => simp [typeB, strs_not ha]
          | true =>
            obtain ⟨zs, rfl⟩ := strs_all ha
            rcases List.eq_nil_or_concat zs with rfl | ⟨init, z, rfl⟩
            · rfl
            · rw [List.concat_eq_append] at *
              rw [typeB_strs]
              have : ¬ (init.length + 1 ≤ 60) := by simpa using h2
              simp [tyB, this]
        simp (disch := (first | decide | assumption | (simp only [List.length_append, List.length_cons, List.length_nil, List.length_map] <;> omega) | omega)) [f_law_type_due, D.isTy, prog, q1, q2, e]
    · have h0 : xs = [] := List.eq_nil_of_length_eq_zero (by omega)
      subst h0
      simp (disch := (first | decide | assumption | (simp only [List.length_append, List.length_cons, List.length_nil, List.length_map] <;> omega) | omega)) [f_law_type_due, D.isTy, prog, typeB, strsOf]
  | _ => simp (disch := (first | decide | assumption | (simp only [List.length_append, List.length_cons, List.length_nil, List.length_map] <;> omega) | omega)) [f_law_type_due, D.isTy, typeB]
end Lw
set_option linter.all false
set_option maxRecDepth 100000
set_option maxHeartbeats 4000000
/-! K2d: the box. -/
namespace Lw
open Fb
theorem lows_ints {k : Nat} : ∀ {cs : List D}, (∀ x ∈ cs, ∃ z, x = .int z) → D.lows k cs = true
  | [], _ => rfl
  | x :: r, h => by
    obtain ⟨z, rfl⟩ := h x List.mem_cons_self
    show (true && D.lows k r) = true
    rw [lows_ints fun y hy => h y (List.mem_cons_of_mem _ hy)]; rfl
theorem tops_ints : ∀ {cs : List D}, (∀ x ∈ cs, ∃ z, x = .int z) → D.tops cs = 0
  | [], _ => rfl
  | x :: r, h => by
    obtain ⟨z, rfl⟩ := h x List.mem_cons_self
    show max 0 (D.tops r) = 0
    rw [tops_ints fun y hy => h y (List.mem_cons_of_mem _ hy)]; rfl
/-- the cells that are given -/
class KOk (K : Cell) : Prop where
  of : ∃ cs : List D, K = .lst cs ∧ (∀ x ∈ cs, ∃ z, x = .int z) ∧ cs ≠ []
/-- the box: how many were taken, where it stands, the cells -/
def Box (c : Cell) : Prop := ∃ (a b : Int), c = .lst [.int a, .int b, .cell 0] ∧ 0 ≤ a
theorem Box.low {c : Cell} (h : Box c) : c.low 2 = true := by
  obtain ⟨a, b, rfl, _⟩ := h
  rfl
theorem Box.top {c : Cell} (h : Box c) : c.topB 2 = true := by
  obtain ⟨a, b, rfl, _⟩ := h
  rfl
theorem KOk.low {K : Cell} (h : KOk K) : K.low 2 = true := by
  obtain ⟨cs, rfl, hi, _⟩ := h.of
  exact lows_ints hi
theorem KOk.top {K : Cell} (h : KOk K) : K.topB 2 = true := by
  obtain ⟨cs, rfl, hi, _⟩ := h.of
  show decide (D.tops cs ≤ 2) = true
  rw [tops_ints hi]; rfl
/-- a def that draws: of the box at 1 -/
def Dr (K : Cell) (fuel l f : Nat) (args : List D) (P : D → Prop) : Prop := ∀ (c : Cell) (R : Store), Box c → ∃ d c', callF fs fuel l f (.cell 1 :: args) (K :: c :: R) = .ok d (K :: c' :: R) ∧ Box c' ∧ P d
variable {K : Cell} [hK : KOk K] {fuel l : Nat}
theorem Dr.mono {f : Nat} {args : List D} {P P' : D → Prop} (h : Dr K fuel l f args P) (i : ∀ d, P d → P' d) : Dr K fuel l f args P' := fun c R b => by
  obtain ⟨d, c', h1, h2, h3⟩ := h c R b
  exact ⟨d, c', h1, h2, i d h3⟩
/-- from the body's run -/
theorem Dr.of {f : Nat} {fn : Fn} {args : List D} {P : D → Prop} (hf : fs[f]? = some fn) (hl : (D.cell 1 :: args).length = fn.np) (hk : fn.keep = false) (ha : D.tops args = 0)
    (h : ∀ c, Box c → ∃ d d' c' S', exS ⟨callF fs fuel l, fuel, l⟩ fn.body ((D.cell 1 :: args).map some ++ List.replicate (fn.nl - fn.np) none) [K, c] = .ok (.rt d) (K :: c' :: S') ∧ Box c' ∧ frz 2 (K :: c' :: S') 4 d = some d' ∧ P d') : Dr K fuel (l + 1) f args P := fun c R b => by
  obtain ⟨d, d', c', S', h1, h2, h3, h4⟩ := h c b
  refine ⟨d', c', ?_, h2, h4⟩
  rw [callF_succ hf hl]
  exact call_twoZ hk (by show max (1 + 1) (D.tops args) = 2; rw [ha]; rfl) hK.top b.top h1 h3 hK.low h2.low
/-- kept from simp -/
def Hold (P : D → Cell → Store → Prop) (d : D) (c : Cell) (S : Store) : Prop := P d c S
theorem Dr.go {f : Nat} {fn : Fn} {args : List D} {P : D → Prop} (hf : fs[f]? = some fn) (hl : (D.cell 1 :: args).length = fn.np) (hk : fn.keep = false) (ha : D.tops args = 0)
    (h : ∀ c, Box c → ∃ d c' S', exS ⟨callF fs fuel l, fuel, l⟩ fn.body ((D.cell 1 :: args).map some ++ List.replicate (fn.nl - fn.np) none) [K, c] = .ok (.rt d) (K :: c' :: S') ∧ Hold (fun d c' S' => Box c' ∧ ∃ d', frz 2 (K :: c' :: S') 4 d = some d' ∧ P d') d c' S') : Dr K fuel (l + 1) f args P :=
  Dr.of hf hl hk ha fun c b => by
    obtain ⟨d, c', S', h1, h2, d', h3, h4⟩ := h c b
    exact ⟨d, d', c', S', h1, h2, h3, h4⟩
theorem Dr.go0 {f : Nat} {fn : Fn} {args : List D} {P : D → Prop} (hf : fs[f]? = some fn) (hl : (D.cell 1 :: args).length = fn.np) (hk : fn.keep = false) (ha : D.tops args = 0)
    (h : ∀ c, Box c → ∃ d c' S', exS ⟨callF fs fuel l, fuel, l⟩ fn.body ((D.cell 1 :: args).map some ++ List.replicate (fn.nl - fn.np) none) [K, c] = .ok (.rt d) (K :: c' :: S') ∧ Hold (fun d c' _ => Box c' ∧ D.free d = true ∧ P d) d c' S') : Dr K fuel (l + 1) f args P :=
  Dr.of hf hl hk ha fun c b => by
    obtain ⟨d, c', S', h1, h2, h3, h4⟩ := h c b
    exact ⟨d, d, c', S', h1, h2, frz_low 4 (low_free h3), h4⟩
theorem take {many : Int} (hm : 0 < many) : Dr K fuel (l + 1) 6 [.int many] fun d => ∃ n : Nat, d = .int n ∧ (n : Int) < many := by
  refine Dr.of (l := l) (show fs[6]? = some f_law_take from rfl) rfl rfl rfl fun c b => ?_
  obtain ⟨a, b, rfl, h0⟩ := b
  obtain ⟨cs, rfl, hi, hn⟩ := hK.of
  have hlen : 0 < (cs.length : Int) := by
    have := List.length_pos_iff.mpr hn
    omega
  have m0 : 0 ≤ (a + 1) % (cs.length : Int) := Int.emod_nonneg _ (by omega)
  have m1 : (a + 1) % (cs.length : Int) < cs.length := Int.emod_lt_of_pos _ hlen
  obtain ⟨z, ez⟩ := cells_get hi m0 m1
  have ez2 := get_in ez
  have hb : ∀ c : Cell, bltD [.lst cs, c] .len [.cell 0] = some (.int cs.length) := fun c => rfl
  have p1 := putM_eq (S := [.lst cs, Cell.lst [.int a, .int b, .cell 0]]) (n := 1) (v := .int (a + 1)) (i := 0) rfl (by omega) (by simp)
  simp only [Int.toNat_zero, List.set_cons_zero, List.set_cons_succ] at p1
  have p2 := fun v => putM_eq (S := [.lst cs, Cell.lst [.int (a + 1), .int b, .cell 0]]) (n := 1) (v := v) (i := 1) rfl (by omega) (by simp)
  simp only [Int.toNat_one, List.set_cons_zero, List.set_cons_succ] at p2
  generalize hw : (b * 211 + z * 37 + (a + 1) * 6529) % 998857 = w at *
  have q0 : 0 ≤ (w / 13) % many := Int.emod_nonneg _ (by omega)
  have q1 : (w / 13) % many < many := Int.emod_lt_of_pos _ hm
  refine ⟨.int ((w / 13) % many), .int ((w / 13) % many), .lst [.int (a + 1), .int w, .cell 0], [], ?_, ⟨_, _, rfl, by omega⟩, rfl, ((w / 13) % many).toNat, ?_, by omega⟩
  · have t64 : two64 = 18446744073709551616 := rfl
    simp (disch := (first | decide | assumption | (simp only [List.length_append, List.length_cons, List.length_nil, List.length_map] <;> omega) | omega)) [f_law_take, p1, p2, t64, ez, ez2, hb, hw]
  · rw [Int.toNat_of_nonneg q0]
theorem bias {place many : Int} (hm : 0 < many) (hp : 0 ≤ place) (hp2 : place < 1000) : Dr K fuel (l + 2) 7 [.int place, .int many] fun d => ∃ n : Nat, d = .int n ∧ (n : Int) < many := by
  refine Dr.of (l := l + 1) (show fs[7]? = some f_law_bias from rfl) rfl rfl rfl fun c b => ?_
  obtain ⟨d, c', e1, b', n, rfl, hlt⟩ := take (K := K) (fuel := fuel) (l := l) hm c [] b
  have bb := b
  obtain ⟨a, bv, rfl, h0⟩ := b
  obtain ⟨cs, rfl, hi, hn⟩ := hK.of
  have hlen : 0 < (cs.length : Int) := by
    have := List.length_pos_iff.mpr hn
    omega
  have m0 : 0 ≤ (place * 5 + 1) % (cs.length : Int) := Int.emod_nonneg _ (by omega)
  have m1 : (place * 5 + 1) % (cs.length : Int) < cs.length := Int.emod_lt_of_pos _ hlen
  obtain ⟨z, ez⟩ := cells_get hi m0 m1
  have ez2 := get_in ez
  have hb : ∀ c : Cell, bltD [.lst cs, c] .len [.cell 0] = some (.int cs.length) := fun c => rfl
  have t64 : two64 = 18446744073709551616 := rfl
  by_cases h1 : (z / 3 + place * 5) % 8 = 0
  · refine ⟨.int 0, .int 0, _, [], by simp (disch := (first | decide | assumption | (simp only [List.length_append, List.length_cons, List.length_nil, List.length_map] <;> omega) | omega)) [f_law_bias, t64, ez, ez2, hb, h1], bb, rfl, 0, rfl, hm⟩
  · by_cases h2 : (z / 3 + place * 5) % 8 = 1
    · exact ⟨.int (many - 1), .int (many - 1), _, [], by simp (disch := (first | decide | assumption | (simp only [List.length_append, List.length_cons, List.length_nil, List.length_map] <;> omega) | omega)) [f_law_bias, t64, ez, ez2, hb, h2], bb, rfl, (many - 1).toNat, by rw [Int.toNat_of_nonneg (by omega)], by omega⟩
    · by_cases h3 : (z / 3 + place * 5) % 8 = 2
      · exact ⟨.int (many - 1), .int (many - 1), _, [], by simp (disch := (first | decide | assumption | (simp only [List.length_append, List.length_cons, List.length_nil, List.length_map] <;> omega) | omega)) [f_law_bias, t64, ez, ez2, hb, h3], bb, rfl, (many - 1).toNat, by rw [Int.toNat_of_nonneg (by omega)], by omega⟩
      · have q0 : 0 ≤ (z / 41) % many := Int.emod_nonneg _ (by omega)
        have q1 : (z / 41) % many < many := Int.emod_lt_of_pos _ hm
        by_cases h4 : (z / 3 + place * 5) % 8 = 3
        · exact ⟨.int ((z / 41) % many), .int ((z / 41) % many), _, [], by simp (disch := (first | decide | assumption | (simp only [List.length_append, List.length_cons, List.length_nil, List.length_map] <;> omega) | omega)) [f_law_bias, t64, ez, ez2, hb, h4], bb, rfl, ((z / 41) % many).toNat, by rw [Int.toNat_of_nonneg q0], by omega⟩
        · exact ⟨.int n, .int n, c', [], by simp (disch := (first | decide | assumption | (simp only [List.length_append, List.length_cons, List.length_nil, List.length_map] <;> omega) | omega)) [f_law_bias, t64, ez, ez2, hb, h1, h2, h3, h4, e1], b', rfl, n, rfl, hlt⟩
end Lw
set_option linter.all false
set_option maxRecDepth 100000
set_option maxHeartbeats 4000000
/-! K2e: fresh names. -/
namespace Lw
open Fb
variable {K : Cell} [KOk K] {fuel l : Nat}
theorem abc_at : ∀ i : Nat, i < 26 → ([97, 98, 99, 100, 101, 102, 103, 104, 105, 106, 107, 108, 109, 110, 111, 112, 113, 114, 115, 116, 117, 118, 119, 120, 121, 122] : List Nat)[i]? = some (97 + i) := by decide
theorem zyx_at : ∀ i : Nat, i < 26 → ([122, 121, 120, 119, 118, 117, 116, 115, 114, 113, 112, 111, 110, 109, 108, 107, 106, 105, 104, 103, 102, 101, 100, 99, 98, 97] : List Nat)[i]? = some (122 - i) := by decide
theorem isL_iff {c : Nat} : isL c = true ↔ 97 ≤ c ∧ c ≤ 122 := by
  refine ⟨fun h => ?_, fun h => ?_⟩
  · unfold isL lets at h
    simp at h
    omega
  · have : ∀ i : Nat, i < 26 → isL (97 + i) = true := by decide
    have := this (c - 97) (by omega)
    rwa [show 97 + (c - 97) = c by omega] at this
theorem letter : Dr K fuel (l + 2) 9 [] fun d => ∃ c, d = .str [c] ∧ isL c = true := by
  refine Dr.of (l := l + 1) (show fs[9]? = some f_law_letter from rfl) rfl rfl rfl fun c b => ?_
  obtain ⟨d, c', e1, b', n, rfl, hlt⟩ := take (K := K) (fuel := fuel) (l := l) (many := 26) (by omega) c [] b
  have hn : n < 26 := by omega
  have q0 : (0 : Int) ≤ (n : Int) := by omega
  refine ⟨.str [97 + n], .str [97 + n], c', [], ?_, b', rfl, 97 + n, rfl, isL_iff.mpr (by omega)⟩
  have a1 := get_in (abc_at n hn)
  simp (disch := (first | decide | assumption | (simp only [List.length_append, List.length_cons, List.length_nil, List.length_map] <;> omega) | omega)) [f_law_letter, e1, idx_str, a1]
/-- a right name -/
def Nm (w : List Nat) : Prop := 1 ≤ w.length ∧ w.length ≤ 8 ∧ (∀ c ∈ w, isL c = true) ∧ w ∉ resv
theorem Nm.b {w : List Nat} (h : Nm w) : nameB (.str w) = true := by
  unfold nameB
  simp only [Bool.and_eq_true, decide_eq_true_eq, Bool.not_eq_true', decide_eq_false_iff_not, List.all_eq_true]
  exact ⟨⟨⟨h.1, h.2.1⟩, h.2.2.2⟩, h.2.2.1⟩
def pair (k : Nat) : List Nat := [122 - k % 26, 97 + k / 26]
theorem pair_ok {ts : List (List Nat)} (h : ts.length ≤ 100) : ∃ k, k < 149 ∧ pair k ∉ ts ∧ pair k ∉ resv := by
  obtain ⟨i, h1, h2⟩ := shun pair (ts ++ resv) (List.range 149) List.nodup_range (fun i hi j hj e => by
    have hi := List.mem_range.mp hi
    have hj := List.mem_range.mp hj
    unfold pair at e
    simp at e
    omega) (by simp; show ts.length + 13 < 149; omega)
  rw [List.mem_append, not_or] at h2
  exact ⟨i, List.mem_range.mp h1, h2.1, h2.2⟩
/-- the word so far -/
def Wd (w : List Nat) : Prop := 1 ≤ w.length ∧ w.length ≤ 8 ∧ ∀ c ∈ w, isL c = true
theorem pair_wd {k : Nat} (h : k < 150) : Wd (pair k) := ⟨by simp [pair], by simp [pair], fun c hc => by
  unfold pair at hc
  rw [isL_iff]
  rcases List.mem_cons.mp hc with e | hc
  · omega
  · rcases List.mem_cons.mp hc with e | hc
    · omega
    · cases hc⟩
def bodyF : IS := (.seq (.ite (.and (.cmp .notIn (.var 3) (.var 2)) (.cmp .notIn (.var 3) (.call 8 .nil)))
  (.seq (.ret (.var 3))
  .skip)
  .skip)
  (.seq (.set 3 (.bin .add (.idx (.lit (.str [122, 121, 120, 119, 118, 117, 116, 115, 114, 113, 112, 111, 110, 109, 108, 107, 106, 105, 104, 103, 102, 101, 100, 99, 98, 97])) (.bin .mod (.var 4) (.lit (.int 26)))) (.idx (.lit (.str [97, 98, 99, 100, 101, 102, 103, 104, 105, 106, 107, 108, 109, 110, 111, 112, 113, 114, 115, 116, 117, 118, 119, 120, 121, 122])) (.bin .fdiv (.var 4) (.lit (.int 26))))))
  .skip))
theorem first {ts : List (List Nat)} {b0 : Option D} {pl : D} {S : Store} : ∀ (ks : List Nat) (w : List Nat) (p4 : Option D), Wd w → ks ≠ [] → (∀ k ∈ ks, k < 150) → ((w ∉ ts ∧ w ∉ resv) ∨ ∃ k ∈ ks.dropLast, pair k ∉ ts ∧ pair k ∉ resv) →
    ∃ v, forL (patB (.nm 4) fun σ' => exS ⟨callF fs fuel (l + 1), fuel, l + 1⟩ bodyF σ') (ks.map fun (k : Nat) => .int k) [b0, some pl, some (.lst (ts.map .str)), some (.str w), p4] S = .ok (.rt (.str v)) S ∧ Nm v ∧ v ∉ ts
  | [], w, p4, _, h, _, _ => absurd rfl h
  | k :: r, w, p4, hw, _, hk, h => by
    have r8 : callF fs fuel (l + 1) 8 [] S = .ok (.lst (resv.map .str)) S := reserved
    by_cases g : w ∉ ts ∧ w ∉ resv
    · refine ⟨w, forL_rt ?_, ⟨hw.1, hw.2.1, hw.2.2, g.2⟩, g.1⟩
      simp (disch := (first | decide | assumption | (simp only [List.length_append, List.length_cons, List.length_nil, List.length_map] <;> omega) | omega)) [bodyF, ni_lst, r8, g.1, g.2]
    · have hk1 : k < 150 := hk k List.mem_cons_self
      have h2 : ∃ k' ∈ (k :: r).dropLast, pair k' ∉ ts ∧ pair k' ∉ resv := h.resolve_left g
      have hr : r ≠ [] := fun z => by
        subst z
        obtain ⟨_, m, _⟩ := h2
        cases m
      have e1 : patB (.nm 4) (fun σ' => exS ⟨callF fs fuel (l + 1), fuel, l + 1⟩ bodyF σ') (.int k) [b0, some pl, some (.lst (ts.map .str)), some (.str w), p4] S = .ok (.nx [b0, some pl, some (.lst (ts.map .str)), some (.str (pair k)), some (.int k)]) S := by
        have q1 : ((k : Int) % 26).toNat = k % 26 := by omega
        have q2 : ((k : Int) / 26).toNat = k / 26 := by omega
        have q3 : (0 : Int) ≤ (k : Int) % 26 := by omega
        have q4 : (0 : Int) ≤ (k : Int) / 26 := by omega
        have a1 := get_in (zyx_at (k % 26) (by omega))
        have a2 := get_in (abc_at (k / 26) (by omega))
        by_cases g1 : w ∈ ts
        · simp (disch := (first | decide | assumption | (simp only [List.length_append, List.length_cons, List.length_nil, List.length_map] <;> omega) | omega)) [bodyF, ni_lst, g1, idx_str, q1, q2, a1, a2, pair]
        · have g2 : w ∈ resv := Classical.byContradiction fun z => g ⟨g1, z⟩
          simp (disch := (first | decide | assumption | (simp only [List.length_append, List.length_cons, List.length_nil, List.length_map] <;> omega) | omega)) [bodyF, ni_lst, r8, g1, g2, idx_str, q1, q2, a1, a2, pair]
      rw [List.map_cons, forL_nx e1]
      refine first r (pair k) _ (pair_wd hk1) hr (fun j hj => hk j (List.mem_cons_of_mem _ hj)) ?_
      obtain ⟨k', m, hg⟩ := h2
      cases r with
      | nil => exact absurd rfl hr
      | cons k2 r2 =>
        rcases List.mem_cons.mp (show k' ∈ k :: (k2 :: r2).dropLast from m) with e | m
        · subst e; exact .inl hg
        · exact .inr ⟨k', m, hg⟩
theorem chars_of : ∀ {ys : List D}, (∀ y ∈ ys, ∃ c, y = .str [c] ∧ isL c = true) → ∃ cs : List Nat, ys = cs.map (fun c => .str [c]) ∧ ∀ c ∈ cs, isL c = true
  | [], _ => ⟨[], rfl, fun _ h => (nomatch h)⟩
  | y :: r, h => by
    obtain ⟨c, rfl, hc⟩ := h y List.mem_cons_self
    obtain ⟨cs, rfl, hcs⟩ := chars_of fun z hz => h z (List.mem_cons_of_mem _ hz)
    refine ⟨c :: cs, rfl, fun z hz => ?_⟩
    rcases List.mem_cons.mp hz with e | e
    · rw [e]; exact hc
    · exact hcs z e
theorem join_chars {S : Store} {cs : List Nat} (h : cs.length ≤ 100000) : mthD S .join (.str []) [.lst (cs.map fun c => .str [c])] = some (.str cs, S) := by
  have e : joinD [] (cs.map fun c => [c]) = cs := by
    rw [join_nil]
    induction cs with
    | nil => rfl
    | cons c r ih => simp at h ⊢; simpa using ih (by omega)
  rw [join_seq (S := S) (s := []) (ys := cs.map fun c => .str [c]) (cs.map fun c => [c]) rfl (by rw [List.map_map]; rfl) ?_, e]
  have h2 := sum_le (zs := cs.map fun c => [c]) (b := 1) (by simp)
  simp at h2 ⊢
  omega
theorem tail8 {S : Store} {a : List Nat} (h : a.length ≤ 100000) : cutD S (.str a) (some (-8)) none = some (.str (a.drop (a.length - 8))) := by
  show (if a.length ≤ SL then some (D.str (cutL a (some (-8)) none)) else none) = _
  rw [if_pos (show a.length ≤ SL by show a.length ≤ 16777216; omega)]
  unfold cutL cut1
  simp only [if_pos (show (-8 : Int) < 0 by omega)]
  have : (-8 + (a.length : Int)).toNat = a.length - 8 := by omega
  rw [this, List.take_of_length_le (by simp)]
theorem fresh {place : Int} (hp : 0 ≤ place) (hp2 : place < 1000) {ts : List (List Nat)} (ht : ts.length ≤ 100) (hw : ∀ t ∈ ts, Wd t) : Dr K fuel (l + 3) 10 [.int place, .lst (ts.map .str)] fun d => ∃ w, d = .str w ∧ Nm w ∧ w ∉ ts := by
  refine Dr.of (l := l + 2) (show fs[10]? = some f_law_fresh from rfl) rfl rfl (tops_free (by simp [D.frees, D.free, frees_strs])) fun c b => ?_
  obtain ⟨d1, c1, e1, b1, n, rfl, hn⟩ := bias (K := K) (fuel := fuel) (l := l) (many := 8) (by omega) hp hp2 c [] b
  obtain ⟨ys, S2, e2, h2, l2, c2, rfl, b2⟩ := compM_ex (f := elG ⟨callF fs fuel (l + 2), fuel, l + 2⟩ [4] (.nm 4) .nil (.call 9 (.cons (.var 0) .nil)) [some (.cell 1), some (.int place), some (.lst (ts.map .str)), none, none]) (fun S => ∃ c, S = [K, c] ∧ Box c) (fun y => ∃ c, y = .str [c] ∧ isL c = true) (xs := rngD 0 (1 + n)) (k := 0)
    (fun x _ S ⟨c, e, b⟩ => by
      subst e
      obtain ⟨d, c', e, b', h⟩ := letter (K := K) (fuel := fuel) (l := l) c [] b
      exact ⟨d, [K, c'], el_nm (by simp (disch := (first | decide | assumption | (simp only [List.length_append, List.length_cons, List.length_nil, List.length_map] <;> omega) | omega)) [wipeE, e]), h, c', rfl, b'⟩) (by rw [rng_len]; omega) ⟨c1, rfl, b1⟩
  obtain ⟨cs, rfl, hcs⟩ := chars_of h2
  have hl : cs.length = 1 + n := by rw [rng_len, List.length_map] at l2; exact l2
  have wd : Wd cs := ⟨by omega, by omega, hcs⟩
  have ej := fun S => join_chars (S := S) (cs := cs) (by omega)
  have er : ((1 : Int) + (n : Int)) = ((1 + n : Nat) : Int) := by omega
  have e3 : ∀ S : Store, rngM (.int ((1 : Int) + (n : Int))) S = .ok (.xs (rngD 0 (1 + n))) S := fun S => by rw [er]; exact rngM_nat (by omega)
  generalize hB : (IS.seq (.for (.nm 4) (.rng1 (.lit (.int 150))) bodyF) (.seq (.ret (.var 3)) .skip)) = B
  have last : ∀ (w : List Nat) (c : Cell), Wd w → ∃ v, exS ⟨callF fs fuel (l + 2), fuel, l + 2⟩ B [some (.cell 1), some (.int place), some (.lst (ts.map .str)), some (.str w), none] [K, c] = .ok (.rt (.str v)) [K, c] ∧ Nm v ∧ v ∉ ts := fun w c hw => by
    obtain ⟨k, hk, g⟩ := pair_ok ht
    obtain ⟨v, ev, h1, h2⟩ := first (fuel := fuel) (l := l + 1) (ts := ts) (b0 := some (.cell 1)) (pl := .int place) (S := [K, c]) (List.range 150) w none hw (by simp) (fun k hk => List.mem_range.mp hk) (.inr ⟨k, by
      have : (List.range 150).dropLast = List.range 149 := by decide +kernel
      rw [this]; exact List.mem_range.mpr hk, g⟩)
    refine ⟨v, ?_, h1, h2⟩
    have e5 : rngD 0 150 = (List.range 150).map fun (k : Nat) => .int k := by unfold rngD; simp
    subst hB
    simp (disch := (first | decide | assumption | (simp only [List.length_append, List.length_cons, List.length_nil, List.length_map] <;> omega) | omega)) [e5, ev]
  unfold bodyF at hB
  by_cases hts : ts = []
  · have hz : ¬ (0 < ts.length) := by rw [hts]; simp
    obtain ⟨v, ev, g1, g2⟩ := last cs c2 wd
    refine ⟨.str v, .str v, c2, [], ?_, b2, rfl, v, rfl, g1, g2⟩
    simp (disch := (first | decide | assumption | (simp only [List.length_append, List.length_cons, List.length_nil, List.length_map] <;> omega) | omega)) [-x_comp, x_comp2, f_law_fresh, hB, e1, e3, e2, ej, recvOk, ev, hz]
  · have hlenN : 0 < ts.length := List.length_pos_iff.mpr hts
    have hlen : 0 < (ts.length : Int) := by omega
    obtain ⟨d3, c3, e4, b3, m, rfl, hm⟩ := take (K := K) (fuel := fuel) (l := l + 1) (many := 4) (by omega) c2 [] b2
    by_cases h0 : m = 0
    · subst h0
      obtain ⟨d5, c5, e5, b5, i, rfl, hi⟩ := take (K := K) (fuel := fuel) (l := l + 1) hlen c3 [] b3
      obtain ⟨d6, c6, e6, b6, ch, rfl, hch⟩ := letter (K := K) (fuel := fuel) (l := l) c5 [] b5
      have hi2 : i < ts.length := by omega
      have hwi := hw _ (List.getElem_mem hi2)
      have e7 := fun S => tail8 (S := S) (a := ts[i] ++ [ch]) (by have := hwi.2.1; simp; omega)
      obtain ⟨v, ev, g1, g2⟩ := last ((ts[i] ++ [ch]).drop ((ts[i] ++ [ch]).length - 8)) c6 ⟨by have := hwi.1; simp; omega, by simp; omega, fun z hz => by
        rcases List.mem_append.mp (List.mem_of_mem_drop hz) with q | q
        · exact hwi.2.2 z q
        · rw [List.mem_singleton.mp q]; exact hch⟩
      refine ⟨.str v, .str v, c6, [], ?_, b6, rfl, v, rfl, g1, g2⟩
      generalize (ts[i] ++ [ch]).drop ((ts[i] ++ [ch]).length - 8) = w at e7 ev
      have q0 : (0 : Int) ≤ (i : Int) := by omega
      have e8 : ∀ S : Store, binM .add (.str ts[i]) (.str [ch]) S = .ok (.str (ts[i] ++ [ch])) S := fun S => o_addS (by have := hwi.2.1; simp; omega)
      simp (disch := (first | decide | assumption | (simp only [List.length_append, List.length_cons, List.length_nil, List.length_map] <;> omega) | omega)) [e8, -x_comp, x_comp2, f_law_fresh, hB, e1, e3, e2, ej, recvOk, e4, e5, e6, e7, ev, hlenN]
    · obtain ⟨v, ev, g1, g2⟩ := last cs c3 wd
      refine ⟨.str v, .str v, c3, [], ?_, b3, rfl, v, rfl, g1, g2⟩
      simp (disch := (first | decide | assumption | (simp only [List.length_append, List.length_cons, List.length_nil, List.length_map] <;> omega) | omega)) [-x_comp, x_comp2, f_law_fresh, hB, e1, e3, e2, ej, recvOk, e4, ev, hlenN, h0]
end Lw
set_option linter.all false
set_option maxRecDepth 100000
set_option maxHeartbeats 4000000
/-! K2f: the program. -/
namespace Lw
open Fb
variable {K : Cell} [KOk K] {fuel l : Nat}
theorem Nm.wd {w : List Nat} (h : Nm w) : Wd w := ⟨h.1, h.2.1, h.2.2.1⟩
theorem lot {place : Int} (hp : 0 ≤ place) (hp2 : place < 1000) {n : Nat} (hn : n ≤ 10) {ts : List (List Nat)} (ht : ts.length ≤ 50) (hw : ∀ t ∈ ts, Wd t) :
    Dr K fuel (l + 4) 11 [.int place, .int n, .lst (ts.map .str)] fun d => ∃ rs : List (List Nat), d = .lst (rs.map .str) ∧ rs.length = n ∧ ∀ r ∈ rs, Nm r ∧ r ∉ ts := by
  refine Dr.of (l := l + 3) (show fs[11]? = some f_law_lot from rfl) rfl rfl (tops_free (by simp [D.frees, D.free, frees_strs])) fun c b => ?_
  generalize hB : (IS.seq (.ex (.mth .append (.var 4) (.cons (.call 10 (.cons (.var 0) (.cons (.var 1) (.cons (.bin .add (.var 3) (.var 4)) .nil)))) .nil))) .skip) = B
  obtain ⟨σ1, S1, e1, c1, rs, v, rfl, rfl, b1, hl, hr⟩ := forL_ix (f := patB (.nm 5) fun σ' => exS ⟨callF fs fuel (l + 3), fuel, l + 3⟩ B σ') (fun j σ S => ∃ c rs v, σ = [some (.cell 1), some (.int place), some (.int n), some (.lst (ts.map .str)), some (.cell 2), v] ∧ S = [K, c, .lst (rs.map .str)] ∧ Box c ∧ rs.length = j ∧ ∀ r ∈ rs, Nm r ∧ r ∉ ts)
    (xs := rngD 0 n) (j := 0) (σ := [some (.cell 1), some (.int place), some (.int n), some (.lst (ts.map .str)), some (.cell 2), none]) (S := [K, c, .lst []])
    (fun i x σ S hx ⟨c, rs, v, e1, e2, b, hl, hr⟩ => by
      obtain ⟨rfl, hi⟩ := rng_at hx
      subst e1 e2 hB
      obtain ⟨d, c', e, b', w, rfl, hw1, hw2⟩ := fresh (K := K) (fuel := fuel) (l := l) hp hp2 (ts := ts ++ rs) (by simp; omega) (fun t ht => by
        rcases List.mem_append.mp ht with h | h
        · exact hw t h
        · exact (hr t h).1.wd) c [.lst (rs.map .str)] b
      rw [List.map_append] at e
      have ea := o_addLC (S := [K, c, .lst (rs.map .str)]) (n := 2) (a := ts.map D.str) (b := rs.map .str) rfl (by simp; omega)
      have em := m_app (S := [K, c', .lst (rs.map .str)]) (n := 2) (xs := rs.map D.str) (y := .str w) rfl (by simp; omega)
      refine ⟨_, _, ?_, c', rs ++ [w], some (.int i), rfl, rfl, b', by simp; omega, fun r hr2 => ?_⟩
      · simp (disch := (first | decide | assumption | (simp only [List.length_append, List.length_cons, List.length_nil, List.length_map] <;> omega) | omega)) [ea, e, em, recvOk]
      · rcases List.mem_append.mp hr2 with h | h
        · exact hr r h
        · rw [List.mem_singleton.mp h]
          exact ⟨hw1, fun z => hw2 (List.mem_append_left _ z)⟩) ⟨c, [], none, rfl, rfl, b, rfl, fun _ h => (nomatch h)⟩
  refine ⟨.cell 2, .lst (rs.map .str), c1, [.lst (rs.map .str)], ?_, b1, frz_cell 3 (by omega) rfl (frees_strs rs), rs, rfl, by rw [hl, rng_len]; omega, hr⟩
  have e3 : ∀ S : Store, rngM (.int (n : Int)) S = .ok (.xs (rngD 0 n)) S := fun S => rngM_nat (by omega)
  simp (disch := (first | decide | assumption | (simp only [List.length_append, List.length_cons, List.length_nil, List.length_map] <;> omega) | omega)) [f_law_lot, hB, e3, e1]
end Lw
set_option linter.all false
set_option maxRecDepth 100000
set_option maxHeartbeats 4000000
/-! K2g: the program. -/
namespace Lw
open Fb
variable {K : Cell} [KOk K] {fuel l : Nat}
/-- a right program -/
def Pg (d : D) : Prop := ∃ (ws gs : List (List Nat)) (x y : D), d = prog ws gs x y ∧ D.free x = true ∧ D.free y = true ∧ ws.length ≤ 6 ∧ 1 ≤ gs.length ∧ gs.length ≤ 4 ∧ (∀ w ∈ ws, Nm w) ∧ ∀ g ∈ gs, Nm g ∧ g ∉ ws
theorem frees_all {ds : List D} (h : ∀ d ∈ ds, D.free d = true) : D.frees ds = true := by
  induction ds with
  | nil => rfl
  | cons d r ih => simp [D.frees, h d List.mem_cons_self, ih fun x hx => h x (List.mem_cons_of_mem _ hx)]
theorem program : Dr K fuel (l + 5) 12 [] Pg := by
  refine Dr.of (l := l + 4) (show fs[12]? = some f_law_program from rfl) rfl rfl rfl fun c b => ?_
  obtain ⟨d1, c1, e1, b1, n1, rfl, h1⟩ := bias (K := K) (fuel := fuel) (l := l + 2) (place := 2) (many := 7) (by omega) (by omega) (by omega) c [] b
  obtain ⟨d2, c2, e2, b2, ws, rfl, l2, h2⟩ := lot (K := K) (fuel := fuel) (l := l) (place := 3) (by omega) (by omega) (n := n1) (by omega) (ts := []) (by simp) (by simp) c1 [] b1
  obtain ⟨d3, c3, e3, b3, n3, rfl, h3⟩ := bias (K := K) (fuel := fuel) (l := l + 2) (place := 4) (many := 4) (by omega) (by omega) (by omega) c2 [] b2
  obtain ⟨d4, c4, e4, b4, gs, rfl, l4, h4⟩ := lot (K := K) (fuel := fuel) (l := l) (place := 5) (by omega) (by omega) (n := 1 + n3) (by omega) (ts := ws) (by omega) (fun t ht => (h2 t ht).1.wd) c3 [] b3
  rw [show ((1 + n3 : Nat) : Int) = 1 + (n3 : Int) by omega] at e4
  obtain ⟨d5, c5, e5, b5, n5, rfl, h5⟩ := take (K := K) (fuel := fuel) (l := l + 3) (many := 30) (by omega) c4 [] b4
  obtain ⟨d6, c6, e6, b6, w6, rfl, h6, _⟩ := fresh (K := K) (fuel := fuel) (l := l + 1) (place := 6) (by omega) (by omega) (ts := []) (by simp) (by simp) c5 [] b5
  obtain ⟨d7, c7, e7, b7, w7, rfl, h7, _⟩ := fresh (K := K) (fuel := fuel) (l := l + 1) (place := 7) (by omega) (by omega) (ts := [w6]) (by simp) (by simpa using h6.wd) c6 [] b6
  simp only [List.map_nil, List.map_cons] at e2 e6 e7
  have hg : 0 < gs.length := by omega
  let bl : D := .tup [.tup [], .tup [.str [110], .int n5]]
  obtain ⟨g0, gr, rfl⟩ : ∃ g0 gr, gs = g0 :: gr := by
    cases gs with
    | nil => simp at hg
    | cons g0 gr => exact ⟨g0, gr, rfl⟩
  have hws : ws.length ≤ 6 := by omega
  have hgr : gr.length ≤ 3 := by simp at l4; omega
  have ec : ∀ S : Store, compM (elG ⟨callF fs fuel (l + 4), fuel, l + 4⟩ [6] (.nm 6) .nil (.tup (.cons (.var 6) (.cons (.var 3) .nil))) [some (.cell 1), some (.lst (ws.map .str)), some (.lst (.str g0 :: gr.map .str)), some (.tup [.tup [], .tup [.str [110], .int n5]]), some (.tup [.str w6, .tup [], .tup [.tup [.str [45], .tup [.tup [], .tup [.str [110], .int n5]]]]]), none, none]) (ws.map .str ++ .str g0 :: gr.map .str) 0 S = .ok ((ws ++ g0 :: gr).map fun w => .tup [.str w, bl]) S := fun S => by
    rw [← List.map_cons, ← List.map_append]
    exact compM_all (all2_map fun w _ S => el_nm (by simp (disch := (first | decide | assumption | (simp only [List.length_append, List.length_cons, List.length_nil, List.length_map] <;> omega) | omega)) [wipeE, bl])) (by simp; omega)
  have q1 : D.free bl = true := rfl
  let x : D := .tup [.tup [.str w6, .tup [], .tup [.tup [.str [45], bl]]], .tup [.str w7, .tup [.str [97]], .tup ((ws ++ g0 :: gr).map fun w => .tup [.str w, bl])]]
  let y : D := .tup [.tup [.str w6, .tup [.str g0]]]
  have hx : D.free x = true := by
    have : D.frees ((ws ++ g0 :: gr).map fun w => .tup [.str w, bl]) = true := frees_all fun d hd => by
      obtain ⟨w, _, rfl⟩ := List.mem_map.mp hd
      rfl
    simp only [x, D.free, D.frees, this, q1, Bool.and_true, Bool.and_self]
  have pf := prog_free (ws := ws) (gs := g0 :: gr) (x := x) (y := y) hx rfl
  refine ⟨prog ws (g0 :: gr) x y, prog ws (g0 :: gr) x y, c7, [], ?_, b7, frz_low 4 (low_free pf), ws, g0 :: gr, x, y, rfl, hx, rfl, by omega, by omega, by omega, fun w hw => (h2 w hw).1, h4⟩
  simp (disch := (first | decide | assumption | (simp only [List.length_append, List.length_cons, List.length_nil, List.length_map] <;> omega) | omega)) [-x_comp, x_comp2, f_law_program, e1, e2, e3, e4, e5, e6, e7, ec, srcD, prog, x, y, bl]
end Lw
set_option linter.all false
set_option maxRecDepth 100000
set_option maxHeartbeats 4000000
/-! K2h: near names. -/
namespace Lw
open Fb
variable {K : Cell} [KOk K] {fuel l : Nat}
def Th (d : D) : Prop := D.free d = true ∧ short d
theorem th_str {w : List Nat} (h : w.length ≤ 100000) : Th (.str w) := ⟨rfl, h⟩
theorem th_app {p : D} {r : List D} (h : Th p) (hr : ∀ y ∈ r, Th y) : ∀ y ∈ p :: r, Th y := List.forall_mem_cons.mpr ⟨h, hr⟩
theorem idx16 {i : Nat} (h : i < 16) : ∃ s, s < 128 ∧ ([.str [65], .str [90], .str [48], .str [57], .str [32], .str [95], .str [45], .str [35], .str [84], .str [85], .str [10], .str [9], .str [46], .str [123], .str [96], .str [64]] : List D)[i]? = some (.str [s]) := by
  have : ∀ i : Nat, i < 16 → ([65, 90, 48, 57, 32, 95, 45, 35, 84, 85, 10, 9, 46, 123, 96, 64] : List Nat)[i]?.all (fun s => decide (s < 128)) = true := by decide
  have h2 := this i h
  have e : ([.str [65], .str [90], .str [48], .str [57], .str [32], .str [95], .str [45], .str [35], .str [84], .str [85], .str [10], .str [9], .str [46], .str [123], .str [96], .str [64]] : List D) = ([65, 90, 48, 57, 32, 95, 45, 35, 84, 85, 10, 9, 46, 123, 96, 64] : List Nat).map fun s => .str [s] := rfl
  rw [e, List.getElem?_map]
  cases q : ([65, 90, 48, 57, 32, 95, 45, 35, 84, 85, 10, 9, 46, 123, 96, 64] : List Nat)[i]? with
  | none => rw [List.getElem?_eq_none_iff] at q; simp at q; omega
  | some s => rw [q] at h2; exact ⟨s, by simpa using h2, rfl⟩
theorem resv_ok : ∀ w ∈ resv, w.length ≤ 8 ∧ ∀ c ∈ w, c < 128 := by decide
theorem near_names {w : List Nat} (hw : Nm w) : Dr K fuel (l + 4) 16 [.str w] fun d => ∃ ys, d = .lst ys ∧ ∀ y ∈ ys, Th y := by
  refine Dr.go0 (l := l + 3) (show fs[16]? = some f_law_near_names from rfl) rfl rfl rfl fun c b => ?_
  have w1 := hw.2.1
  obtain ⟨d1, c1, e1, b1, at1, rfl, h1⟩ := take (K := K) (fuel := fuel) (l := l + 2) (many := (w.length : Int) + 1) (by omega) c [] b
  obtain ⟨d2, c2, e2, b2, i2, rfl, h2⟩ := take (K := K) (fuel := fuel) (l := l + 2) (many := 16) (by omega) c1 [] b1
  obtain ⟨d3, c3, e3, b3, i3, rfl, h3⟩ := take (K := K) (fuel := fuel) (l := l + 2) (many := 13) (by omega) c2 [] b2
  obtain ⟨d4, c4, e4, b4, ch, rfl, h4⟩ := letter (K := K) (fuel := fuel) (l := l + 1) c3 [] b3
  obtain ⟨s, hs, es⟩ := idx16 (i := i2) (by omega)
  have es := get_in es
  have hi3 : i3 < resv.length := by show i3 < 13; omega
  obtain ⟨k1, k2⟩ := resv_ok _ (List.getElem_mem hi3)
  have ek : (resv.map D.str)[i3]? = some (.str resv[i3]) := by rw [List.getElem?_map, List.getElem?_eq_getElem hi3]; rfl
  have ek := get_in ek
  generalize resv[i3] = kp at k1 k2 ek
  have r8 : ∀ S : Store, callF fs fuel (l + 3) 8 [] S = .ok (.lst (resv.map .str)) S := fun S => reserved
  have wl : ∀ c ∈ w, c < 128 := fun c hc => by have := isL_iff.mp (hw.2.2.1 c hc); omega
  have u1 : ∀ S : Store, mthD S .upper (.str w) [] = some (.str (w.map upC), S) := fun S => m_upper (by omega) wl
  have u2 : ∀ S : Store, mthD S .upper (.str kp) [] = some (.str (kp.map upC), S) := fun S => m_upper (by omega) k2
  have q0 : (0 : Int) ≤ (i2 : Int) := by omega
  have q1 : (0 : Int) ≤ (i3 : Int) := by omega
  have a1 := cutL_len w none (some (at1 : Int))
  have a2 := cutL_len w (some (at1 : Int)) none
  have a3 := cutL_len w (some ((at1 : Int) + 1)) none
  have a4 := cutL_len kp none (some (-1))
  have a5 := cutL_len (kp ++ w) none (some 8)
  have a6 := cutL_len kp (some 1) none
  have a7 := cutL_len (w ++ [97, 98, 99, 100, 101, 102, 103, 104]) none (some 8)
  have a8 := cutL_len (cutL (w ++ [97, 98, 99, 100, 101, 102, 103, 104]) none (some 8)) none (some 7)
  rw [List.length_append] at a5 a7
  simp only [List.length_cons, List.length_nil] at a7
  simp (disch := (first | decide | assumption | (simp only [List.length_append, List.length_cons, List.length_nil, List.length_map] <;> omega) | omega)) [f_law_near_names, e1, e2, e3, e4, r8, es, ek, u1, u2, recvOk, cut_str]
  refine ⟨_, _, _, ⟨rfl, rfl, rfl⟩, b4, rfl, _, rfl, ?_⟩
  refine th_app ?_ (th_app ?_ (th_app ?_ (th_app ?_ (th_app ?_ (th_app ?_ (th_app ?_ (th_app ?_ (th_app ?_ (th_app ?_ (th_app ?_ (th_app ?_ (th_app ?_ (th_app ?_ (th_app ?_ (th_app ?_ (th_app ?_ (th_app ?_ (th_app ?_ (th_app ?_ (th_app ?_ (th_app ?_ (th_app ?_ (th_app ?_ (List.forall_mem_nil _))))))))))))))))))))))))
  all_goals first
    | exact ⟨rfl, trivial⟩
    | (refine th_str ?_; (try simp only [List.length_append, List.length_cons, List.length_map, List.length_nil]); omega)
    | (refine ⟨rfl, ?_⟩; simp [short])
theorem law_is {p q : Bool} {S : Store} : callF fs fuel (l + 1) 15 [.bl p, .bl q] S = .ok (.bl (p == q)) S := by
  rw [callF_succ (show fs[15]? = some f_law_is from rfl) rfl]
  refine call_freeE (S' := []) rfl rfl rfl ?_
  have e : cmpM .eq (.bl p) (.bl q) ([] : Store) = .ok (p == q) [] := rfl
  simp (disch := (first | decide | assumption | (simp only [List.length_append, List.length_cons, List.length_nil, List.length_map] <;> omega) | omega)) [f_law_is, D.isTy, e]
theorem names_right {d : D} (hp : Pg d) : Dr K fuel (l + 5) 17 [d] fun d => d = .bl true := by
  obtain ⟨ws, gs, x, y, rfl, hx, hy, l1, l2, l3, hw, hg⟩ := hp
  refine Dr.go0 (l := l + 4) (show fs[17]? = some f_law_names_right from rfl) rfl rfl (tops_free (by simp [D.frees, prog_free hx hy])) fun c b => ?_
  obtain ⟨d1, c1, e1, b1, w1, rfl, h1, _⟩ := fresh (K := K) (fuel := fuel) (l := l + 1) (place := 8) (by omega) (by omega) (ts := []) (by simp) (by simp) c [] b
  obtain ⟨d2, c2, e2, b2, w2, rfl, h2, _⟩ := fresh (K := K) (fuel := fuel) (l := l + 1) (place := 9) (by omega) (by omega) (ts := []) (by simp) (by simp) c1 [] b1
  simp only [List.map_nil] at e1 e2
  let ns : List (List Nat) := ws ++ gs ++ [w1, w2]
  have hns : ∀ w ∈ ns, Nm w := fun w h => by
    rcases List.mem_append.mp h with h | h
    · rcases List.mem_append.mp h with h | h
      · exact hw w h
      · exact (hg w h).1
    · rcases List.mem_cons.mp h with h | h
      · rw [h]; exact h1
      · rw [List.mem_singleton.mp h]; exact h2
  have hlen : ns.length = ws.length + gs.length + 2 := by simp [ns]; omega
  obtain ⟨d3, c3, e3, b3, i, rfl, hi⟩ := take (K := K) (fuel := fuel) (l := l + 3) (many := (ns.length : Int)) (by omega) c2 [] b2
  have hi2 : i < ns.length := by omega
  obtain ⟨d4, c4, e4, b4, ys, rfl, hys⟩ := near_names (K := K) (fuel := fuel) (l := l) (hns _ (List.getElem_mem hi2)) c3 [] b3
  obtain ⟨d5, c5, e5, b5, j, rfl, hj⟩ := take (K := K) (fuel := fuel) (l := l + 3) (many := 13) (by omega) c4 [] b4
  have hj2 : j < resv.length := by show j < 13; omega
  have r8 : ∀ S : Store, callF fs fuel (l + 4) 8 [] S = .ok (.lst (resv.map .str)) S := fun S => reserved
  have ek : (resv.map D.str)[j]? = some (.str resv[j]) := by rw [List.getElem?_map, List.getElem?_eq_getElem hj2]; rfl
  have ek := get_in ek
  have kb : nameB (.str resv[j]) = false := by
    have : resv[j] ∈ resv := List.getElem_mem hj2
    unfold nameB
    simp [this]
  have kn : ∀ S : Store, callF fs fuel (l + 4) 1 [.str resv[j]] S = .ok (.bl false) S := fun S => by
    rw [is_name rfl (by have := (resv_ok _ (List.getElem_mem hj2)).1; show _ ≤ 100000; omega), kb]
  generalize resv[j] = kp at ek kn
  have en : (ns.map D.str)[i]? = some (.str ns[i]) := by rw [List.getElem?_map, List.getElem?_eq_getElem hi2]; rfl
  have en := get_in en
  generalize ns[i] = wi at e4 en
  let pr := prog ws gs x y
  generalize hB1 : (IS.seq (.ite (.not (.call 15 (.cons (.call 1 (.cons (.var 3) .nil)) (.cons (.lit (.bl true)) .nil)))) (.seq (.ret (.lit (.bl false))) .skip) .skip) .skip) = B1
  generalize hB2 : (IS.seq (.ite (.not (.call 15 (.cons (.call 1 (.cons (.var 4) .nil)) (.cons (.call 13 (.cons (.var 4) .nil)) .nil)))) (.seq (.ret (.lit (.bl false))) .skip) .skip) .skip) = B2
  have lawis : ∀ (p : Bool) (S : Store), callF fs fuel (l + 4) 15 [.bl p, .bl p] S = .ok (.bl true) S := fun p S => by rw [law_is]; simp
  obtain ⟨σ1, f1, v3, rfl⟩ := forL_nxs (f := patB (.nm 3) fun σ' => exS ⟨callF fs fuel (l + 4), fuel, l + 4⟩ B1 σ') (S := [K, c2]) (fun σ => ∃ v3, σ = [some (.cell 1), some (.tup [.tup (ws.map .str), .tup (gs.map .str), x, y]), some (.lst (ns.map .str)), v3, none]) (xs := ns.map .str) (σ := [some (.cell 1), some (.tup [.tup (ws.map .str), .tup (gs.map .str), x, y]), some (.lst (ns.map .str)), none, none])
    (fun z hz σ ⟨v3, e⟩ => by
      obtain ⟨w, hw, rfl⟩ := List.mem_map.mp hz
      subst e hB1
      have en : ∀ S : Store, callF fs fuel (l + 4) 1 [.str w] S = .ok (.bl true) S := fun S => by
        rw [is_name rfl (by have := (hns w hw).2.1; show _ ≤ 100000; omega), (hns w hw).b]
      simp (disch := (first | decide | assumption | (simp only [List.length_append, List.length_cons, List.length_nil, List.length_map] <;> omega) | omega)) [en, lawis]) ⟨_, rfl⟩
  obtain ⟨σ2, f2, v3', v4, rfl⟩ := forL_nxs (f := patB (.nm 4) fun σ' => exS ⟨callF fs fuel (l + 4), fuel, l + 4⟩ B2 σ') (S := [K, c4]) (fun σ => ∃ v3 v4, σ = [some (.cell 1), some (.tup [.tup (ws.map .str), .tup (gs.map .str), x, y]), some (.lst (ns.map .str)), v3, v4]) (xs := ys) (σ := [some (.cell 1), some (.tup [.tup (ws.map .str), .tup (gs.map .str), x, y]), some (.lst (ns.map .str)), v3, none])
    (fun z hz σ ⟨v3, v4, e⟩ => by
      subst e hB2
      have en : ∀ S : Store, callF fs fuel (l + 4) 1 [z] S = .ok (.bl (nameB z)) S := fun S => is_name (hys z hz).1 (hys z hz).2
      have en2 : ∀ S : Store, callF fs fuel (l + 4) 13 [z] S = .ok (.bl (nameB z)) S := fun S => name_due (hys z hz).1 (hys z hz).2
      simp (disch := (first | decide | assumption | (simp only [List.length_append, List.length_cons, List.length_nil, List.length_map] <;> omega) | omega)) [en, en2, lawis]) ⟨_, _, rfl⟩
  have en0 : ns.map D.str = ws.map .str ++ (gs.map .str ++ [.str w1, .str w2]) := by simp [ns]
  rw [show (ns.length : Int) = (ws.length : Int) + ((gs.length : Int) + 2) by omega] at e3
  rw [en0] at en f1 f2
  have q0 : (0 : Int) ≤ (i : Int) := by omega
  have q1 : (0 : Int) ≤ (j : Int) := by omega
  simp (disch := (first | decide | assumption | (simp only [List.length_append, List.length_cons, List.length_nil, List.length_map] <;> omega) | omega)) [srcD, f_law_names_right, hB1, hB2, prog, e1, e2, e3, en, e4, e5, f1, f2, r8, ek, kn, lawis]
  exact ⟨_, _, _, ⟨rfl, rfl, rfl⟩, b5, rfl, rfl⟩
end Lw
set_option linter.all false
set_option maxRecDepth 100000
set_option maxHeartbeats 4000000
/-! K2i: drawn types. -/
namespace Lw
open Fb
variable {K : Cell} [KOk K] {fuel l : Nat} {ws gs : List (List Nat)} {x y : D}
theorem drawn {most : Int} (hm : 0 < most) (hm2 : most ≤ 60) (hx : D.free x = true) (hy : D.free y = true) (hw : ws.length ≤ 6) (hg1 : 1 ≤ gs.length) (hg : gs.length ≤ 4) :
    Dr K fuel (l + 3) 18 [prog ws gs x y, .int most] fun d => ∃ (init : List (List Nat)) (z : List Nat), d = .tup (init.map .str ++ [.str z]) ∧ (∀ w ∈ init, w ∈ ws) ∧ z ∈ gs ∧ (init.length : Int) < most := by
  refine Dr.go (l := l + 2) (show fs[18]? = some f_law_drawn from rfl) rfl rfl (tops_free (by simp [D.frees, D.free, prog_free hx hy])) fun c b => ?_
  generalize hB : (IS.seq (.ex (.mth .append (.var 3) (.cons (.idx (.var 5) (.call 6 (.cons (.var 0) (.cons (.blt .len (.cons (.var 5) .nil)) .nil)))) .nil))) .skip) = B
  obtain ⟨d1, c1, e1, b1, n, rfl, hn⟩ := bias (K := K) (fuel := fuel) (l := l) (place := 10) (many := most) hm (by omega) (by omega) c [.lst []] b
  have loop : ∀ (m : Nat), m ≤ n → (ws = [] → m = 0) → ∃ (v4 : Option D) (c2 : Cell) (rs : List (List Nat)), forL (patB (.nm 4) fun σ' => exS ⟨callF fs fuel (l + 2), fuel, l + 2⟩ B σ') (rngD 0 m) [some (.cell 1), some (.tup [.tup (ws.map .str), .tup (gs.map .str), x, y]), some (.int most), some (.cell 2), none, some (.tup (ws.map .str)), some (.tup (gs.map .str))] [K, c1, .lst []] = .ok (.nx [some (.cell 1), some (.tup [.tup (ws.map .str), .tup (gs.map .str), x, y]), some (.int most), some (.cell 2), v4, some (.tup (ws.map .str)), some (.tup (gs.map .str))]) [K, c2, .lst (rs.map .str)] ∧ Box c2 ∧ rs.length = m ∧ ∀ r ∈ rs, r ∈ ws := fun m hm3 hz => by
    obtain ⟨σ1, S1, e2, c2, rs, v, rfl, rfl, b2, hl, hr⟩ := forL_ix (f := patB (.nm 4) fun σ' => exS ⟨callF fs fuel (l + 2), fuel, l + 2⟩ B σ') (fun j σ S => ∃ c rs v, σ = [some (.cell 1), some (.tup [.tup (ws.map .str), .tup (gs.map .str), x, y]), some (.int most), some (.cell 2), v, some (.tup (ws.map .str)), some (.tup (gs.map .str))] ∧ S = [K, c, .lst (rs.map .str)] ∧ Box c ∧ rs.length = j ∧ ∀ r ∈ rs, r ∈ ws)
      (xs := rngD 0 m) (j := 0) (σ := [some (.cell 1), some (.tup [.tup (ws.map .str), .tup (gs.map .str), x, y]), some (.int most), some (.cell 2), none, some (.tup (ws.map .str)), some (.tup (gs.map .str))]) (S := [K, c1, .lst []])
      (fun i z σ S hx ⟨c, rs, v, e1, e2, b, hl, hr⟩ => by
        obtain ⟨rfl, hi⟩ := rng_at hx
        subst e1 e2 hB
        have hws : 0 < ws.length := by
          cases ws with
          | nil => have := hz rfl; omega
          | cons => simp
        obtain ⟨d, c', e, b', k, rfl, hk⟩ := take (K := K) (fuel := fuel) (l := l + 1) (many := (ws.length : Int)) (by omega) c [.lst (rs.map .str)] b
        have hk2 : k < ws.length := by omega
        have ek : (ws.map D.str)[k]? = some (.str ws[k]) := by rw [List.getElem?_map, List.getElem?_eq_getElem hk2]; rfl
        have ek := get_in ek
        have em := m_app (S := [K, c', .lst (rs.map .str)]) (n := 2) (xs := rs.map D.str) (y := .str ws[k]) rfl (by simp; omega)
        have q0 : (0 : Int) ≤ (k : Int) := by omega
        refine ⟨_, _, ?_, c', rs ++ [ws[k]], some (.int i), rfl, rfl, b', by simp; omega, fun r hr2 => ?_⟩
        · simp (disch := (first | decide | assumption | (simp only [List.length_append, List.length_cons, List.length_nil, List.length_map] <;> omega) | omega)) [e, ek, em, recvOk]
        · rcases List.mem_append.mp hr2 with h | h
          · exact hr r h
          · rw [List.mem_singleton.mp h]
            exact List.getElem_mem hk2) ⟨c1, [], none, rfl, rfl, b1, rfl, fun _ h => (nomatch h)⟩
    exact ⟨v, c2, rs, e2, b2, by rw [hl, rng_len]; omega, hr⟩
  have t64 : two64 = 18446744073709551616 := rfl
  have e3 : ∀ (m : Nat) (S : Store), m ≤ n → rngM (.int (m : Int)) S = .ok (.xs (rngD 0 m)) S := fun m S h => rngM_nat (by omega)
  have fin : ∀ (m : Nat) (u : Int), m ≤ n → (ws = [] → m = 0) → (u = 0 ∨ u = 1) → u * (n : Int) = (m : Int) → (∀ S : Store, bltD S .min [.int 1, .int (ws.length : Int)] = some (.int u)) → ∃ d c' S', exS ⟨callF fs fuel (l + 2), fuel, l + 2⟩ f_law_drawn.body [some (.cell 1), some (.tup [.tup (ws.map .str), .tup (gs.map .str), x, y]), some (.int most), none, none, none, none] [K, c] = .ok (.rt d) (K :: c' :: S') ∧ Hold (fun d c' S' => Box c' ∧ ∃ d', frz 2 (K :: c' :: S') 4 d = some d' ∧ ∃ (init : List (List Nat)) (z : List Nat), d' = .tup (init.map .str ++ [.str z]) ∧ (∀ w ∈ init, w ∈ ws) ∧ z ∈ gs ∧ (init.length : Int) < most) d c' S' := fun m u hm3 hz hu he emin => by
    obtain ⟨v4, c2, rs, e2, b2, hl, hr⟩ := loop m hm3 hz
    obtain ⟨d5, c5, e5, b5, j, rfl, hj⟩ := take (K := K) (fuel := fuel) (l := l + 1) (many := (gs.length : Int)) (by omega) c2 [.lst (rs.map .str)] b2
    have hj2 : j < gs.length := by omega
    have ek : (gs.map D.str)[j]? = some (.str gs[j]) := by rw [List.getElem?_map, List.getElem?_eq_getElem hj2]; rfl
    have ek := get_in ek
    have q0 : (0 : Int) ≤ (j : Int) := by omega
    have et : ∀ c : Cell, bltD [K, c, .lst (rs.map .str)] .tuple [.cell 2] = some (.tup (rs.map .str)) := fun c => rfl
    have hg0 := List.getElem_mem hj2
    generalize gs[j] = gj at ek hg0
    have em : ∀ S : Store, binM .mul (.int u) (.int (n : Int)) S = .ok (.int (m : Int)) S := fun S => by rw [← he]; exact o_mulI (by rw [t64]; omega)
    simp (disch := (first | decide | assumption | (simp only [List.length_append, List.length_cons, List.length_nil, List.length_map] <;> omega) | omega)) [-b_minI, f_law_drawn, hB, e1, emin, em, e3 m _ hm3, e2, e5, ek, et]
    refine ⟨_, _, _, ⟨rfl, rfl, rfl⟩, b5, .tup (rs.map .str ++ [.str gj]), frz_low 4 ?_, rs, gj, rfl, hr, hg0, by omega⟩
    exact low_free (by show D.frees (rs.map D.str ++ [.str gj]) = true; rw [frees_app, frees_strs]; rfl)
  by_cases hws : ws = []
  · exact fin 0 0 (Nat.zero_le _) (fun _ => rfl) (.inl rfl) (by simp) fun S => by rw [hws]; rfl
  · have h1 : 0 < ws.length := List.length_pos_iff.mpr hws
    exact fin n 1 (Nat.le_refl _) (fun z => absurd z hws) (.inr rfl) (by omega) fun S => by rw [b_minI, if_neg (by omega)]
end Lw
set_option linter.all false
set_option maxRecDepth 100000
set_option maxHeartbeats 8000000
/-! K2j: near types. -/
namespace Lw
open Fb
variable {K : Cell} [KOk K] {fuel l : Nat} {ws gs : List (List Nat)} {x y : D}
theorem th_tup {k : Nat} {xs : List D} (h : FL k xs) (hk : k ≤ 100000) : Th (.tup xs) := ⟨h.1, Nat.le_trans h.2 hk⟩
theorem th_lst {k : Nat} {xs : List D} (h : FL k xs) : Th (.lst xs) := ⟨h.1, trivial⟩
theorem rev_tup {S : Store} {xs : List D} : revD S (.tup xs) = some (.tup xs.reverse) := (rfl)
theorem Th.app {as bs : List D} (h1 : ∀ y ∈ as, Th y) (h2 : ∀ y ∈ bs, Th y) : ∀ y ∈ as ++ bs, Th y := fun y hy => (List.mem_append.mp hy).elim (h1 y) (h2 y)
theorem near_types (hx : D.free x = true) (hy : D.free y = true) (lw : ws.length ≤ 6) (lg : gs.length ≤ 4) (hw : ∀ w ∈ ws, Nm w) (hg : ∀ g ∈ gs, Nm g) {init : List (List Nat)} {z : List Nat} (hl : init.length < 60) (hi : ∀ w ∈ init, Nm w) (hz : Nm z) :
    Dr K fuel (l + 4) 19 [prog ws gs x y, .tup (init.map .str ++ [.str z])] fun d => ∃ ys, d = .lst ys ∧ ∀ y ∈ ys, Th y := by
  refine Dr.go0 (l := l + 3) (show fs[19]? = some f_law_near_types from rfl) rfl rfl (tops_free (by simp [D.frees, D.free, prog_free hx hy, frees_app, frees_strs])) fun c b => ?_
  have hall : ∀ w ∈ init ++ [z], Nm w := fun w h => (List.mem_append.mp h).elim (hi w) fun h => by rw [List.mem_singleton.mp h]; exact hz
  obtain ⟨N, hN⟩ : ∃ N, N = init.map D.str ++ [.str z] := ⟨_, rfl⟩
  have hN2 : N = (init ++ [z]).map D.str := by rw [hN]; simp
  have nl : N.length = init.length + 1 := by rw [hN]; simp
  have last : ∀ S : Store, idxM (.tup N) (.int (-1)) S = .ok (.str z) S := fun S => by rw [hN]; exact o_last
  obtain ⟨d1, c1, e1, b1, at1, rfl, h1⟩ := take (K := K) (fuel := fuel) (l := l + 2) (many := (N.length : Int)) (by omega) c [] b
  obtain ⟨d2, c2, e2, b2, fw, rfl, h2, _⟩ := fresh (K := K) (fuel := fuel) (l := l) (place := 11) (by omega) (by omega) (ts := ws ++ gs) (by simp; omega) (fun t ht => (List.mem_append.mp ht).elim (fun h => (hw t h).wd) fun h => (hg t h).wd) c1 [] b1
  rw [List.map_append] at e2
  have hat : at1 < (init ++ [z]).length := by simp; omega
  have hza := hall _ (List.getElem_mem hat)
  have ek : N[at1]? = some (.str (init ++ [z])[at1]) := by rw [hN2, List.getElem?_map, List.getElem?_eq_getElem hat]; rfl
  have ek := get_in ek
  generalize (init ++ [z])[at1] = za at ek hza
  have ej : ∀ S : Store, mthD S .join (.str [32]) [.tup N] = some (.str (joinD [32] (init ++ [z])), S) := fun S => by
    refine join_seq (init ++ [z]) rfl hN2 ?_
    have := sum_le (zs := init ++ [z]) (b := 8) fun w h => (hall w h).2.1
    have e : (init ++ [z]).length = init.length + 1 := by simp
    rw [e] at this ⊢
    simp only [List.length_cons, List.length_nil]
    omega
  have jl : (joinD [32] (init ++ [z])).length ≤ 100000 := by
    have h1 := join_len [32] (init ++ [z])
    have h2 := sum_le (zs := init ++ [z]) (b := 8) fun w h => (hall w h).2.1
    have e : (init ++ [z]).length = init.length + 1 := by simp
    rw [e] at h1 h2
    simp only [List.length_cons, List.length_nil] at h1
    omega
  have fN : FL 60 N := by rw [hN2]; exact fl_strs (by simp; omega)
  obtain ⟨G, hG⟩ : ∃ G, G = gs.map D.str := ⟨_, rfl⟩
  have fG : FL 4 G := by rw [hG]; exact fl_strs lg
  have gl : G.length ≤ 4 := fG.2
  have up : ∀ S : Store, mthD S .upper (.str za) [] = some (.str (za.map upC), S) := fun S => m_upper (by have := hza.2.1; omega) fun c hc => by have := isL_iff.mp (hza.2.2.1 c hc); omega
  have zl := hza.2.1
  have zl2 := hz.2.1
  generalize joinD [32] (init ++ [z]) = J at ej jl
  have q0 : (0 : Int) ≤ (at1 : Int) := by omega
  rw [← hG] at e2
  rw [← hN]
  have t0 : (([.cell 1, prog ws gs x y, .tup N] : List D).map some ++ List.replicate (9 - 3) none) = [some (.cell 1), some (.tup [.tup (ws.map .str), .tup G, x, y]), some (.tup N), none, none, none, none, none, none] := by rw [hG]; rfl
  show ∃ d c' S', exS ⟨callF fs fuel (l + 3), fuel, l + 3⟩ f_law_near_types.body (([.cell 1, prog ws gs x y, .tup N] : List D).map some ++ List.replicate (9 - 3) none) [K, c] = _ ∧ _
  rw [t0]
  clear hN hN2 hG t0
  have wl : (ws.map D.str).length ≤ 6 := by simpa using lw
  generalize hB : (IS.seq (.set 5 (.bin .add (.var 5) (.lst (.cons (.bin .add (.bin .mul (.tup (.cons (.var 6) .nil)) (.lit (.int 59))) (.sli (.var 8) (.cons (.neg (.lit (.int 1))) .nil) .nil)) (.cons (.bin .add (.bin .mul (.tup (.cons (.var 6) .nil)) (.lit (.int 60))) (.sli (.var 8) (.cons (.neg (.lit (.int 1))) .nil) .nil)) (.cons (.bin .add (.var 2) (.tup (.cons (.var 6) .nil))) (.cons (.tup (.cons (.var 6) .nil)) (.cons (.bin .add (.tup (.cons (.var 6) .nil)) (.sli (.var 2) (.cons (.neg (.lit (.int 1))) .nil) .nil)) (.cons (.bin .mul (.tup (.cons (.var 6) .nil)) (.lit (.int 60))) (.cons (.bin .add (.tup (.cons (.var 6) (.cons (.var 6) .nil))) (.sli (.var 2) (.cons (.neg (.lit (.int 1))) .nil) .nil)) .nil)))))))))) .skip) = B
  have loop : ∀ (ys : List D), (∀ y ∈ ys, Th y) → ys.length ≤ 100 → ∃ ys' v6, forL (patB (.nm 6) fun σ' => exS ⟨callF fs fuel (l + 3), fuel, l + 3⟩ B σ') (ws.map .str) [some (.cell 1), some (.tup [.tup (ws.map .str), .tup G, x, y]), some (.tup N), some (.int at1), some (.str fw), some (.lst ys), none, some (.tup (ws.map .str)), some (.tup G)] [K, c2] = .ok (.nx [some (.cell 1), some (.tup [.tup (ws.map .str), .tup G, x, y]), some (.tup N), some (.int at1), some (.str fw), some (.lst ys'), v6, some (.tup (ws.map .str)), some (.tup G)]) [K, c2] ∧ ∀ y ∈ ys', Th y := fun ys hys hyl => by
    obtain ⟨σ1, S1, e, ys', v6, rfl, rfl, hys', _⟩ := forL_ix (f := patB (.nm 6) fun σ' => exS ⟨callF fs fuel (l + 3), fuel, l + 3⟩ B σ') (fun j σ S => ∃ ys v6, σ = [some (.cell 1), some (.tup [.tup (ws.map .str), .tup G, x, y]), some (.tup N), some (.int at1), some (.str fw), some (.lst ys), v6, some (.tup (ws.map .str)), some (.tup G)] ∧ S = [K, c2] ∧ (∀ y ∈ ys, Th y) ∧ ys.length ≤ 100 + 7 * j)
      (xs := ws.map .str) (j := 0) (σ := [some (.cell 1), some (.tup [.tup (ws.map .str), .tup G, x, y]), some (.tup N), some (.int at1), some (.str fw), some (.lst ys), none, some (.tup (ws.map .str)), some (.tup G)]) (S := [K, c2])
      (fun i u σ S hu ⟨ys, v6, e1, e2, hys, hyl⟩ => by
        have hi : i < (ws.map D.str).length := (List.getElem?_eq_some_iff.mp hu).1
        have hu2 : D.free u = true := by
          obtain ⟨w, _, rfl⟩ := List.mem_map.mp (List.mem_of_getElem? hu)
          rfl
        subst e1 e2 hB
        have m1 : ∀ S : Store, binM .mul (.tup [u]) (.int 59) S = .ok (.tup (List.replicate 59 u)) S := fun S => o_mulT (by omega) (by omega)
        have m2 : ∀ S : Store, binM .mul (.tup [u]) (.int 60) S = .ok (.tup (List.replicate 60 u)) S := fun S => o_mulT (by omega) (by omega)
        refine ⟨[some (.cell 1), some (.tup [.tup (ws.map .str), .tup G, x, y]), some (.tup N), some (.int at1), some (.str fw), some (.lst (ys ++ [.tup (List.replicate 59 u ++ cutL G (some (-1)) none), .tup (List.replicate 60 u ++ cutL G (some (-1)) none), .tup (N ++ [u]), .tup [u], .tup (u :: cutL N (some (-1)) none), .tup (List.replicate 60 u), .tup (u :: u :: cutL N (some (-1)) none)])), some u, some (.tup (ws.map .str)), some (.tup G)], [K, c2], ?_, _, _, rfl, rfl, Th.app hys ?_, ?_⟩
        · simp (disch := (first | decide | assumption | (simp only [List.length_append, List.length_cons, List.length_nil, List.length_map, cutL_length, List.length_replicate] <;> omega) | omega)) [m1, m2, cut_tup]
        · refine th_app (th_tup (fl_app (fl_rep hu2) (fl_cut fG)) (by omega)) (th_app (th_tup (fl_app (fl_rep hu2) (fl_cut fG)) (by omega)) (th_app (th_tup (fl_app fN (fl_cons hu2 fl_nil)) (by omega)) (th_app (th_tup (fl_cons hu2 fl_nil) (by omega)) (th_app (th_tup (fl_cons hu2 (fl_cut fN)) (by omega)) (th_app (th_tup (fl_rep (k := 60) hu2) (by omega)) (th_app (th_tup (fl_cons hu2 (fl_cons hu2 (fl_cut fN))) (by omega)) (List.forall_mem_nil _)))))))
        · simp only [List.length_append, List.length_cons, List.length_nil]; omega) ⟨ys, none, rfl, rfl, hys, by omega⟩
    exact ⟨ys', v6, e, hys'⟩
  generalize hT : (IS.seq (.for (.nm 6) (.cons (.var 7) .nil) B) (.seq (.ret (.var 5)) .skip)) = T
  have tail : ∀ (ys : List D), (∀ y ∈ ys, Th y) → ys.length ≤ 100 → ∃ ys', exS ⟨callF fs fuel (l + 3), fuel, l + 3⟩ T [some (.cell 1), some (.tup [.tup (ws.map .str), .tup G, x, y]), some (.tup N), some (.int at1), some (.str fw), some (.lst ys), none, some (.tup (ws.map .str)), some (.tup G)] [K, c2] = .ok (.rt (.lst ys')) [K, c2] ∧ ∀ y ∈ ys', Th y := fun ys hys hyl => by
    obtain ⟨ys', v6, e, h⟩ := loop ys hys hyl
    refine ⟨ys', ?_, h⟩
    subst hT
    simp (disch := (first | decide | assumption | (simp only [List.length_append, List.length_cons, List.length_nil, List.length_map] <;> omega) | omega)) [srcD, e]
  have fin : ∀ (ys : List D), (∀ y ∈ ys, Th y) → ys.length ≤ 100 → ∃ d c' S', exS ⟨callF fs fuel (l + 3), fuel, l + 3⟩ T [some (.cell 1), some (.tup [.tup (ws.map .str), .tup G, x, y]), some (.tup N), some (.int at1), some (.str fw), some (.lst ys), none, some (.tup (ws.map .str)), some (.tup G)] [K, c2] = .ok (.rt d) (K :: c' :: S') ∧ Hold (fun d c' _ => Box c' ∧ D.free d = true ∧ ∃ ys, d = .lst ys ∧ ∀ y ∈ ys, Th y) d c' S' := fun ys hys hyl => by
    obtain ⟨ys', e, h⟩ := tail ys hys hyl
    exact ⟨_, _, _, e, b2, frees_mem.mpr fun y hy => (h y hy).1, ys', rfl, h⟩
  simp (disch := (first | decide | assumption | (simp only [List.length_append, List.length_cons, List.length_nil, List.length_map, cutL_length, List.length_replicate] <;> omega) | omega)) [f_law_near_types, hB, hT, e1, e2, last, ek, ej, up, cut_tup, rev_tup, recvOk]
  refine fin _ (th_app ?_ (th_app ?_ (th_app ?_ (th_app ?_ (th_app ?_ (th_app ?_ (th_app ?_ (th_app ?_ (th_app ?_ (th_app ?_ (th_app ?_ (th_app ?_ (th_app ?_ (th_app ?_ (th_app ?_ (th_app ?_ (th_app ?_ (th_app ?_ (th_app ?_ (th_app ?_ (th_app ?_ (th_app ?_ (List.forall_mem_nil _))))))))))))))))))))))) (by simp)
  all_goals first
    | exact ⟨rfl, trivial⟩
    | (refine th_str ?_; (try simp only [List.length_append, List.length_cons, List.length_map, List.length_nil]); omega)
    | exact th_lst fN
    | exact th_tup (fl_app (fl_cut fN) (fl_cons rfl (fl_cut fN))) (by decide)
    | exact th_tup (fl_cut fN) (by decide)
    | exact th_tup (fl_app fN (fl_cut fN)) (by decide)
    | exact th_tup (fl_app (fl_cut fN) (fl_app (fl_cut fG) (fl_cut fN))) (by decide)
    | exact th_tup (fl_app (fl_cut fG) fN) (by decide)
    | exact th_tup (fl_rev fN) (by decide)
    | exact th_tup (fl_cons fN.1 fl_nil) (by decide)
    | exact th_tup fl_nil (by decide)
end Lw
set_option linter.all false
set_option maxRecDepth 100000
set_option maxHeartbeats 8000000
/-! K2k: types right. -/
namespace Lw
open Fb
variable {K : Cell} [KOk K] {fuel l : Nat} {ws gs : List (List Nat)} {x y : D}
theorem join_nm {S : Store} {zs : List (List Nat)} {N : List D} (hN : N = zs.map .str) (h : ∀ w ∈ zs, w.length ≤ 20) (hl : zs.length ≤ 10000) : mthD S .join (.str [32]) [.tup N] = some (.str (joinD [32] zs), S) := by
  refine join_seq zs rfl hN ?_
  have := sum_le (zs := zs) (b := 20) h
  simp only [List.length_cons, List.length_nil]
  omega
theorem type_text {zs : List (List Nat)} {N : List D} (hN : N = zs.map .str) (h : ∀ w ∈ zs, w.length ≤ 20) (hl : zs.length ≤ 10000) (S : Store) : callF fs fuel (l + 1) 3 [.tup N] S = .ok (.str (joinD [32] zs)) S := by
  rw [callF_succ (show fs[3]? = some f_type_text from rfl) rfl]
  refine call_freeE (S' := []) rfl (tops_free (by simp [D.frees, D.free, hN, frees_strs])) rfl ?_
  have ej := fun S => join_nm (S := S) hN h hl
  simp (disch := (first | decide | assumption | (simp only [List.length_append, List.length_cons, List.length_nil, List.length_map] <;> omega) | omega)) [f_type_text, ej, recvOk]
theorem grounds_type (h1 : 1 ≤ gs.length) (h2 : gs.length ≤ 4) (hg : ∀ g ∈ gs, g ∉ ws) : typeB ws gs (.tup (gs.map .str)) = ((gs.length : Int) == 1) := by
  rcases List.eq_nil_or_concat gs with rfl | ⟨init, z, rfl⟩
  · simp at h1
  · rw [List.concat_eq_append] at *
    rw [typeB_strs]
    unfold tyB
    cases init with
    | nil => simp
    | cons a r =>
      have : a ∉ ws := hg a (by simp)
      simp [this]
      omega
theorem types_right {d : D} (hp : Pg d) : Dr K fuel (l + 5) 20 [d] fun d => d = .bl true := by
  obtain ⟨ws, gs, x, y, rfl, hx, hy, l1, l2, l3, hw, hg⟩ := hp
  refine Dr.go0 (l := l + 4) (show fs[20]? = some f_law_types_right from rfl) rfl rfl (tops_free (by simp [D.frees, prog_free hx hy])) fun c b => ?_
  have lawis : ∀ (p : Bool) (S : Store), callF fs fuel (l + 4) 15 [.bl p, .bl p] S = .ok (.bl true) S := fun p S => by rw [law_is]; simp
  obtain ⟨P, hP⟩ : ∃ P, P = D.tup [.tup (ws.map .str), .tup (gs.map .str), x, y] := ⟨_, rfl⟩
  have hP2 : P = prog ws gs x y := hP
  have p1 : ∀ S : Store, idxM P (.int 1) S = .ok (.tup (gs.map .str)) S := fun S => by rw [hP]; rfl
  have isT : ∀ (t : D) (S : Store), Th t → callF fs fuel (l + 4) 2 [P, t] S = .ok (.bl (typeB ws gs t)) S := fun t S h => by rw [hP2]; exact is_type hx hy h.1 h.2
  have duT : ∀ (t : D) (S : Store), Th t → callF fs fuel (l + 4) 14 [P, t] S = .ok (.bl (typeB ws gs t)) S := fun t S h => by rw [hP2]; exact type_due hx hy h.1 h.2
  have eG : ∀ S : Store, callF fs fuel (l + 4) 2 [P, .tup (gs.map .str)] S = .ok (.bl ((gs.length : Int) == 1)) S := fun S => by
    rw [isT _ _ (th_tup (fl_strs l3) (by decide)), grounds_type l2 l3 fun g h => (hg g h).2]
  generalize hB2 : (IS.seq (.ite (.not (.call 15 (.cons (.call 2 (.cons (.var 1) (.cons (.var 5) .nil))) (.cons (.call 14 (.cons (.var 1) (.cons (.var 5) .nil))) .nil)))) (.seq (.ret (.lit (.bl false))) .skip) .skip) .skip) = B2
  generalize hB : (IS.seq (.set 3 (.call 18 (.cons (.var 0) (.cons (.var 1) (.cons (.lit (.int 60)) .nil)))))
    (.seq (.ite (.not (.call 15 (.cons (.call 2 (.cons (.var 1) (.cons (.var 3) .nil))) (.cons (.lit (.bl true)) .nil)))) (.seq (.ret (.lit (.bl false))) .skip) .skip)
    (.seq (.set 4 (.call 3 (.cons (.var 3) .nil)))
    (.seq (.ite (.or (.not (.isi (.var 4) [.str])) (.cmp .ne (.var 4) (.mth .join (.lit (.str [32])) (.cons (.var 3) .nil)))) (.seq (.ret (.lit (.bl false))) .skip) .skip)
    (.seq (.for (.nm 5) (.cons (.call 19 (.cons (.var 0) (.cons (.var 1) (.cons (.var 3) .nil)))) .nil) B2)
    .skip))))) = B
  obtain ⟨σ1, S1, f1, v2, v3, v4, v5, c1, rfl, rfl, b1⟩ := forL_ix (f := patB (.nm 2) fun σ' => exS ⟨callF fs fuel (l + 4), fuel, l + 4⟩ B σ') (fun j σ S => ∃ v2 v3 v4 v5 c, σ = [some (.cell 1), some P, v2, v3, v4, v5] ∧ S = [K, c] ∧ Box c) (xs := rngD 0 3) (j := 0) (σ := [some (.cell 1), some P, none, none, none, none]) (S := [K, c])
    (fun i z σ S hz ⟨v2, v3, v4, v5, c, e1, e2, b⟩ => by
      obtain ⟨rfl, hi⟩ := rng_at hz
      subst e1 e2 hB
      obtain ⟨d1, c1, e1, b1, init, z, rfl, hi1, hz1, hl⟩ := drawn (K := K) (fuel := fuel) (l := l + 1) (ws := ws) (gs := gs) (x := x) (y := y) (most := 60) (by omega) (by omega) hx hy l1 l2 l3 c [] b
      rw [← hP2] at e1
      have hall : ∀ w ∈ init ++ [z], w.length ≤ 20 := fun w h => by
        rcases List.mem_append.mp h with h | h
        · have := (hw w (hi1 w h)).2.1; omega
        · rw [List.mem_singleton.mp h]; have := (hg z hz1).1.2.1; omega
      obtain ⟨d2, c2, e2, b2, ys, rfl, hys⟩ := near_types (K := K) (fuel := fuel) (l := l) (ws := ws) (gs := gs) hx hy l1 l3 hw (fun g h => (hg g h).1) (init := init) (z := z) (by omega) (fun w h => hw w (hi1 w h)) (hg z hz1).1 c1 [] b1
      rw [← hP2] at e2
      have hth : Th (.tup (init.map D.str ++ [.str z])) := th_tup (k := 60 + 1) (fl_app (fl_strs (by omega)) (fl_cons rfl fl_nil)) (by decide)
      have e3 : ∀ S : Store, callF fs fuel (l + 4) 2 [P, .tup (init.map D.str ++ [.str z])] S = .ok (.bl true) S := fun S => by
        rw [isT _ _ hth]
        have : typeB ws gs (.tup (init.map D.str ++ [.str z])) = true := by
          have h := typeB_strs (ws := ws) (gs := gs) (init := init) (z := z)
          rw [List.map_append] at h
          rw [show (init.map D.str ++ [.str z]) = init.map D.str ++ [z].map D.str from rfl, h]
          unfold tyB
          simp only [Bool.and_eq_true, decide_eq_true_eq, List.all_eq_true]
          exact ⟨⟨by omega, hz1⟩, hi1⟩
        rw [this]
      have hN : init.map D.str ++ [.str z] = (init ++ [z]).map .str := by simp
      have e4 := fun S => type_text (fuel := fuel) (l := l + 3) hN hall (by simp; omega) S
      have e5 := fun S => join_nm (S := S) hN hall (by simp; omega)
      generalize joinD [32] (init ++ [z]) = J at e4 e5
      generalize init.map D.str ++ [D.str z] = N at *
      obtain ⟨σ2, f2, v5', rfl⟩ := forL_nxs (f := patB (.nm 5) fun σ' => exS ⟨callF fs fuel (l + 4), fuel, l + 4⟩ B2 σ') (S := [K, c2]) (fun σ => ∃ v5, σ = [some (.cell 1), some P, some (.int i), some (.tup N), some (.str J), v5]) (xs := ys) (σ := [some (.cell 1), some P, some (.int i), some (.tup N), some (.str J), v5])
        (fun t ht σ ⟨v5, e⟩ => by
          subst e hB2
          have i1 := fun S => isT t S (hys t ht)
          have i2 := fun S => duT t S (hys t ht)
          simp (disch := (first | decide | assumption | (simp only [List.length_append, List.length_cons, List.length_nil, List.length_map] <;> omega) | omega)) [i1, i2, lawis]) ⟨_, rfl⟩
      refine ⟨[some (.cell 1), some P, some (.int i), some (.tup N), some (.str J), v5'], [K, c2], ?_, _, _, _, v5', c2, rfl, rfl, b2⟩
      simp (disch := (first | decide | assumption | (simp only [List.length_append, List.length_cons, List.length_nil, List.length_map] <;> omega) | omega)) [e1, e3, e4, e5, e2, f2, lawis, D.isTy, recvOk, srcD]) ⟨_, _, _, _, c, rfl, rfl, b⟩
  have e0 : (([.cell 1, prog ws gs x y] : List D).map some ++ List.replicate (6 - 2) none) = [some (.cell 1), some P, none, none, none, none] := by rw [hP2]; rfl
  show ∃ d c' S', exS ⟨callF fs fuel (l + 4), fuel, l + 4⟩ f_law_types_right.body (([.cell 1, prog ws gs x y] : List D).map some ++ List.replicate (6 - 2) none) [K, c] = _ ∧ _
  rw [e0]
  simp (disch := (first | decide | assumption | (simp only [List.length_append, List.length_cons, List.length_nil, List.length_map] <;> omega) | omega)) [f_law_types_right, hB2, hB, f1, p1, eG, lawis]
  exact ⟨_, _, _, ⟨rfl, rfl, rfl⟩, b1, rfl, rfl⟩
end Lw
set_option linter.all false
set_option maxRecDepth 100000
set_option maxHeartbeats 8000000
/-! K2l: texts and words. -/
namespace Lw
open Fb
def FW (acc l : List Nat) : List (List Nat) := (splitD 32 acc l).filter fun w => !w.isEmpty
theorem fw_sp {acc l : List Nat} : FW acc (32 :: l) = (if acc.isEmpty then [] else [acc]) ++ FW [] l := by
  unfold FW
  show (if (32 : Nat) = 32 then acc :: splitD 32 [] l else splitD 32 (acc ++ [32]) l).filter _ = _
  rw [if_pos rfl, List.filter_cons]
  cases acc <;> simp
theorem fw_sps {l : List Nat} : ∀ m : Nat, FW [] (List.replicate m 32 ++ l) = FW [] l
  | 0 => rfl
  | m + 1 => by
    rw [List.replicate_succ, List.cons_append, fw_sp, fw_sps m]; rfl
theorem split_w {w l : List Nat} (h : 32 ∉ w) : ∀ acc, splitD 32 acc (w ++ l) = splitD 32 (acc ++ w) l := by
  induction w with
  | nil => intro acc; simp
  | cons c r ih =>
    intro acc
    have hc : c ≠ 32 := fun z => h (by simp [z])
    show (if c = 32 then acc :: splitD 32 [] (r ++ l) else splitD 32 (acc ++ [c]) (r ++ l)) = _
    rw [if_neg hc, ih (fun z => h (by simp [z]))]
    simp
theorem fw_w {w l : List Nat} (h : 32 ∉ w) : FW [] (w ++ l) = FW w l := by
  unfold FW
  rw [split_w h]; rfl
theorem fw_nil {w : List Nat} : FW w [] = if w.isEmpty then [] else [w] := by
  unfold FW splitD
  cases w <;> simp
/-- a text that holds these words -/
structure Tx (t : List Nat) (zs : List (List Nat)) : Prop where
  all : FW [] t = zs
  more : ∀ r, FW [] (t ++ 32 :: r) = zs ++ FW [] r
theorem Tx.nil : Tx [] [] := ⟨rfl, fun r => by rw [List.nil_append, fw_sp]; rfl⟩
theorem Tx.word {t w : List Nat} {zs : List (List Nat)} (h : Tx t zs) (hw : 32 ∉ w) (hn : w ≠ []) {m : Nat} (hm : 1 ≤ m ∨ t = []) : Tx (t ++ (List.replicate m 32 ++ w)) (zs ++ [w]) := by
  have e : w.isEmpty = false := by cases w <;> simp at hn ⊢
  rcases hm with hm | rfl
  · obtain ⟨k, rfl⟩ : ∃ k, m = k + 1 := ⟨m - 1, by omega⟩
    refine ⟨?_, fun r => ?_⟩
    · rw [List.replicate_succ, List.cons_append, h.more, fw_sps]
      have := fw_w (w := w) (l := []) hw
      rw [List.append_nil] at this
      rw [this, fw_nil, e]; rfl
    · rw [List.replicate_succ, List.cons_append, List.append_assoc, List.cons_append, h.more, List.append_assoc, fw_sps, fw_w hw, fw_sp, e, List.append_assoc]; rfl
  · have hz : zs = [] := h.all.symm
    subst hz
    refine ⟨?_, fun r => ?_⟩
    · rw [List.nil_append, fw_sps]
      have := fw_w (w := w) (l := []) hw
      rw [List.append_nil] at this
      rw [this, fw_nil, e]; rfl
    · rw [List.nil_append, List.append_assoc, fw_sps, fw_w hw, fw_sp, e]; rfl
theorem Tx.tail {t : List Nat} {zs : List (List Nat)} (h : Tx t zs) (m : Nat) : FW [] (t ++ List.replicate m 32) = zs := by
  cases m with
  | zero => rw [List.replicate_zero, List.append_nil]; exact h.all
  | succ k =>
    rw [List.replicate_succ, h.more]
    have := fw_sps (l := []) k
    rw [List.append_nil] at this
    rw [this]
    show zs ++ FW [] [] = zs
    rw [fw_nil]; simp
/-- a word to be read -/
def Rw (w : List Nat) : Prop := 1 ≤ w.length ∧ w.length ≤ 20 ∧ 32 ∉ w
variable {K : Cell} [KOk K] {fuel l : Nat}
theorem spaced {zs : List (List Nat)} (hz : ∀ w ∈ zs, Rw w) (hl : zs.length ≤ 200) : Dr K fuel (l + 3) 21 [.lst (zs.map .str)] fun d => ∃ t, d = .str t ∧ t.length ≤ 90000 ∧ FW [] t = zs := by
  refine Dr.go0 (l := l + 2) (show fs[21]? = some f_law_spaced from rfl) rfl rfl (tops_free (by simp [D.frees, D.free, frees_strs])) fun c b => ?_
  have ej : ∀ S : Store, mthD S .join (.str [32]) [.lst (zs.map .str)] = some (.str (joinD [32] zs), S) := fun S => by
    refine join_seq zs rfl rfl ?_
    have := sum_le (zs := zs) (b := 20) fun w h => (hz w h).2.1
    simp only [List.length_cons, List.length_nil]
    omega
  have jl : (joinD [32] zs).length ≤ 10000 := by
    have h1 := join_len [32] zs
    have h2 := sum_le (zs := zs) (b := 20) fun w h => (hz w h).2.1
    simp only [List.length_cons, List.length_nil] at h1
    omega
  generalize joinD [32] zs = J at ej jl
  have t64 : two64 = 18446744073709551616 := rfl
  have e3 : ∀ (S : Store), rngM (.int (zs.length : Int)) S = .ok (.xs (rngD 0 zs.length)) S := fun S => rngM_nat (by omega)
  generalize hB : (IS.seq (.set 6 (.bin .mul (.call 6 (.cons (.var 0) (.cons (.lit (.int 3)) .nil))) (.call 6 (.cons (.var 0) (.cons (.lit (.int 2)) .nil)))))
    (.seq (.ite (.cmp .gt (.var 6) (.var 2)) (.seq (.set 6 (.lit (.int 0))) .skip) .skip)
    (.seq (.set 2 (.bin .sub (.var 2) (.var 6)))
    (.seq (.set 3 (.bin .add (.bin .add (.var 3) (.bin .mul (.lit (.str [32])) (.bin .add (.var 6) (.blt .min (.cons (.var 4) (.cons (.lit (.int 1)) .nil)))))) (.idx (.var 1) (.var 4))))
    .skip)))) = B
  obtain ⟨σ1, S1, f1, r, t, v4, v6, c1, rfl, rfl, b1, hr1, hr2, tx, tl, _⟩ := forL_ix (f := patB (.nm 4) fun σ' => exS ⟨callF fs fuel (l + 2), fuel, l + 2⟩ B σ') (fun j σ S => ∃ (r : Int) (t : List Nat) (v4 v6 : Option D) (c : Cell), σ = [some (.cell 1), some (.lst (zs.map .str)), some (.int r), some (.str t), v4, none, v6] ∧ S = [K, c] ∧ Box c ∧ -100000 ≤ r ∧ r ≤ 400 ∧ Tx t (zs.take j) ∧ t.length ≤ 100 * j ∧ (j = 0 → t = []))
    (xs := rngD 0 zs.length) (j := 0) (σ := [some (.cell 1), some (.lst (zs.map .str)), some (.int (400 - (J.length : Int))), some (.str []), none, none, none]) (S := [K, c])
    (fun i u σ S hu ⟨r, t, v4, v6, c, e1, e2, b, hr1, hr2, tx, tl, t0⟩ => by
      obtain ⟨rfl, hi⟩ := rng_at hu
      subst e1 e2 hB
      obtain ⟨d1, c1, e1, b1, n1, rfl, h1⟩ := take (K := K) (fuel := fuel) (l := l + 1) (many := 3) (by omega) c [] b
      obtain ⟨d2, c2, e2, b2, n2, rfl, h2⟩ := take (K := K) (fuel := fuel) (l := l + 1) (many := 2) (by omega) c1 [] b1
      have hwi := hz _ (List.getElem_mem hi)
      have ek : (zs.map D.str)[i]? = some (.str zs[i]) := by rw [List.getElem?_map, List.getElem?_eq_getElem hi]; rfl
      have ek := get_in ek
      have hm : n1 * n2 ≤ 2 := by
        have : n2 = 0 ∨ n2 = 1 := by omega
        rcases this with z | z <;> subst z <;> omega
      have m1 : ∀ S : Store, binM .mul (.int (n1 : Int)) (.int (n2 : Int)) S = .ok (.int ((n1 * n2 : Nat) : Int)) S := fun S => by rw [Int.natCast_mul]; exact o_mulI (by rw [t64]; omega)
      generalize n1 * n2 = m0 at hm m1
      have mi : ∀ S : Store, bltD S .min [.int (i : Int), .int 1] = some (.int ((min i 1 : Nat) : Int)) := fun S => by
        rw [b_minI]
        by_cases z : 1 ≤ i
        · rw [show (min i 1) = 1 by omega]
          by_cases z2 : (1 : Int) < (i : Int)
          · rw [if_pos z2]; rfl
          · rw [if_neg z2]; congr 2; omega
        · have : i = 0 := by omega
          subst this; rfl
      have ms : ∀ (m : Nat) (S : Store), m ≤ 2 → binM .mul (.str [32]) (.int ((m : Int) + ((min i 1 : Nat) : Int))) S = .ok (.str (List.replicate (m + min i 1) 32)) S := fun m S hm => by
        rw [o_mulS (by omega) (by omega), show ((m : Int) + ((min i 1 : Nat) : Int)).toNat = m + min i 1 by omega]
      have wl := hwi.2.1
      generalize hw : zs[i] = w at ek hwi wl
      have tk : zs.take (i + 1) = zs.take i ++ [w] := by rw [List.take_add_one, List.getElem?_eq_getElem hi, hw]; rfl
      have nx : ∀ m : Nat, m ≤ 2 → Tx ((t ++ List.replicate (m + min i 1) 32) ++ w) (zs.take (i + 1)) ∧ ((t ++ List.replicate (m + min i 1) 32) ++ w).length ≤ 100 * (i + 1) := fun m hm => by
        refine ⟨?_, ?_⟩
        · rw [tk, List.append_assoc]
          have tx : Tx t (zs.take i) := by simpa using tx
          refine tx.word hwi.2.2 (fun z => by have := hwi.1; rw [z] at this; simp at this) ?_
          by_cases z : 1 ≤ i
          · exact .inl (by omega)
          · exact .inr (t0 (by omega))
        · simp; omega
      have q0 : (0 : Int) ≤ (i : Int) := by omega
      by_cases hlt : r < (m0 : Int)
      · obtain ⟨h4, h5⟩ := nx 0 (by omega)
        have ms0 : ∀ S : Store, binM .mul (.str [32]) (.int ((min i 1 : Nat) : Int)) S = .ok (.str (List.replicate (min i 1) 32)) S := fun S => by
          have := ms 0 S (by omega)
          simpa using this
        refine ⟨[some (.cell 1), some (.lst (zs.map .str)), some (.int (r - ((0 : Nat) : Int))), some (.str ((t ++ List.replicate (0 + min i 1) 32) ++ w)), some (.int (i : Int)), none, some (.int 0)], [K, c2], ?_, r - ((0 : Nat) : Int), _, _, _, c2, rfl, rfl, b2, by omega, by omega, by rw [show 0 + i + 1 = i + 1 by omega]; exact h4, by rw [show 0 + i + 1 = i + 1 by omega]; exact h5, fun z => by omega⟩
        simp (disch := (first | decide | assumption | (simp only [List.length_append, List.length_cons, List.length_nil, List.length_map, cutL_length, List.length_replicate] <;> omega) | omega)) [e1, e2, m1, mi, ms0, ek, hlt]
      · obtain ⟨h4, h5⟩ := nx m0 hm
        have ms0 := fun S => ms m0 S hm
        refine ⟨[some (.cell 1), some (.lst (zs.map .str)), some (.int (r - (m0 : Int))), some (.str ((t ++ List.replicate (m0 + min i 1) 32) ++ w)), some (.int (i : Int)), none, some (.int (m0 : Int))], [K, c2], ?_, r - (m0 : Int), _, _, _, c2, rfl, rfl, b2, by omega, by omega, by rw [show 0 + i + 1 = i + 1 by omega]; exact h4, by rw [show 0 + i + 1 = i + 1 by omega]; exact h5, fun z => by omega⟩
        simp (disch := (first | decide | assumption | (simp only [List.length_append, List.length_cons, List.length_nil, List.length_map, cutL_length, List.length_replicate] <;> omega) | omega)) [e1, e2, m1, mi, ms0, ek, hlt]) ⟨_, [], none, none, c, rfl, rfl, b, by omega, by omega, Tx.nil, by simp, fun _ => rfl⟩
  have tx : Tx t zs := by
    have := tx
    rw [rng_len, Nat.zero_add, List.take_length] at this
    exact this
  have tl : t.length ≤ 20000 := by rw [rng_len] at tl; omega
  obtain ⟨d2, c2, e2, b2, n2, rfl, h2⟩ := bias (K := K) (fuel := fuel) (l := l) (place := 12) (many := 4) (by omega) (by omega) (by omega) c1 [] b1
  obtain ⟨d3, c3, e3', b3, n3, rfl, h3⟩ := take (K := K) (fuel := fuel) (l := l + 1) (many := 5) (by omega) c2 [] b2
  have ms : ∀ (u : Int) (S : Store), -100000 ≤ u → u ≤ 400 → binM .mul (.str [32]) (.int u) S = .ok (.str (List.replicate u.toNat 32)) S := fun u S h1 h2 => o_mulS (by omega) (by omega)
  by_cases h0 : n3 = 0
  · subst h0
    have m1 := fun S => ms r S hr1 hr2
    have mm : ∀ S : Store, bltD S .min [.int r, .int r] = some (.int r) := fun S => by rw [b_minI, if_neg (by omega)]
    simp (disch := (first | decide | assumption | (simp only [List.length_append, List.length_cons, List.length_nil, List.length_map, cutL_length, List.length_replicate] <;> omega) | omega)) [-b_minI, f_law_spaced, hB, ej, recvOk, e3, f1, e2, e3', m1, mm]
    exact ⟨_, _, _, ⟨rfl, rfl, rfl⟩, b3, rfl, _, rfl, by simp; omega, tx.tail _⟩
  · have mm : ∀ S : Store, bltD S .min [.int (n2 : Int), .int r] = some (.int (if r < (n2 : Int) then r else (n2 : Int))) := fun S => b_minI
    have hu : -100000 ≤ (if r < (n2 : Int) then r else (n2 : Int)) ∧ (if r < (n2 : Int) then r else (n2 : Int)) ≤ 400 := by split <;> omega
    generalize (if r < (n2 : Int) then r else (n2 : Int)) = u at mm hu
    have m1 := fun S => ms u S hu.1 hu.2
    simp (disch := (first | decide | assumption | (simp only [List.length_append, List.length_cons, List.length_nil, List.length_map, cutL_length, List.length_replicate] <;> omega) | omega)) [-b_minI, f_law_spaced, hB, ej, recvOk, e3, f1, e2, e3', m1, mm, h0]
    exact ⟨_, _, _, ⟨rfl, rfl, rfl⟩, b3, rfl, _, rfl, by simp; omega, tx.tail _⟩
end Lw
set_option linter.all false
set_option maxRecDepth 100000
set_option maxHeartbeats 8000000
/-! K2m: reading. -/
namespace Lw
open Fb
variable {K : Cell} [KOk K] {fuel l : Nat} {ws gs : List (List Nat)} {x y : D} {S : Store}
def sName : D := .str [110, 97, 109, 101]
def sShape : D := .str [115, 104, 97, 112, 101]
def sTold : D := .str [116, 111, 108, 100]
def sRaised : D := .str [114, 97, 105, 115, 101, 100]
def pK (ws gs zs : List (List Nat)) (i : Nat) : Bool := match zs[i]? with
  | some w => decide (w ∈ ws ++ gs)
  | none => true
/-- what reading makes of these words -/
inductive Out (ws gs zs : List (List Nat)) : D → Prop
  | bad {i : Nat} (hi : i < zs.length) (h : pK ws gs zs i = false) (hj : ∀ j, j < i → pK ws gs zs j = true) : Out ws gs zs (.tup [sRaised, .tup [.int i, sName]])
  | shape (h : ∀ i, i < zs.length → pK ws gs zs i = true) (ht : typeB ws gs (.tup (zs.map .str)) = false) : Out ws gs zs (.tup [sRaised, .tup [.int (-1), sShape]])
  | told (h : ∀ i, i < zs.length → pK ws gs zs i = true) (ht : typeB ws gs (.tup (zs.map .str)) = true) : Out ws gs zs (.tup [sTold, .tup (zs.map .str)])
theorem Out.one {zs : List (List Nat)} {d e : D} (h1 : Out ws gs zs d) (h2 : Out ws gs zs e) : d = e := by
  cases h1 with
  | @bad i hi h hj =>
    cases h2 with
    | @bad j hi2 g gj =>
      have : i = j := by
        rcases Nat.lt_trichotomy i j with q | q | q
        · rw [gj i q] at h; cases h
        · exact q
        · rw [hj j q] at g; cases g
      rw [this]
    | shape g _ => rw [g i hi] at h; cases h
    | told g _ => rw [g i hi] at h; cases h
  | shape h ht =>
    cases h2 with
    | @bad j hi2 g gj => rw [h j hi2] at g; cases g
    | shape => rfl
    | told _ g => rw [ht] at g; cases g
  | told h ht =>
    cases h2 with
    | @bad j hi2 g gj => rw [h j hi2] at g; cases g
    | shape _ g => rw [ht] at g; cases g
    | told => rfl
theorem read_due (hx : D.free x = true) (hy : D.free y = true) (lw : ws.length ≤ 6) (lg : gs.length ≤ 4) {zs : List (List Nat)} (hl : zs.length ≤ 1000) (S : Store) : ∃ d, callF fs fuel (l + 3) 24 [prog ws gs x y, .lst (zs.map .str)] S = .ok d S ∧ Out ws gs zs d ∧ D.free d = true := by
  have key : ∃ d S', exS ⟨callF fs fuel (l + 2), fuel, l + 2⟩ f_law_read_due.body [some (prog ws gs x y), some (.lst (zs.map .str)), none] [] = .ok (.rt d) S' ∧ Out ws gs zs d ∧ D.free d = true := by
    have du : ∀ S : Store, callF fs fuel (l + 2) 14 [prog ws gs x y, .tup (zs.map .str)] S = .ok (.bl (typeB ws gs (.tup (zs.map .str)))) S := fun S => type_due hx hy (frees_strs zs) (by show _ ≤ 100000; simp; omega)
    have e3 : ∀ (S : Store), rngM (.int (zs.length : Int)) S = .ok (.xs (rngD 0 zs.length)) S := fun S => rngM_nat (by omega)
    have ad : ∀ S : Store, binM .add (.tup (ws.map .str)) (.tup (gs.map .str)) S = .ok (.tup ((ws ++ gs).map .str)) S := fun S => by rw [List.map_append]; exact o_addT (by simp; omega)
    have p0 : ∀ S : Store, idxM (prog ws gs x y) (.int 0) S = .ok (.tup (ws.map .str)) S := fun S => rfl
    have p1 : ∀ S : Store, idxM (prog ws gs x y) (.int 1) S = .ok (.tup (gs.map .str)) S := fun S => rfl
    generalize prog ws gs x y = P at *
    generalize hB : (IS.seq (.ite (.cmp .notIn (.idx (.var 1) (.var 2)) (.bin .add (.idx (.var 0) (.lit (.int 0))) (.idx (.var 0) (.lit (.int 1)))))
      (.seq (.ret (.tup (.cons (.lit (.str [114, 97, 105, 115, 101, 100])) (.cons (.tup (.cons (.var 2) (.cons (.lit (.str [110, 97, 109, 101])) .nil))) .nil)))) .skip) .skip) .skip) = B
    have lp := forL_first (f := patB (.nm 2) fun σ' => exS ⟨callF fs fuel (l + 2), fuel, l + 2⟩ B σ') (S := []) (fun σ => ∃ v, σ = [some P, some (.lst (zs.map .str)), v]) (pK ws gs zs) (fun i o => o = .rt (.tup [sRaised, .tup [.int i, sName]])) (fun i o h => .inl ⟨_, h⟩) (xs := rngD 0 zs.length) (k := 0) (σ := [some P, some (.lst (zs.map .str)), none])
      (fun i u σ hu ⟨v, e⟩ => by
        obtain ⟨rfl, hi⟩ := rng_at hu
        subst e hB
        have ek : (zs.map D.str)[i]? = some (.str zs[i]) := by rw [List.getElem?_map, List.getElem?_eq_getElem hi]; rfl
        have ek := get_in ek
        have pk : pK ws gs zs (0 + i) = decide (zs[i] ∈ ws ++ gs) := by
          unfold pK
          rw [Nat.zero_add, List.getElem?_eq_getElem hi]
        rw [pk]
        have q0 : (0 : Int) ≤ (i : Int) := by omega
        generalize zs[i] = w at ek
        refine ⟨fun h => ?_, fun h => ?_⟩
        · simp (disch := (first | decide | assumption | (simp only [List.length_append, List.length_cons, List.length_nil, List.length_map] <;> omega) | omega)) [-List.mem_append, -List.map_append, p0, p1, ad, ek, ni_tup, h]
        · simp (disch := (first | decide | assumption | (simp only [List.length_append, List.length_cons, List.length_nil, List.length_map] <;> omega) | omega)) [-List.mem_append, -List.map_append, p0, p1, ad, ek, ni_tup, h, sRaised, sName]) ⟨none, rfl⟩
    rcases lp with ⟨h1, σ', e, v, rfl⟩ | ⟨i, h1, h2, h3, o, e, rfl⟩
    · have h1 : ∀ i, i < zs.length → pK ws gs zs i = true := fun i hi => by
        have := h1 i (by rw [rng_len]; exact hi)
        rwa [Nat.zero_add] at this
      cases q : typeB ws gs (.tup (zs.map .str)) with
      | true =>
        rw [q] at du
        refine ⟨.tup [sTold, .tup (zs.map .str)], [], ?_, .told h1 q, ?_⟩
        · simp (disch := (first | decide | assumption | (simp only [List.length_append, List.length_cons, List.length_nil, List.length_map] <;> omega) | omega)) [f_law_read_due, hB, e3, e, du, sTold]
        · show D.frees [sTold, .tup (zs.map .str)] = true
          simp [D.frees, D.free, frees_strs, sTold]
      | false =>
        rw [q] at du
        refine ⟨.tup [sRaised, .tup [.int (-1), sShape]], [], ?_, .shape h1 q, rfl⟩
        simp (disch := (first | decide | assumption | (simp only [List.length_append, List.length_cons, List.length_nil, List.length_map] <;> omega) | omega)) [f_law_read_due, hB, e3, e, du, sRaised, sShape]
    · rw [Nat.zero_add] at *
      refine ⟨.tup [sRaised, .tup [.int i, sName]], [], ?_, .bad (by rw [rng_len] at h1; exact h1) h2 (fun j hj => by have := h3 j hj; rwa [Nat.zero_add] at this), rfl⟩
      simp (disch := (first | decide | assumption | (simp only [List.length_append, List.length_cons, List.length_nil, List.length_map] <;> omega) | omega)) [f_law_read_due, hB, e3, e]
  obtain ⟨d, S', e, h, hf⟩ := key
  refine ⟨d, ?_, h, hf⟩
  rw [callF_succ (show fs[24]? = some f_law_read_due from rfl) rfl]
  exact call_freeE rfl (tops_free (by simp [D.frees, D.free, prog_free hx hy, frees_strs])) hf e
end Lw
set_option linter.all false
set_option maxRecDepth 100000
set_option maxHeartbeats 8000000
/-! K2n: reading by the program. -/
namespace Lw
open Fb
variable {K : Cell} [KOk K] {fuel l : Nat} {ws gs : List (List Nat)} {x y : D} {S : Store}
def isNE : D → Bool
  | .str w => !w.isEmpty
  | _ => false
theorem fm_NE : ∀ parts : List (List Nat), ((parts.map D.str).filterMap fun x => if isNE x then some x else none) = (parts.filter fun w => !w.isEmpty).map .str
  | [] => rfl
  | w :: r => by
    have ih := fm_NE r
    cases w with
    | nil => simpa [isNE] using ih
    | cons c w => simpa [isNE] using ih
inductive RT (ws gs zs : List (List Nat)) (S : Store) : Res D → Prop
  | bad {i : Nat} (hi : i < zs.length) (h : pK ws gs zs i = false) (hj : ∀ j, j < i → pK ws gs zs j = true) : RT ws gs zs S (.exc 1 [.int i, sName] S)
  | shape (h : ∀ i, i < zs.length → pK ws gs zs i = true) (ht : typeB ws gs (.tup (zs.map .str)) = false) : RT ws gs zs S (.exc 1 [.int (-1), sShape] S)
  | told (h : ∀ i, i < zs.length → pK ws gs zs i = true) (ht : typeB ws gs (.tup (zs.map .str)) = true) : RT ws gs zs S (.ok (.tup (zs.map .str)) S)
theorem read_type (hx : D.free x = true) (hy : D.free y = true) (lw : ws.length ≤ 6) (lg : gs.length ≤ 4) {t : List Nat} {zs : List (List Nat)} (hz : FW [] t = zs) (ht : t.length ≤ 90000) (S : Store) : RT ws gs zs S (callF fs fuel (l + 3) 4 [prog ws gs x y, .str t] S) := by
  have hl : zs.length ≤ 90001 := by
    rw [← hz]
    have := split_len 32 t []
    have h2 := List.length_filter_le (fun w : List Nat => !w.isEmpty) (splitD 32 [] t)
    unfold FW
    omega
  rw [callF_succ (show fs[4]? = some f_read_type from rfl) rfl]
  have tp : D.tops [prog ws gs x y, .str t] = 0 := tops_free (by simp [D.frees, D.free, prog_free hx hy])
  have du : ∀ S : Store, callF fs fuel (l + 2) 2 [prog ws gs x y, .tup (zs.map .str)] S = .ok (.bl (typeB ws gs (.tup (zs.map .str)))) S := fun S => by
    exact is_type hx hy (frees_strs zs) (by show _ ≤ 100000; simp; omega)
  have ad : ∀ S : Store, binM .add (.tup (ws.map .str)) (.tup (gs.map .str)) S = .ok (.tup ((ws ++ gs).map .str)) S := fun S => by rw [List.map_append]; exact o_addT (by simp; omega)
  have p0 : ∀ S : Store, idxM (prog ws gs x y) (.int 0) S = .ok (.tup (ws.map .str)) S := fun S => rfl
  have p1 : ∀ S : Store, idxM (prog ws gs x y) (.int 1) S = .ok (.tup (gs.map .str)) S := fun S => rfl
  have es : ∀ S : Store, mthD S .split (.str t) [.str [32]] = some (.lst ((splitD 32 [] t).map .str), S) := fun S => m_split (by omega) (by omega)
  have pf := prog_free (ws := ws) (gs := gs) hx hy
  generalize prog ws gs x y = P at *
  have ec : compM (elG ⟨callF fs fuel (l + 2), fuel, l + 2⟩ [4] (.nm 4) (.cons (.cmp .ne (.var 4) (.lit (.str []))) .nil) (.var 4) [some P, some (.str t), none, none, none]) ((splitD 32 [] t).map .str) 0 [] = .ok (zs.map .str) [] := by
    have h := compM_fm (f := elG ⟨callF fs fuel (l + 2), fuel, l + 2⟩ [4] (.nm 4) (.cons (.cmp .ne (.var 4) (.lit (.str []))) .nil) (.var 4) [some P, some (.str t), none, none, none]) (g := fun x => if isNE x then some x else none) (S := []) (xs := (splitD 32 [] t).map .str) (k := 0) (fun u hu => by
      obtain ⟨w, _, rfl⟩ := List.mem_map.mp hu
      exact el_fl (t := isNE (.str w)) (by cases w <;> simp (disch := (first | decide | assumption | (simp only [List.length_append, List.length_cons, List.length_nil, List.length_map] <;> omega) | omega)) [wipeE, isNE]) fun _ => by simp (disch := (first | decide | assumption | (simp only [List.length_append, List.length_cons, List.length_nil, List.length_map] <;> omega) | omega)) [wipeE]) (by have := split_len 32 t []; simp; omega)
    rw [h, fm_NE]
    rw [← hz]; rfl
  generalize hB : (IS.seq (.ite (.cmp .notIn (.var 4) (.bin .add (.idx (.var 0) (.lit (.int 0))) (.idx (.var 0) (.lit (.int 1)))))
    (.seq (.rse 1 2 (.cons (.var 3) (.cons (.lit (.str [110, 97, 109, 101])) .nil))) .skip) .skip) .skip) = B
  have lp := forL_first (f := patB (.tp [3, 4]) fun σ' => exS ⟨callF fs fuel (l + 2), fuel, l + 2⟩ B σ') (S := []) (fun σ => ∃ v3 v4, σ = [some P, some (.str t), some (.tup (zs.map .str)), v3, v4]) (pK ws gs zs) (fun i o => ∃ δ, o = .xc 1 [.int i, sName] δ) (fun i o h => .inr (by obtain ⟨δ, h⟩ := h; exact ⟨_, _, δ, h⟩)) (xs := enumD 0 (zs.map .str)) (k := 0) (σ := [some P, some (.str t), some (.tup (zs.map .str)), none, none])
    (fun i u σ hu ⟨v3, v4, e⟩ => by
      rw [enum_at] at hu
      have hi : i < zs.length := by
        by_cases z : i < zs.length
        · exact z
        · rw [List.getElem?_eq_none (by simp; omega)] at hu; cases hu
      have ek : (zs.map D.str)[i]? = some (.str zs[i]) := by rw [List.getElem?_map, List.getElem?_eq_getElem hi]; rfl
      rw [ek] at hu
      cases hu
      subst e hB
      have pk : pK ws gs zs (0 + i) = decide (zs[i] ∈ ws ++ gs) := by
        unfold pK
        rw [Nat.zero_add, List.getElem?_eq_getElem hi]
      rw [pk]
      generalize zs[i] = w
      refine ⟨fun h => ?_, fun h => ?_⟩
      · simp (disch := (first | decide | assumption | (simp only [List.length_append, List.length_cons, List.length_nil, List.length_map] <;> omega) | omega)) [-List.mem_append, -List.map_append, p0, p1, ad, ni_tup, h]
      · simp (disch := (first | decide | assumption | (simp only [List.length_append, List.length_cons, List.length_nil, List.length_map] <;> omega) | omega)) [-List.mem_append, -List.map_append, p0, p1, ad, ni_tup, h, sName]) ⟨none, none, rfl⟩
  rw [enum_len, List.length_map] at lp
  rcases lp with ⟨h1, σ', e, v3, v4, rfl⟩ | ⟨i, h1, h2, h3, o, e, δ, rfl⟩
  · have h1 : ∀ i, i < zs.length → pK ws gs zs i = true := fun i hi => by
      have := h1 i hi
      rwa [Nat.zero_add] at this
    cases q : typeB ws gs (.tup (zs.map .str)) with
    | true =>
      rw [q] at du
      rw [call_freeE (d := .tup (zs.map .str)) (S' := []) rfl tp (frees_strs zs) (by simp (disch := (first | decide | assumption | (simp only [List.length_append, List.length_cons, List.length_nil, List.length_map] <;> omega) | omega)) [-x_comp, x_comp2, f_read_type, hB, es, recvOk, srcD, ec, enumV, e, du])]
      exact .told h1 q
    | false =>
      rw [q] at du
      rw [call_freeX (c := 1) (as := [.int (-1), sShape]) (S' := []) (σ := [some P, some (.str t), some (.tup (zs.map .str)), v3, v4]) rfl tp rfl (by simp (disch := (first | decide | assumption | (simp only [List.length_append, List.length_cons, List.length_nil, List.length_map] <;> omega) | omega)) [-x_comp, x_comp2, f_read_type, hB, es, recvOk, srcD, ec, enumV, e, du, sShape])]
      exact .shape h1 q
  · rw [Nat.zero_add] at *
    rw [call_freeX (c := 1) (as := [.int i, sName]) (S' := []) (σ := δ) rfl tp rfl (by simp (disch := (first | decide | assumption | (simp only [List.length_append, List.length_cons, List.length_nil, List.length_map] <;> omega) | omega)) [-x_comp, x_comp2, f_read_type, hB, es, recvOk, srcD, ec, enumV, e])]
    exact .bad h1 h2 fun j hj => by have := h3 j hj; rwa [Nat.zero_add] at this
theorem told (hx : D.free x = true) (hy : D.free y = true) (lw : ws.length ≤ 6) (lg : gs.length ≤ 4) {t : List Nat} {zs : List (List Nat)} (hz : FW [] t = zs) (ht : t.length ≤ 90000) (S : Store) : ∃ d, callF fs fuel (l + 4) 23 [prog ws gs x y, .str t] S = .ok d S ∧ Out ws gs zs d := by
  have r := fun S => read_type (fuel := fuel) (l := l) hx hy lw lg hz ht S
  have tp : D.tops [prog ws gs x y, .str t] = 0 := tops_free (by simp [D.frees, D.free, prog_free hx hy])
  rw [callF_succ (show fs[23]? = some f_law_told from rfl) rfl]
  generalize prog ws gs x y = P at *
  have key : ∃ d, exS ⟨callF fs fuel (l + 3), fuel, l + 3⟩ f_law_told.body [some P, some (.str t), none] [] = .ok (.rt d) [] ∧ Out ws gs zs d ∧ D.free d = true := by
    have r0 := r []
    generalize hR : callF fs fuel (l + 3) 4 [P, .str t] [] = R at r0
    cases r0 with
    | @bad i hi h hj =>
      refine ⟨_, ?_, .bad hi h hj, rfl⟩
      have e : exS ⟨callF fs fuel (l + 3), fuel, l + 3⟩ (.seq (.ret (.tup (.cons (.lit (.str [116, 111, 108, 100])) (.cons (.call 4 (.cons (.var 0) (.cons (.var 1) .nil))) .nil)))) .skip) [some P, some (.str t), none] [] = .ok (.xc 1 [.int i, sName] [some P, some (.str t), none]) [] := by simp (disch := (first | decide | assumption | (simp only [List.length_append, List.length_cons, List.length_nil, List.length_map] <;> omega) | omega)) [hR]
      simp (disch := (first | decide | assumption | (simp only [List.length_append, List.length_cons, List.length_nil, List.length_map] <;> omega) | omega)) [f_law_told, x_try_xc e, hdS, evH, evHs, sRaised]
    | shape h q =>
      refine ⟨_, ?_, .shape h q, rfl⟩
      have e : exS ⟨callF fs fuel (l + 3), fuel, l + 3⟩ (.seq (.ret (.tup (.cons (.lit (.str [116, 111, 108, 100])) (.cons (.call 4 (.cons (.var 0) (.cons (.var 1) .nil))) .nil)))) .skip) [some P, some (.str t), none] [] = .ok (.xc 1 [.int (-1), sShape] [some P, some (.str t), none]) [] := by simp (disch := (first | decide | assumption | (simp only [List.length_append, List.length_cons, List.length_nil, List.length_map] <;> omega) | omega)) [hR]
      simp (disch := (first | decide | assumption | (simp only [List.length_append, List.length_cons, List.length_nil, List.length_map] <;> omega) | omega)) [f_law_told, x_try_xc e, hdS, evH, evHs, sRaised]
    | told h q =>
      refine ⟨_, ?_, .told h q, by show D.frees [sTold, .tup (zs.map .str)] = true; simp [D.frees, D.free, frees_strs, sTold]⟩
      have e : exS ⟨callF fs fuel (l + 3), fuel, l + 3⟩ (.seq (.ret (.tup (.cons (.lit (.str [116, 111, 108, 100])) (.cons (.call 4 (.cons (.var 0) (.cons (.var 1) .nil))) .nil)))) .skip) [some P, some (.str t), none] [] = .ok (.rt (.tup [sTold, .tup (zs.map .str)])) [] := by simp (disch := (first | decide | assumption | (simp only [List.length_append, List.length_cons, List.length_nil, List.length_map] <;> omega) | omega)) [hR, sTold]
      simp (disch := (first | decide | assumption | (simp only [List.length_append, List.length_cons, List.length_nil, List.length_map] <;> omega) | omega)) [f_law_told, x_try_ok e (by intro _ _ _ h; cases h)]
  obtain ⟨d, e, h, hf⟩ := key
  exact ⟨d, call_freeE rfl tp hf e, h⟩
end Lw
set_option linter.all false
set_option maxRecDepth 100000
set_option maxHeartbeats 8000000
/-! K2o: alike, fitting. -/
namespace Lw
open Fb
variable {K : Cell} [KOk K] {fuel l : Nat} {ws gs : List (List Nat)} {x y : D} {S : Store}
theorem alike_str {a : List Nat} {S : Store} : callF fs fuel (l + 1) 25 [.str a, .str a] S = .ok (.bl true) S := by
  rw [callF_succ (show fs[25]? = some f_law_alike from rfl) rfl]
  refine call_freeE (S' := []) rfl rfl rfl ?_
  simp (disch := (first | decide | assumption | (simp only [List.length_append, List.length_cons, List.length_nil, List.length_map] <;> omega) | omega)) [f_law_alike, D.isTy]
theorem alike_int {a : Int} {S : Store} : callF fs fuel (l + 1) 25 [.int a, .int a] S = .ok (.bl true) S := by
  rw [callF_succ (show fs[25]? = some f_law_alike from rfl) rfl]
  refine call_freeE (S' := []) rfl rfl rfl ?_
  simp (disch := (first | decide | assumption | (simp only [List.length_append, List.length_cons, List.length_nil, List.length_map] <;> omega) | omega)) [f_law_alike, D.isTy]
theorem alike_tup {xs : List D} {S : Store} (hf : D.frees xs = true) (hl : xs.length ≤ 100000) (h : ∀ z ∈ xs, ∀ S, callF fs fuel l 25 [z, z] S = .ok (.bl true) S) : callF fs fuel (l + 1) 25 [.tup xs, .tup xs] S = .ok (.bl true) S := by
  rw [callF_succ (show fs[25]? = some f_law_alike from rfl) rfl]
  refine call_freeE (S' := []) rfl (tops_free (by simp [D.frees, D.free, hf])) rfl ?_
  have e3 : ∀ (S : Store), rngM (.int (xs.length : Int)) S = .ok (.xs (rngD 0 xs.length)) S := fun S => rngM_nat (by omega)
  have ec : compM (elG ⟨callF fs fuel l, fuel, l⟩ [2] (.nm 2) .nil (.call 25 (.cons (.idx (.var 0) (.var 2)) (.cons (.idx (.var 1) (.var 2)) .nil))) [some (.tup xs), some (.tup xs), none]) (rngD 0 xs.length) 0 [] = .ok (((List.range xs.length).map fun _ => true).map .bl) [] := by
    refine compM_all ?_ (by rw [rng_len]; omega)
    unfold rngD
    rw [List.map_map]
    refine all2_map fun i hi S => ?_
    have hi := List.mem_range.mp hi
    have ek := h _ (List.getElem_mem hi)
    have q0 : (0 : Int) ≤ (i : Int) := by omega
    rw [Int.zero_add]
    refine el_nm ?_
    simp (disch := (first | decide | assumption | (simp only [List.length_append, List.length_cons, List.length_nil, List.length_map] <;> omega) | omega)) [wipeE, ek]
  have ea : ∀ S : Store, bltD S .all [.lst (((List.range xs.length).map fun _ => true).map .bl)] = some (.bl true) := fun S => by
    rw [b_all]; simp
  simp (disch := (first | decide | assumption | (simp only [List.length_append, List.length_cons, List.length_nil, List.length_map] <;> omega) | omega)) [-x_comp, -List.map_map, -List.map_const, x_comp2, f_law_alike, D.isTy, e3, ec, ea]
theorem alike_out {zs : List (List Nat)} {d : D} (h : Out ws gs zs d) (hl : zs.length ≤ 1000) {S : Store} : callF fs fuel (l + 3) 25 [d, d] S = .ok (.bl true) S := by
  cases h with
  | bad =>
    refine alike_tup rfl (by simp) fun z hz S => ?_
    rcases List.mem_cons.mp hz with rfl | hz
    · exact alike_str
    · rw [List.mem_singleton.mp hz]
      refine alike_tup rfl (by simp) fun z hz S => ?_
      rcases List.mem_cons.mp hz with rfl | hz
      · exact alike_int
      · rw [List.mem_singleton.mp hz]; exact alike_str
  | shape =>
    refine alike_tup rfl (by simp) fun z hz S => ?_
    rcases List.mem_cons.mp hz with rfl | hz
    · exact alike_str
    · rw [List.mem_singleton.mp hz]
      refine alike_tup rfl (by simp) fun z hz S => ?_
      rcases List.mem_cons.mp hz with rfl | hz
      · exact alike_int
      · rw [List.mem_singleton.mp hz]; exact alike_str
  | told =>
    refine alike_tup (by simp [D.frees, D.free, frees_strs, sTold]) (by simp) fun z hz S => ?_
    rcases List.mem_cons.mp hz with rfl | hz
    · exact alike_str
    · rw [List.mem_singleton.mp hz]
      refine alike_tup (frees_strs zs) (by simp; omega) fun z hz S => ?_
      obtain ⟨w, _, rfl⟩ := List.mem_map.mp hz
      exact alike_str
/-- a part of these words -/
theorem fitting {zs : List (List Nat)} (hz : ∀ w ∈ zs, Rw w) (hl : zs.length ≤ 200) (S : Store) : ∃ zs' : List (List Nat), callF fs fuel (l + 1) 22 [.lst (zs.map .str)] S = .ok (.lst (zs'.map .str)) S ∧ (∀ w ∈ zs', w ∈ zs) ∧ zs'.length ≤ zs.length := by
  have key : ∃ zs' : List (List Nat), exS ⟨callF fs fuel l, fuel, l⟩ f_law_fitting.body [some (.lst (zs.map .str)), none] [] = .ok (.rt (.lst (zs'.map .str))) [] ∧ (∀ w ∈ zs', w ∈ zs) ∧ zs'.length ≤ zs.length := by
    have e3 : ∀ (S : Store), rngM (.int (zs.length : Int)) S = .ok (.xs (rngD 0 zs.length)) S := fun S => rngM_nat (by omega)
    generalize hB : (IS.seq (.ite (.cmp .le (.blt .len (.cons (.mth .join (.lit (.str [32])) (.cons (.sli (.var 0) (.cons (.var 1) .nil) .nil) .nil)) .nil)) (.lit (.int 400))) (.seq (.ret (.sli (.var 0) (.cons (.var 1) .nil) .nil)) .skip) .skip) .skip) = B
    have lp := forL_rx (f := patB (.nm 1) fun σ' => exS ⟨callF fs fuel l, fuel, l⟩ B σ') (fun j σ S => (∃ v, σ = [some (.lst (zs.map .str)), v]) ∧ S = []) (fun d S => (∃ lo, d = .lst ((cutL zs lo none).map .str)) ∧ S = []) (xs := rngD 0 zs.length) (j := 0) (σ := [some (.lst (zs.map .str)), none]) (S := [])
      (fun i u σ S hu ⟨⟨v, e1⟩, e2⟩ => by
        obtain ⟨rfl, hi⟩ := rng_at hu
        subst e1 e2 hB
        have ej : ∀ S : Store, mthD S .join (.str [32]) [.lst ((cutL zs (some (i : Int)) none).map .str)] = some (.str (joinD [32] (cutL zs (some (i : Int)) none)), S) := fun S => by
          refine join_seq _ rfl rfl ?_
          have := sum_le (zs := cutL zs (some (i : Int)) none) (b := 20) fun w h => (hz w (mem_cutL h)).2.1
          have := cutL_len zs (some (i : Int)) none
          simp only [List.length_cons, List.length_nil]
          omega
        have jl : (joinD [32] (cutL zs (some (i : Int)) none)).length ≤ 100000 := by
          have h1 := join_len [32] (cutL zs (some (i : Int)) none)
          have h2 := sum_le (zs := cutL zs (some (i : Int)) none) (b := 20) fun w h => (hz w (mem_cutL h)).2.1
          have := cutL_len zs (some (i : Int)) none
          simp only [List.length_cons, List.length_nil] at h1
          omega
        generalize joinD [32] (cutL zs (some (i : Int)) none) = J at ej jl
        by_cases h4 : J.length ≤ 400
        · refine .inr ⟨.lst ((cutL zs (some (i : Int)) none).map .str), [], ?_, ⟨_, rfl⟩, rfl⟩
          have q : ((J.length : Int) ≤ 400) = True := eq_true (by omega)
          simp (disch := (first | decide | assumption | (simp only [List.length_append, List.length_cons, List.length_nil, List.length_map] <;> omega) | omega)) [cut_lst, cutL_map, ej, recvOk, q]
        · refine .inl ⟨[some (.lst (zs.map .str)), some (.int i)], [], ?_, ⟨_, rfl⟩, rfl⟩
          have q : ((J.length : Int) ≤ 400) = False := eq_false (by omega)
          simp (disch := (first | decide | assumption | (simp only [List.length_append, List.length_cons, List.length_nil, List.length_map] <;> omega) | omega)) [cut_lst, cutL_map, ej, recvOk, q]) ⟨⟨none, rfl⟩, rfl⟩
    rcases lp with ⟨σ', S', e, ⟨v, rfl⟩, rfl⟩ | ⟨d, S', e, ⟨lo, rfl⟩, rfl⟩
    · refine ⟨cutL zs (some (-1)) none, ?_, fun w h => mem_cutL h, cutL_len _ _ _⟩
      simp (disch := (first | decide | assumption | (simp only [List.length_append, List.length_cons, List.length_nil, List.length_map] <;> omega) | omega)) [f_law_fitting, hB, e3, e, cut_lst, cutL_map]
    · refine ⟨cutL zs lo none, ?_, fun w h => mem_cutL h, cutL_len _ _ _⟩
      simp (disch := (first | decide | assumption | (simp only [List.length_append, List.length_cons, List.length_nil, List.length_map] <;> omega) | omega)) [f_law_fitting, hB, e3, e]
  obtain ⟨zs', e, h1, h2⟩ := key
  refine ⟨zs', ?_, h1, h2⟩
  rw [callF_succ (show fs[22]? = some f_law_fitting from rfl) rfl]
  exact call_freeE rfl (tops_free (by simp [D.frees, D.free, frees_strs])) (frees_strs zs') e
end Lw
set_option linter.all false
set_option maxRecDepth 100000
set_option maxHeartbeats 8000000
/-! K2p: reading right. -/
namespace Lw
open Fb
variable {K : Cell} [KOk K] {fuel l : Nat} {ws gs : List (List Nat)} {x y : D} {S : Store}
theorem read_right (hx : D.free x = true) (hy : D.free y = true) (lw : ws.length ≤ 6) (lg : gs.length ≤ 4) {zs : List (List Nat)} (hz : ∀ w ∈ zs, Rw w) (hl : zs.length ≤ 200) : Dr K fuel (l + 5) 26 [prog ws gs x y, .lst (zs.map .str)] fun d => d = .bl true := by
  refine Dr.go0 (l := l + 4) (show fs[26]? = some f_law_read_right from rfl) rfl rfl (tops_free (by simp [D.frees, D.free, prog_free hx hy, frees_strs])) fun c b => ?_
  obtain ⟨zs', e1, h1, h2⟩ := fitting (fuel := fuel) (l := l + 3) hz hl [K, c]
  obtain ⟨d2, c2, e2, b2, t, rfl, tl, ft⟩ := spaced (K := K) (fuel := fuel) (l := l + 1) (zs := zs') (fun w h => hz w (h1 w h)) (by omega) c [] b
  obtain ⟨d3, e3, o3⟩ := told (fuel := fuel) (l := l) (ws := ws) (gs := gs) hx hy lw lg ft tl [K, c2]
  obtain ⟨d4, e4, o4, _⟩ := read_due (fuel := fuel) (l := l + 1) (ws := ws) (gs := gs) hx hy lw lg (zs := zs') (by omega) [K, c2]
  have : d3 = d4 := o3.one o4
  subst this
  have e5 : callF fs fuel (l + 4) 25 [d3, d3] [K, c2] = .ok (.bl true) [K, c2] := alike_out (l := l + 1) o3 (by omega)
  simp (disch := (first | decide | assumption | (simp only [List.length_append, List.length_cons, List.length_nil, List.length_map] <;> omega) | omega)) [f_law_read_right, e1, e2, e3, e4, e5]
  exact ⟨_, _, _, ⟨rfl, rfl, rfl⟩, b2, rfl, rfl⟩
theorem Nm.no32 {w : List Nat} (h : Nm w) : 32 ∉ w := fun z => by
  have := isL_iff.mp (h.2.2.1 32 z)
  omega
theorem Nm.rw_ {w : List Nat} (h : Nm w) : Rw w := ⟨h.1, by have := h.2.1; omega, h.no32⟩
def OW (z : D) : Prop := ∃ w, z = .str w ∧ Rw w
theorem ow_app {p : D} {r : List D} (h : OW p) (hr : ∀ y ∈ r, OW y) : ∀ y ∈ p :: r, OW y := List.forall_mem_cons.mpr ⟨h, hr⟩
theorem ow {w : List Nat} (h1 : 1 ≤ w.length) (h2 : w.length ≤ 20) (h3 : 32 ∉ w) : OW (.str w) := ⟨w, rfl, h1, h2, h3⟩
theorem odd_word (hx : D.free x = true) (hy : D.free y = true) (lw : ws.length ≤ 6) (lg1 : 1 ≤ gs.length) (lg : gs.length ≤ 4) (hw : ∀ w ∈ ws, Nm w) (hg : ∀ g ∈ gs, Nm g) : Dr K fuel (l + 4) 27 [prog ws gs x y] OW := by
  refine Dr.go0 (l := l + 3) (show fs[27]? = some f_law_odd_word from rfl) rfl rfl (tops_free (by simp [D.frees, D.free, prog_free hx hy])) fun c b => ?_
  have hall : ∀ w ∈ ws ++ gs, Nm w := fun w h => (List.mem_append.mp h).elim (hw w) (hg w)
  have hlen : (ws ++ gs).length = ws.length + gs.length := by simp
  obtain ⟨d1, c1, e1, b1, f, rfl, hf, _⟩ := fresh (K := K) (fuel := fuel) (l := l) (place := 13) (by omega) (by omega) (ts := ws ++ gs) (by omega) (fun t ht => (hall t ht).wd) c [] b
  obtain ⟨d2, c2, e2, b2, i, rfl, hi⟩ := take (K := K) (fuel := fuel) (l := l + 2) (many := ((ws ++ gs).length : Int)) (by omega) c1 [] b1
  obtain ⟨d3, c3, e3, b3, j, rfl, hj⟩ := take (K := K) (fuel := fuel) (l := l + 2) (many := 12) (by omega) c2 [] b2
  have hi2 : i < (ws ++ gs).length := by omega
  have ho := hall _ (List.getElem_mem hi2)
  have ek : ((ws ++ gs).map D.str)[i]? = some (.str (ws ++ gs)[i]) := by rw [List.getElem?_map, List.getElem?_eq_getElem hi2]; rfl
  rw [List.map_append] at e1 ek
  have ek := get_in ek
  generalize (ws ++ gs)[i] = w at ek ho
  rw [show ((ws ++ gs).length : Int) = (ws.length : Int) + (gs.length : Int) by omega] at e2
  have w1 := ho.1
  have w2 := ho.2.1
  have w3 := ho.no32
  have f1 := hf.1
  have f2 := hf.2.1
  have f3 := hf.no32
  have u1 : ∀ S : Store, mthD S .upper (.str w) [] = some (.str (w.map upC), S) := fun S => m_upper (by omega) fun c hc => by have := isL_iff.mp (ho.2.2.1 c hc); omega
  have u3 : 32 ∉ w.map upC := fun z => by
    obtain ⟨c, hc, e⟩ := List.mem_map.mp z
    have := isL_iff.mp (ho.2.2.1 c hc)
    unfold upC at e
    rw [if_pos this] at e
    omega
  have q0 : (0 : Int) ≤ (i : Int) := by omega
  have q1 : (0 : Int) ≤ (j : Int) := by omega
  have p0 : ∀ S : Store, idxM (prog ws gs x y) (.int 0) S = .ok (.tup (ws.map .str)) S := fun S => rfl
  have p1 : ∀ S : Store, idxM (prog ws gs x y) (.int 1) S = .ok (.tup (gs.map .str)) S := fun S => rfl
  have fin : ∀ (L : List D) (hj : j < L.length), (∀ z ∈ L, OW z) → ∃ d c' S', (L[j] = d ∧ c3 = c' ∧ S' = []) ∧ Hold (fun d c' _ => Box c' ∧ D.free d = true ∧ OW d) d c' S' := fun L hj hL => by
    have h := hL _ (List.getElem_mem hj)
    refine ⟨_, _, _, ⟨rfl, rfl, rfl⟩, b3, ?_, h⟩
    obtain ⟨w, e, _⟩ := h
    rw [e]; rfl
  simp (disch := (first | decide | assumption | (simp only [List.length_append, List.length_cons, List.length_nil, List.length_map] <;> omega) | omega)) [f_law_odd_word, p0, p1, e1, e2, e3, ek, u1, recvOk]
  refine fin _ (by simp; omega) (ow_app (ow ?_ ?_ ?_) (ow_app (ow ?_ ?_ ?_) (ow_app (ow ?_ ?_ ?_) (ow_app (ow ?_ ?_ ?_) (ow_app (ow ?_ ?_ ?_) (ow_app (ow ?_ ?_ ?_) (ow_app (ow ?_ ?_ ?_) (ow_app (ow ?_ ?_ ?_) (ow_app (ow ?_ ?_ ?_) (ow_app (ow ?_ ?_ ?_) (ow_app (ow ?_ ?_ ?_) (ow_app (ow ?_ ?_ ?_) (List.forall_mem_nil _)))))))))))))
  all_goals first
    | exact f3
    | exact u3
    | ((try simp only [List.length_append, List.length_cons, List.length_map, List.length_nil]); omega)
    | (simp only [List.mem_append, List.mem_cons, List.not_mem_nil, or_false, not_or]; first | exact ⟨w3, by decide, w3⟩ | exact ⟨by decide, w3⟩ | exact ⟨w3, by decide⟩ | decide)
end Lw
set_option linter.all false
set_option maxRecDepth 100000
set_option maxHeartbeats 16000000
/-! K2q: all readings right. -/
namespace Lw
open Fb
variable {K : Cell} [KOk K] {fuel l : Nat} {ws gs : List (List Nat)} {x y : D} {S : Store}
def WL (k : Nat) (xs : List D) : Prop := ∃ zs : List (List Nat), xs = zs.map .str ∧ (∀ w ∈ zs, Rw w) ∧ zs.length ≤ k
theorem wl_nil : WL 0 [] := ⟨[], rfl, fun _ h => (nomatch h), Nat.le_refl _⟩
theorem wl_cons {k : Nat} {z : D} {xs : List D} (h : OW z) (r : WL k xs) : WL (k + 1) (z :: xs) := by
  obtain ⟨w, rfl, hw⟩ := h
  obtain ⟨zs, rfl, h1, h2⟩ := r
  refine ⟨w :: zs, rfl, fun v hv => ?_, by simp; exact h2⟩
  rcases List.mem_cons.mp hv with rfl | hv
  · exact hw
  · exact h1 v hv
theorem wl_app {k j : Nat} {xs ys : List D} (h : WL k xs) (r : WL j ys) : WL (k + j) (xs ++ ys) := by
  obtain ⟨zs, rfl, h1, h2⟩ := h
  obtain ⟨us, rfl, h3, h4⟩ := r
  exact ⟨zs ++ us, by simp, fun v hv => (List.mem_append.mp hv).elim (h1 v) (h3 v), by simp; omega⟩
theorem wl_cut {k : Nat} {xs : List D} {lo hi : Option Int} (h : WL k xs) : WL k (cutL xs lo hi) := by
  obtain ⟨zs, rfl, h1, h2⟩ := h
  exact ⟨cutL zs lo hi, cutL_map, fun v hv => h1 v (mem_cutL hv), Nat.le_trans (cutL_len _ _ _) h2⟩
theorem wl_rev {k : Nat} {xs : List D} (h : WL k xs) : WL k xs.reverse := by
  obtain ⟨zs, rfl, h1, h2⟩ := h
  exact ⟨zs.reverse, by simp, fun v hv => h1 v (List.mem_reverse.mp hv), by simpa using h2⟩
theorem wl_rep {k : Nat} {z : D} (h : OW z) : WL k (List.replicate k z) := by
  obtain ⟨w, rfl, hw⟩ := h
  exact ⟨List.replicate k w, by simp, fun v hv => by rw [List.eq_of_mem_replicate hv]; exact hw, by simp⟩
def Row (d : D) : Prop := ∃ xs, d = .lst xs ∧ WL 200 xs
theorem row {k : Nat} {xs : List D} (h : WL k xs) (hk : k ≤ 200) : Row (.lst xs) := by
  obtain ⟨zs, e, h1, h2⟩ := h
  exact ⟨xs, rfl, zs, e, h1, by omega⟩
theorem row_app {p : D} {r : List D} (h : Row p) (hr : ∀ y ∈ r, Row y) : ∀ y ∈ p :: r, Row y := List.forall_mem_cons.mpr ⟨h, hr⟩
theorem read_row (hx : D.free x = true) (hy : D.free y = true) (lw : ws.length ≤ 6) (lg : gs.length ≤ 4) {d : D} (h : Row d) : Dr K fuel (l + 5) 26 [prog ws gs x y, d] fun d => d = .bl true := by
  obtain ⟨xs, rfl, zs, rfl, h1, h2⟩ := h
  exact read_right hx hy lw lg h1 h2
theorem srt_lst {zs : List (List Nat)} (h : ∀ z ∈ zs, z.length ≤ 1000) (S : Store) : srtD S (.lst (zs.map .str)) = some (.lst ((sortBy List.length zs).map .str)) := by
  have e : zs.all (fun z => decide (z.length ≤ SL)) = true := List.all_eq_true.mpr fun z hz => decide_eq_true (by have := h z hz; show z.length ≤ 16777216; omega)
  show (match strsOf (zs.map D.str) with
    | some ss => if ss.all (fun z => decide (z.length ≤ SL)) = true then some (D.lst ((sortBy List.length ss).map .str)) else none
    | none => none) = _
  rw [strs_map]
  exact if_pos e
theorem insBy_mem {α : Type} {k : α → Nat} {x z : α} : ∀ {l : List α}, z ∈ insBy k x l → z = x ∨ z ∈ l
  | [], h => by simpa [insBy] using h
  | y :: r, h => by
    unfold insBy at h
    split at h
    · simpa using h
    · rcases List.mem_cons.mp h with rfl | h
      · exact .inr List.mem_cons_self
      · rcases insBy_mem h with h | h
        · exact .inl h
        · exact .inr (List.mem_cons_of_mem _ h)
theorem sortBy_mem {α : Type} {k : α → Nat} {z : α} : ∀ {l : List α}, z ∈ sortBy k l → z ∈ l
  | [], h => h
  | x :: r, h => by
    rcases insBy_mem (show z ∈ insBy k x (sortBy k r) from h) with rfl | h
    · exact List.mem_cons_self
    · exact List.mem_cons_of_mem _ (sortBy_mem h)
theorem insBy_len {α : Type} {k : α → Nat} {x : α} : ∀ {l : List α}, (insBy k x l).length = l.length + 1
  | [] => rfl
  | y :: r => by
    unfold insBy
    split
    · rfl
    · simp [insBy_len (l := r)]
theorem sortBy_len {α : Type} {k : α → Nat} : ∀ {l : List α}, (sortBy k l).length = l.length
  | [] => rfl
  | x :: r => by
    show (insBy k x (sortBy k r)).length = _
    rw [insBy_len, sortBy_len]; rfl
theorem rev_lst {S : Store} {xs : List D} : revD S (.lst xs) = some (.lst xs.reverse) := (rfl)
theorem idx460 {i : Nat} (S : Store) : ∃ m : Int, idxM (.tup [.int 4, .int 60]) (.int ((i : Int) % 2)) S = .ok (.int m) S ∧ 0 < m ∧ m ≤ 60 := by
  have : (i : Int) % 2 = 0 ∨ (i : Int) % 2 = 1 := by omega
  rcases this with h | h <;> rw [h]
  · exact ⟨4, rfl, by omega, by omega⟩
  · exact ⟨60, rfl, by omega, by omega⟩
def InvR (K : Cell) (P sh W G : D) (_ : Nat) (σ : Ev) (S : Store) : Prop := ∃ (v3 v6 v7 v8 v9 v10 : Option D) (c : Cell), σ = [some (.cell 1), some P, some sh, v3, some W, some G, v6, v7, v8, v9, v10] ∧ S = [K, c] ∧ Box c
theorem reading_right {d : D} (hp : Pg d) : Dr K fuel (l + 6) 28 [d] fun d => d = .bl true := by
  obtain ⟨ws, gs, x, y, rfl, hx, hy, l1, l2, l3, hw, hg⟩ := hp
  refine Dr.go0 (l := l + 5) (show fs[28]? = some f_law_reading_right from rfl) rfl rfl (tops_free (by simp [D.frees, prog_free hx hy])) fun c b => ?_
  have rr := fun (d : D) (h : Row d) => read_row (K := K) (fuel := fuel) (l := l) (ws := ws) (gs := gs) hx hy l1 l3 h
  have od := odd_word (K := K) (fuel := fuel) (l := l + 1) (ws := ws) (gs := gs) hx hy l1 l2 l3 hw fun g h => (hg g h).1
  have dr := fun (m : Int) (h1 : 0 < m) (h2 : m ≤ 60) => drawn (K := K) (fuel := fuel) (l := l + 2) (ws := ws) (gs := gs) (x := x) (y := y) h1 h2 hx hy l1 l2 l3
  have p0 : ∀ S : Store, idxM (prog ws gs x y) (.int 0) S = .ok (.tup (ws.map .str)) S := fun S => rfl
  have p1 : ∀ S : Store, idxM (prog ws gs x y) (.int 1) S = .ok (.tup (gs.map .str)) S := fun S => rfl
  have wW : WL 6 (ws.map .str) := ⟨ws, rfl, fun w h => (hw w h).rw_, l1⟩
  have wG : WL 4 (gs.map .str) := ⟨gs, rfl, fun g h => (hg g h).1.rw_, l3⟩
  have sr : ∃ (sh : List Nat) (L : List D), Rw sh ∧ (∀ S : Store, srtD S (.lst (ws.map .str ++ cutL (gs.map .str) none (some 1))) = some (.lst L)) ∧ ∀ S : Store, idxM (.lst L) (.int 0) S = .ok (.str sh) S := by
    have hall : ∀ w ∈ ws ++ cutL gs none (some 1), Rw w := fun w h => (List.mem_append.mp h).elim (fun h => (hw w h).rw_) fun h => (hg w (mem_cutL h)).1.rw_
    have hlen : 0 < (ws ++ cutL gs none (some 1)).length := by
      rw [List.length_append, cutL_length]
      simp [cut1]
      omega
    rw [cutL_map, ← List.map_append]
    cases e : sortBy List.length (ws ++ cutL gs none (some 1)) with
    | nil =>
      have := sortBy_len (k := List.length) (l := ws ++ cutL gs none (some 1))
      rw [e] at this
      simp at this hlen
      omega
    | cons sh r =>
      refine ⟨sh, _, hall sh (sortBy_mem (k := List.length) (by rw [e]; exact List.mem_cons_self)), fun S => srt_lst (fun z hz => by have := (hall z hz).2.1; omega) S, fun S => ?_⟩
      rw [e]; rfl
  obtain ⟨sh, L, hsh, sr1, sr2⟩ := sr
  have osh : OW (.str sh) := ⟨sh, rfl, hsh⟩
  obtain ⟨P, hP⟩ : ∃ P, P = prog ws gs x y := ⟨_, rfl⟩
  obtain ⟨W, hW⟩ : ∃ W, W = ws.map D.str := ⟨_, rfl⟩
  obtain ⟨G, hG⟩ : ∃ G, G = gs.map D.str := ⟨_, rfl⟩
  rw [← hW] at p0 wW sr1
  rw [← hG] at p1 wG sr1
  rw [← hP] at rr od dr p0 p1
  show ∃ d c' S', exS ⟨callF fs fuel (l + 5), fuel, l + 5⟩ f_law_reading_right.body [some (.cell 1), some (prog ws gs x y), none, none, none, none, none, none, none, none, none] [K, c] = _ ∧ _
  rw [← hP]
  have wl : W.length ≤ 6 := by rw [hW]; simpa using l1
  have gl : G.length ≤ 4 := by rw [hG]; simpa using l3
  generalize hBt : (IS.seq (.ite (.not (.call 26 (.cons (.var 0) (.cons (.var 1) (.cons (.var 10) .nil))))) (.seq (.ret (.lit (.bl false))) .skip) .skip) .skip) = Bt
  generalize hT : (IS.seq (.for (.nm 10) (.cons (.var 9) .nil) Bt) .skip) = T
  have tail : ∀ (rows : List D) (v3 v6 v7 v8 v10 : Option D) (c : Cell), (∀ r ∈ rows, Row r) → Box c → ∀ j, ∃ σ' S', exS ⟨callF fs fuel (l + 5), fuel, l + 5⟩ T [some (.cell 1), some P, some (.str sh), v3, some (.lst W), some (.lst G), v6, v7, v8, some (.lst rows), v10] [K, c] = .ok (.nx σ') S' ∧ InvR K P (.str sh) (.lst W) (.lst G) j σ' S' := fun rows v3 v6 v7 v8 v10 c hr b j => by
    obtain ⟨σ1, S1, e, v, c1, rfl, rfl, b1⟩ := forL_ix (f := patB (.nm 10) fun σ' => exS ⟨callF fs fuel (l + 5), fuel, l + 5⟩ Bt σ') (fun j σ S => ∃ v c, σ = [some (.cell 1), some P, some (.str sh), v3, some (.lst W), some (.lst G), v6, v7, v8, some (.lst rows), v] ∧ S = [K, c] ∧ Box c) (xs := rows) (j := 0) (σ := [some (.cell 1), some P, some (.str sh), v3, some (.lst W), some (.lst G), v6, v7, v8, some (.lst rows), v10]) (S := [K, c])
      (fun i u σ S hu ⟨v, c, e1, e2, b⟩ => by
        subst e1 e2 hBt
        obtain ⟨d, c', e, b', rfl⟩ := rr u (hr u (List.mem_of_getElem? hu)) c [] b
        refine ⟨[some (.cell 1), some P, some (.str sh), v3, some (.lst W), some (.lst G), v6, v7, v8, some (.lst rows), some u], [K, c'], ?_, _, _, rfl, rfl, b'⟩
        simp (disch := (first | decide | assumption | (simp only [List.length_append, List.length_cons, List.length_nil, List.length_map] <;> omega) | omega)) [e]) ⟨_, _, rfl, rfl, b⟩
    refine ⟨_, _, ?_, v3, v6, v7, v8, some (.lst rows), v, c1, rfl, rfl, b1⟩
    subst hT
    simp (disch := (first | decide | assumption | (simp only [List.length_append, List.length_cons, List.length_nil, List.length_map] <;> omega) | omega)) [srcD, e]
  generalize hB : (IS.seq (.set 6 (.blt .list (.cons (.call 18 (.cons (.var 0) (.cons (.var 1) (.cons (.idx (.tup (.cons (.lit (.int 4)) (.cons (.lit (.int 60)) .nil))) (.bin .mod (.var 3) (.lit (.int 2)))) .nil)))) .nil)))
    (.seq (.set 7 (.call 6 (.cons (.var 0) (.cons (.bin .add (.blt .len (.cons (.var 6) .nil)) (.lit (.int 1))) .nil))))
    (.seq (.set 8 (.bin .add (.bin .add (.sli (.var 6) .nil (.cons (.var 7) .nil)) (.lst (.cons (.call 27 (.cons (.var 0) (.cons (.var 1) .nil))) .nil))) (.sli (.var 6) (.cons (.var 7) .nil) .nil)))
    (.seq (.set 9 (.lst (.cons (.var 6) (.cons (.var 8) (.cons (.bin .add (.var 8) (.lst (.cons (.call 27 (.cons (.var 0) (.cons (.var 1) .nil))) .nil))) (.cons (.sli (.var 6) .nil (.cons (.neg (.lit (.int 1))) .nil)) (.cons (.bin .add (.var 6) (.sli (.var 5) .nil (.cons (.lit (.int 1)) .nil))) (.cons (.bin .add (.sli (.var 5) (.cons (.neg (.lit (.int 1))) .nil) .nil) (.var 6)) (.cons (.rev (.var 6)) (.cons (.lst .nil) .nil))))))))))
    (.seq (.set 9 (.bin .add (.var 9) (.lst (.cons (.bin .add (.sli (.var 6) .nil (.cons (.var 7) .nil)) (.lst (.cons (.call 27 (.cons (.var 0) (.cons (.var 1) .nil))) .nil))) (.cons (.bin .add (.var 6) (.sli (.var 4) .nil (.cons (.lit (.int 1)) .nil))) (.cons (.bin .add (.sli (.var 6) (.cons (.neg (.lit (.int 4))) .nil) .nil) (.sli (.var 6) (.cons (.neg (.lit (.int 4))) .nil) .nil)) .nil))))))
    T))))) = B
  obtain ⟨σ1, S1, f1, v3, v6, v7, v8, v9, v10, c1, rfl, rfl, b1⟩ := forL_ix (f := patB (.nm 3) fun σ' => exS ⟨callF fs fuel (l + 5), fuel, l + 5⟩ B σ') (InvR K P (.str sh) (.lst W) (.lst G)) (xs := rngD 0 4) (j := 0) (σ := [some (.cell 1), some P, some (.str sh), none, some (.lst W), some (.lst G), none, none, none, none, none]) (S := [K, c])
    (fun i u σ S hu ⟨v3, v6, v7, v8, v9, v10, c, e1, e2, b⟩ => by
      obtain ⟨rfl, hi⟩ := rng_at hu
      subst e1 e2 hB
      obtain ⟨m, em, m1, m2⟩ := idx460 (i := i) [K, c]
      obtain ⟨d1, c1, e1, b1, init, z, rfl, hi1, hz1, hl⟩ := dr m m1 m2 c [] b
      have wN : WL 61 (init.map D.str ++ [.str z]) := by
        refine ⟨init ++ [z], by simp, fun w h => ?_, by simp; omega⟩
        rcases List.mem_append.mp h with h | h
        · exact (hw w (hi1 w h)).rw_
        · rw [List.mem_singleton.mp h]; exact (hg z hz1).1.rw_
      have nl : (init.map D.str ++ [D.str z]).length ≤ 61 := by simp; omega
      generalize init.map D.str ++ [D.str z] = N at e1 wN nl
      obtain ⟨d2, c2, e2, b2, at1, rfl, h2⟩ := take (K := K) (fuel := fuel) (l := l + 4) (many := (N.length : Int) + 1) (by omega) c1 [] b1
      obtain ⟨o1, c3, e3, b3, h3⟩ := od c2 [] b2
      obtain ⟨o2, c4, e4, b4, h4⟩ := od c3 [] b3
      obtain ⟨o3, c5, e5, b5, h5⟩ := od c4 [] b4
      have fin := fun rows hr => tail rows (some (.int i)) (some (.lst N)) (some (.int at1)) (some (.lst (cutL N none (some (at1 : Int)) ++ o1 :: cutL N (some (at1 : Int)) none))) v10 c5 hr b5 (i + 1)
      simp (disch := (first | decide | assumption | (simp only [List.length_append, List.length_cons, List.length_nil, List.length_map, cutL_length, List.length_replicate] <;> omega) | omega)) [em, e1, e2, e3, e4, e5, cut_lst, rev_lst]
      exact fin _ (row_app (row wN (by decide)) (row_app (row (wl_app (wl_cut wN) (wl_cons h3 (wl_cut wN))) (by decide)) (row_app (row (wl_app (wl_cut wN) (wl_cons h3 (wl_app (wl_cut wN) (wl_cons h4 wl_nil)))) (by decide)) (row_app (row (wl_cut wN) (by decide)) (row_app (row (wl_app wN (wl_cut wG)) (by decide)) (row_app (row (wl_app (wl_cut wG) wN) (by decide)) (row_app (row (wl_rev wN) (by decide)) (row_app (row wl_nil (by decide)) (row_app (row (wl_app (wl_cut wN) (wl_cons h5 wl_nil)) (by decide)) (row_app (row (wl_app wN (wl_cut wW)) (by decide)) (row_app (row (wl_app (wl_cut wN) (wl_cut wN)) (by decide)) (List.forall_mem_nil _))))))))))))) ⟨none, none, none, none, none, none, c, rfl, rfl, b⟩
  have sl := hsh.2.1
  have g1 : Row (.lst (cutL G none (some 1))) := row (wl_cut wG) (by decide)
  have x1 : ∃ R : List D, WL 60 R ∧ R.length = 60 ∧ ∀ S : Store, binM .mul (.lst [.str sh]) (.int 60) S = .ok (.lst R) S := ⟨List.replicate 60 (.str sh), wl_rep osh, List.length_replicate, fun S => o_mulL (by omega) (by omega)⟩
  have x2 : ∃ R : List D, WL 59 R ∧ R.length = 59 ∧ ∀ S : Store, binM .mul (.lst [.str sh]) (.int 59) S = .ok (.lst R) S := ⟨List.replicate 59 (.str sh), wl_rep osh, List.length_replicate, fun S => o_mulL (by omega) (by omega)⟩
  obtain ⟨R1, u1, v1, m1⟩ := x1
  obtain ⟨R2, u2, v2, m2⟩ := x2
  by_cases hs : sh.length < 6
  · obtain ⟨d2, c2, e2, b2, rfl⟩ := rr (.lst (R1 ++ cutL G none (some 1))) (row (wl_app u1 (wl_cut wG)) (by decide)) c1 [] b1
    obtain ⟨d3, c3, e3, b3, rfl⟩ := rr (.lst (R2 ++ cutL G none (some 1))) (row (wl_app u2 (wl_cut wG)) (by decide)) c2 [] b2
    obtain ⟨d4, c4, e4, b4, rfl⟩ := rr _ g1 c3 [] b3
    have q : ((sh.length : Int) < 6) = True := eq_true (by omega)
    simp (disch := (first | decide | assumption | (simp only [List.length_append, List.length_cons, List.length_nil, List.length_map, cutL_length, List.length_replicate] <;> omega) | omega)) [f_law_reading_right, p0, p1, sr1, sr2, hBt, hT, hB, f1, m1, m2, e2, e3, e4, q, cut_lst]
    exact ⟨_, _, _, ⟨rfl, rfl, rfl⟩, b4, rfl, rfl⟩
  · obtain ⟨d4, c4, e4, b4, rfl⟩ := rr _ g1 c1 [] b1
    have q : ((sh.length : Int) < 6) = False := eq_false (by omega)
    simp (disch := (first | decide | assumption | (simp only [List.length_append, List.length_cons, List.length_nil, List.length_map, cutL_length, List.length_replicate] <;> omega) | omega)) [f_law_reading_right, p0, p1, sr1, sr2, hBt, hT, hB, f1, e4, q, cut_lst]
    exact ⟨_, _, _, ⟨rfl, rfl, rfl⟩, b4, rfl, rfl⟩
end Lw
set_option linter.all false
set_option maxRecDepth 100000
set_option maxHeartbeats 16000000
/-! K2r: the law. -/
namespace Lw
open Fb
variable {fuel l : Nat}
theorem law_box {is : List Int} (hl : is.length ≤ 63) : ∃ K c, callF fs fuel (l + 1) 5 [.ro (is.map .int)] [] = .ok (.cell 1) [K, c] ∧ KOk K ∧ Box c := by
  rw [callF_succ (show fs[5]? = some f_law_box from rfl) rfl]
  generalize hB : (IS.seq (.ex (.mth .append (.var 1) (.cons (.bin .mod (.blt .int (.cons (.var 2) .nil)) (.lit (.int 998857))) .nil))) .skip) = B
  obtain ⟨σ1, S1, e1, cs, v, rfl, rfl, hi, hn⟩ := forL_ix (f := patB (.nm 2) fun σ' => exS ⟨callF fs fuel l, fuel, l⟩ B σ') (fun j σ S => ∃ (cs : List D) (v : Option D), σ = [some (.ro (is.map .int)), some (.cell 0), v] ∧ S = [.lst cs] ∧ (∀ x ∈ cs, ∃ z, x = .int z) ∧ cs.length = j + 1)
    (xs := cutL (is.map D.int) none (some 70)) (j := 0) (σ := [some (.ro (is.map .int)), some (.cell 0), none]) (S := [.lst [.int ((is.length : Int) % 83 + 11)]])
    (fun i x σ S hx ⟨cs, v, e1, e2, hi, hn⟩ => by
      have hm := mem_cutL (List.mem_of_getElem? hx)
      obtain ⟨n, hn1, rfl⟩ := List.mem_map.mp hm
      subst e1 e2 hB
      have hix : i < (cutL (is.map D.int) none (some 70)).length := (List.getElem?_eq_some_iff.mp hx).1
      have hcl := cutL_len (is.map D.int) none (some 70)
      rw [List.length_map] at hcl
      have em := m_app (S := [.lst cs]) (n := 0) (xs := cs) (y := .int (n % 998857)) rfl (by omega)
      refine ⟨[some (.ro (is.map .int)), some (.cell 0), some (.int n)], [.lst (cs ++ [.int (n % 998857)])], ?_, _, _, rfl, rfl, fun z hz => ?_, by simp; omega⟩
      · simp (disch := (first | decide | assumption | (simp only [List.length_append, List.length_cons, List.length_nil, List.length_map] <;> omega) | omega)) [em, recvOk]
      · rcases List.mem_append.mp hz with h | h
        · exact hi z h
        · exact ⟨_, List.mem_singleton.mp h⟩) ⟨_, _, rfl, rfl, (by simp), rfl⟩
  refine ⟨.lst cs, .lst [.int 3, .int 70001, .cell 0], ?_, ⟨cs, rfl, hi, fun z => by rw [z] at hn; simp at hn⟩, 3, 70001, rfl, by omega⟩
  have hl2 : ∀ S : Store, bltD S .len [.ro (is.map .int)] = some (.int (is.length : Int)) := fun S => by
    show some (D.int ((is.map D.int).length : Nat)) = _
    rw [List.length_map]
  have hc : ∀ S : Store, cutD S (.ro (is.map .int)) none (some 70) = some (.lst (cutL (is.map .int) none (some 70))) := fun S => rfl
  refine call_keepE rfl ?_
  simp (disch := (first | decide | assumption | (simp only [List.length_append, List.length_cons, List.length_nil, List.length_map] <;> omega) | omega)) [f_law_box, hB, hl2, hc, srcD, e1]
theorem law_ev {is : List Int} (hl : is.length ≤ 63) : ∃ S, callF fs fuel (l + 8) 29 [.ro (is.map .int)] [] = .ok (.bl true) S := by
  obtain ⟨K, c, e, hK, b⟩ := law_box (fuel := fuel) (l := l + 6) hl
  haveI := hK
  rw [callF_succ (show fs[29]? = some f_law from rfl) rfl]
  generalize hB : (IS.seq (.set 3 (.call 12 (.cons (.var 1) .nil))) (.seq (.ite (.or (.not (.call 17 (.cons (.var 1) (.cons (.var 3) .nil)))) (.or (.not (.call 20 (.cons (.var 1) (.cons (.var 3) .nil)))) (.not (.call 28 (.cons (.var 1) (.cons (.var 3) .nil)))))) (.seq (.ret (.lit (.bl false))) .skip) .skip) .skip)) = B
  obtain ⟨σ1, S1, e1, v2, v3, c1, rfl, rfl, b1⟩ := forL_ix (f := patB (.nm 2) fun σ' => exS ⟨callF fs fuel (l + 7), fuel, l + 7⟩ B σ') (fun j σ S => ∃ v2 v3 c, σ = [some (.ro (is.map .int)), some (.cell 1), v2, v3] ∧ S = [K, c] ∧ Box c) (xs := rngD 0 2) (j := 0) (σ := [some (.ro (is.map .int)), some (.cell 1), none, none]) (S := [K, c])
    (fun i x σ S hx ⟨v2, v3, c, e1, e2, b⟩ => by
      subst e1 e2 hB
      obtain ⟨d, c1, e1, b1, hp⟩ := program (K := K) (fuel := fuel) (l := l + 2) c [] b
      obtain ⟨d2, c2, e2, b2, rfl⟩ := names_right (K := K) (fuel := fuel) (l := l + 2) hp c1 [] b1
      obtain ⟨d3, c3, e3, b3, rfl⟩ := types_right (K := K) (fuel := fuel) (l := l + 2) hp c2 [] b2
      obtain ⟨d4, c4, e4, b4, rfl⟩ := reading_right (K := K) (fuel := fuel) (l := l + 1) hp c3 [] b3
      refine ⟨[some (.ro (is.map .int)), some (.cell 1), some x, some d], [K, c4], ?_, _, _, c4, rfl, rfl, b4⟩
      simp (disch := (first | decide | assumption | (simp only [List.length_append, List.length_cons, List.length_nil, List.length_map] <;> omega) | omega)) [e1, e2, e3, e4]) ⟨_, _, c, rfl, rfl, b⟩
  refine ⟨[], call_freeE rfl (tops_free (frees_mem.mpr fun d hd => by
    rw [List.mem_singleton.mp hd]
    exact frees_mem.mpr fun d hd => by
      obtain ⟨n, _, rfl⟩ := List.mem_map.mp hd
      rfl)) rfl (S' := [K, c1]) ?_⟩
  simp (disch := (first | decide | assumption | (simp only [List.length_append, List.length_cons, List.length_nil, List.length_map] <;> omega) | omega)) [f_law, hB, e, e1]
end Lw
set_option Elab.async false
set_option linter.all false
set_option maxRecDepth 100000
set_option maxHeartbeats 1000000
/-! Fx1: an own exception's __init__ that says super().__init__(..). -/
namespace Fb
open PySem PySem.Spec PyProof.Rows L2 NdefX
section
variable {CX : CXT} {P : Program} {w : World} {K : PySem.W.Frag} {mg : Str → Option Value} {base : Heap} {N ps fr : List Str} {F : NF} {f : Addr} {k : Nat} {sp : Sp}
/-- a def that closes over cells of the written part -/
theorem fnc_of {oc doc pm ctv : Value} {od : Option Addr} {osl : Array (Option Value)} {ws : List (Option V)} (lk : K.lookup f = some ⟨oc, od, .func (F.fd doc pm ctv), osl⟩) (hcd : PySem.W.codeIn K (.ref F.c) F.qual = true) (S : NScope N ps fr F.scope)
    (hcl : ∀ (h : Heap) (H : Hp), K.In h → (∀ b o, K.lookup b = some o → H b = none) → CellsAt F.cl fr ws h H) (len : ∀ vs H Q E, sp vs H Q E → vs.length = ps.length)
    (hbody : ∀ (A : Around) (outer : List Env) (s s1 : Shared) (H : Hp) (vs : List V) (Q : VK) (E : XK), Room k (A.deeper (envF F f s.heap.objs.size)) → sp vs H Q E → Inv (ncx CX P w K mg base N F f A outer s H E) [] (startF N vs ws) H s1 →
      _root_.PySem.wpAt (model P w) (A.deeper (envF F f s.heap.objs.size)) (.func F.body (envF F f s.heap.objs.size)) (execs F.body (envF F f s.heap.objs.size))
        (fun fl s' => ∃ u v σ' H', (match fl with
          | .ret u => u
          | _ => .none) = u ∧ Inv (ncx CX P w K mg base N F f A outer s H E) [] σ' H' s' ∧ RelV v u ∧ Q v H') (ncx CX P w K mg base N F f A outer s H E).xe s1) :
    FnOk P w K mg base CX (k + 1) f (F.fd doc pm ctv) ps sp := by
  refine ⟨len, fun A outer s H args us vs Q E hr e0 hb r hsp => ?_⟩
  have KX : K.In s.heap := e0.mod.kin.keeps fun b o e => (e0.bs b o e).1
  have hl := len _ _ _ _ hsp
  have lim : s.heap.NoLimit := e0.mod.nolimit.keeps fun b o e => (e0.bs b o e).1
  have C := hcl s.heap H KX fun b o e => (e0.bs b o (e0.mod.kin _ _ e)).2
  refine codeAny_call_function hr.depth (KX _ _ lk) rfl S.co S.gen rfl (PySem.W.codeRec_of KX hcd) (hb _ _ _ _ ?_)
  refine wpAny_newFunctionEnv S.nocell (fun ⟨n, _⟩ hy => S.par n (List.of_mem_zip hy).1) (fun h₁ hns hsb => ⟨lim.fresh _ hsb, ?_⟩) S.kind
  refine ks_codeAny_funcAt ?_
  have kp : ∀ b o, s.heap.get? b = some o → h₁.get? b = some o := fun b o e => hsb.extBut b o (Nat.ne_of_lt (Heap.lt_size e)) (Heap.get?_push_of_some _ e)
  have I : Inv (ncx CX P w K mg base N F f A outer s H E) [] (startF N vs ws) H { s with heap := h₁, toks := s.toks + (ps.zip us).length } := inv_startN S hr.hd e0 hl r C hns kp
  refine ks_wpAt_mono (hbody A outer s _ H vs Q E (hr.deeper _) hsp I) (fun fl s' ⟨u, v, σ', H', eu, J, rv, q⟩ => ?_) fun e s' hs => hs
  subst eu
  exact ⟨v, H', J.os, J.bare, J.base, J.hok, rv, q⟩
end
/-! ### super().__init__(..) -/
/-- what the written part says of a class whose __init__ F, at f, says super() -/
structure SupC (K : PySem.W.Frag) (prog : Program) (C f cc : Addr) (F : NF) (fd : FuncData) : Prop where
  ex : OexC K C
  lkf : ∃ oc od osl, K.lookup f = some ⟨oc, od, .func fd, osl⟩
  lkc : ∃ ccl cdd ccs vs file tf, K.lookup F.c = some ⟨ccl, cdd, .fields vs, ccs⟩ ∧ vs[2]? = some (.str file tf) ∧ ((prog.main.file : Str) == file) = true
  cell : ∃ cl cld csl, K.lookup cc = some ⟨cl, cld, .cell (some (.ref C)), csl⟩
  cls : ∃ cd, PySem.W.clsIn K C = some cd
  hcl : F.cl = [(("__class__" : Str), cc)]
  sub : PySem.W.mroIn K C (.ref C) = some true
  sup : PySem.W.nsIn K mainGlobals "super" = some none
  any : PySem.W.nsIn K cStatics "thirdparty.any" = some none
  init : PySem.W.ks_superIn K C C "__init__" = some (some (.builtin "ValueError.__init__"))
  ve : PySem.W.subIn K (.ref C) (.type "ValueError") = some true
  top : (prog.main.scope.names.lookup ("super" : Str)).isSome = false
  ks : F.scope.names.lookup ("super" : Str) = some .globalImplicit
  kc : F.scope.names.lookup ("__class__" : Str) = some .free
  kn : F.scope.kind = .function
section
variable {X : Cx} {pins : List (Addr × Obj)} {σ : L2.St} {H : Hp} {s : Shared} {C f cc a L : Addr} {F : NF} {fd : FuncData} {x0 : Str}
theorem bound_call {us : List Value} {u : Addr} {Q : Value → Shared → Prop} {E : Value → Shared → Prop} (T : OexC X.K C) (I : Inv X pins σ H s) (e : H a = some (exo a C none)) (hu : s.heap.get? u = some (PySem.W.kxs_mw "ValueError.__init__" a)) (hl : us.length ≤ sizeLine)
    (h : ∀ s', Inv X pins σ H s' → Q .none s') : wpAny (model X.prog X.w) X.A (call (.ref u) us) Q E s := by
  obtain ⟨nm, q, N, bs, bm, sn, sub, ab, col, dd, k0, k1, k2, k3, k5, hC, hbm⟩ := T.cls
  obtain ⟨t1, ho⟩ := exo_at I.hok e
  have kin := I.kIn
  obtain ⟨hp, g, d, t, os⟩ := s
  have FB := PySem.F.excBase_ValueError
  refine wpAny_call (codeAny_of_tree ?_)
  show wpAny _ X.A.in1 (callAny (.ref u) ⟨us, []⟩) _ _ _
  simp only [callAny]
  refine wpAny_bind (wpAny_load hu ?_)
  simp only [PySem.W.kxs_mw, show (Value.type "method-wrapper" == Value.type "method" || Value.type "method-wrapper" == Value.type "builtin_function_or_method" || Value.type "method-wrapper" == Value.type "method-wrapper") = true by decide, if_true]
  refine PySem.W.KFB.if_so (by decide) ?_
  refine wpAny_bind (PySem.W.check_bound_init FB.toExcCallFacts (kin _ _ hC) ho rfl ?_)
  refine wpAny_bind (wpAny_pure (wpAny_pure ?_))
  refine ⟨plainId_quiet FB.init.plain _, codeAny_builtin FB.initEntry ?_⟩
  refine PySem.W.exc_init_tree (cls := .ref C) (t0 := t1) (dv := none) (c2 := .none) (c3 := .none) (b4 := .bool false) ho hl fun h' k hx _ => ?_
  have J := I.write (t' := t) (x := a) (e := a) (o := exo a C none) (by rw [e]; exact True.intro) (.inl rfl) k ⟨_, hx⟩ (exo_ok hx)
  have eu : upd H a (exo a C none) = H := by
    funext b
    by_cases hb : b = a
    · rw [hb, upd_same, e]
    · rw [upd_ne hb]
  rw [eu] at J
  exact h _ J
theorem super_init {body : List Stmt} {es : List Expr} {e : Expr} {ta : TA} {p0 p1 p2 pos : Pos} {ar : Arg} {Q : Value → Shared → Prop} {pl : Sem Bool} (T : SupC X.K X.prog C f cc F fd) (I : Inv X pins σ H s) (henv : X.env = envF F f L) (ea : H a = some (exo a C none))
    (hp : (fd.params.posonlyargs ++ fd.params.args).head? = some ar) (h0 : X.N[0]? = some ar.arg) (hk0 : F.scope.names.lookup ar.arg = some .local) (s0 : σ[0]? = some (some (.ref a)))
    (hm : X.mg "super" = none) (fa : a ≠ C) (hex : X.ex = [])
    (ha : PA X (e :: es) ta)
    (he : eval (.Call (.Attribute (.Call (.Name "super" p0) [] [] p1) "__init__" p2) (e :: es) [] pos) X.env = (do
      let ov ← attributeBase (.Call (.Name "super" p0) [] [] p1) "__init__" X.env (eval (.Call (.Name "super" p0) [] [] p1) X.env)
      standAt p2.atName
      let (f, first) ← holding [ov] (getMethod ov "__init__" pl)
      callWith pos f first (backTo pos (starEach (e :: es) X.env)) []))
    (hst : starEach (e :: es) X.env = (false, eval e X.env) :: starEach es X.env) (hpl : (backTo pos (starEach es X.env)).any (·.1) = false)
    (h : ta σ H fun vs H1 => vs.length ≤ 1000 ∧ H1 a = some (exo a C none) ∧ ∀ s', Inv X pins σ H1 s' → Q .none s') :
    _root_.PySem.wpAt (model X.prog X.w) X.A (.func body X.env) (eval (.Call (.Attribute (.Call (.Name "super" p0) [] [] p1) "__init__" p2) (e :: es) [] pos) X.env) Q X.xe s := by
  have kin := I.kIn
  obtain ⟨oc, od, osl, lkf⟩ := T.lkf
  obtain ⟨ccl, cdd, ccs, vs, file, tf, lkc, hvs, hfile⟩ := T.lkc
  obtain ⟨ocl, cld, csl, lkcell⟩ := T.cell
  obtain ⟨cd, hcd⟩ := T.cls
  have kf : ∀ y, X.env.kindOf y = F.scope.names.lookup y := fun y => by rw [henv]; rfl
  have kd : X.env.scope.kind = .function := I.ok.kind
  refine ks_wpAt_MethodCall ?_ he
  refine ks_wpAt_super_base (f := f) (cc := F.c) ((kf _).trans T.ks) ((kf _).trans T.kc) (by decide) (by rw [henv]) (kin _ _ lkf) rfl hp (by rw [henv]) (kin _ _ lkc) rfl hvs hfile T.top ?_
  obtain ⟨mb, hb1, hb2⟩ := I.mod.blt
  have hgl : s.heap.Ns X.env.globals X.mg := by
    have z := I.mod.glob.keeps I.bk
    rw [← I.ok.glob] at z
    exact z
  have hbl : s.heap.Ns X.env.builtins mb := by
    have z := hb1.keeps I.bk
    rw [← I.ok.blt] at z
    exact z
  refine PySem.W.ks_loadName_global kd ((kf _).trans T.ks) (Calls.loadGlobal_builtin (env := X.env) hgl hm hbl ((hb2 _ (by decide)).trans (show bootBuiltins "super" = some (.type "super") by decide +kernel)) ⟨rfl, ?_⟩)
  refine wpAny_loadName_free kd ((kf _).trans T.kc) (c := cc) (by rw [henv]; show F.cl.lookup _ = _; rw [T.hcl]; rfl) ⟨_, kin _ _ lkcell, rfl⟩ ?_
  obtain ⟨m, hns, hlk⟩ := I.loc
  obtain ⟨u, ru, lk⟩ := hlk 0 ar.arg _ h0 s0 (.inl ((kf _).trans hk0))
  obtain rfl : u = Value.ref a := ru
  have hv : m ar.arg = some (.ref a) := by
    rcases lk with ⟨_, z⟩ | ⟨z, _⟩
    · exact z
    · rw [kf, hk0] at z; rcases z with z | z <;> cases z
  refine wpAny_loadName_local kd ((kf _).trans hk0) hns hv ?_
  obtain ⟨oD, hD1, hD2⟩ : ∃ oD, s.heap.get? C = some oD ∧ oD.data = .cls cd := by
    have hcd2 := hcd
    unfold PySem.W.clsIn at hcd2
    split at hcd2
    · rename_i ho
      cases hcd2
      exact ⟨_, kin _ _ ho, rfl⟩
    · cases hcd2
  refine ks_wpAny_isType_cls hD1 hD2 ⟨rfl, ?_⟩
  obtain ⟨t1, ho⟩ := exo_at I.hok ea
  obtain ⟨hh, g, d, t, os⟩ := s
  refine ks_wpAny_call_super hD1 hD2 ho rfl (fun c z => by cases z) (PySem.W.looks_mroIn kin T.sub) fun h' es' k' => ?_
  have I1 : Inv X pins σ H ⟨h', g, d, t, os⟩ := I.kept (h' := h') (t' := t) k'
  have kin1 := I1.kIn
  have hI : PySem.W.Looks (model X.prog X.w) h' (isInstance (.ref a) (.type "ValueError")) true := by
    obtain ⟨t2, ho2⟩ := exo_at I1.hok ea
    have IA : PySem.W.InstAt h' a _ C none := ⟨ho2, rfl, rfl, trivial⟩
    exact IA.type.andThen (PySem.W.looks_subIn kin1 T.ve)
  have hm2 := T.init
  unfold PySem.W.ks_superIn at hm2
  rw [hcd] at hm2
  refine PySem.W.kxs_getMethod PySem.W.kxs_ValueError es' (PySem.W.looks_opaque kin1 T.any) (l₀ := cd.mro) (fun A Q E s k q => wpAny_bind ((PySem.W.looks_clsIn kin1 hcd) A _ E s k (wpAny_pure q))) rfl kin1 hm2 hI fa (by decide) ?_
  have I2 : Inv X pins σ H ⟨h'.push (PySem.W.kxs_mw "ValueError.__init__" a), g, d, t + 1, os⟩ := I1.kept (h' := h'.push (PySem.W.kxs_mw "ValueError.__init__" a)) (t' := t + 1) fun b o e => Heap.get?_push_of_some _ e
  have hu0 : (h'.push (PySem.W.kxs_mw "ValueError.__init__" a)).get? h'.objs.size = some (PySem.W.kxs_mw "ValueError.__init__" a) := Heap.get?_push_at rfl rfl
  have hul : ∀ b o, h'.get? b = some o → h'.objs.size ≠ b := fun b o e => Nat.ne_of_gt (Heap.lt_size e)
  have I3 : Inv X (pins ++ [(h'.objs.size, PySem.W.kxs_mw "ValueError.__init__" a)]) σ H ⟨h'.push (PySem.W.kxs_mw "ValueError.__init__" a), g, d, t + 1, os⟩ := I2.pins_of fun p hp => by
    rcases List.mem_append.mp hp with z | z
    · exact I2.pin p (List.mem_append_right _ z)
    · rw [List.mem_singleton.mp z]
      refine ⟨hu0, I1.hok.fresh (Nat.le_refl _), ?_, ?_, fun v z => by cases z⟩
      · obtain ⟨m1, hn1, _⟩ := I1.loc
        obtain ⟨oL, es1, ep, hL, _⟩ := hn1
        exact hul _ _ hL
      · intro hz
        have hz2 := (I1.ok.funs.mem hz).2
        obtain ⟨o, ho⟩ : ∃ o, X.s_0.heap.get? h'.objs.size = some o := by
          obtain ⟨o, q, _⟩ := hz2; exact ⟨o, q⟩
        obtain ⟨o2, ho2⟩ := I1.base.there _ _ ho (by rw [hex]; simp)
        exact hul _ _ ho2 rfl
  refine PySem.W.kxs_callWith (i := "ValueError.__init__") (x := a) (by rw [hst]; show (false || (backTo pos (starEach es X.env)).any (·.1)) = false; rw [hpl]; rfl) ?_
  have hev := ha.run pos _ _ σ H _ I3 h
  rw [hst] at hev ⊢
  refine PySem.Calls.evalArgs_plain (thn hev fun us s1 ⟨vs1, H1, J, r1, hl, ea1, q⟩ => ?_)
  have hp1 := J.pin (h'.objs.size, PySem.W.kxs_mw "ValueError.__init__" a) (List.mem_append_right _ (List.mem_append_right _ (List.mem_singleton.mpr rfl)))
  refine ⟨hp1.1, ?_⟩
  have J2 : Inv X pins σ H1 s1 := J.pins_of fun p hp => J.pin p (List.mem_append_right _ (List.mem_append_left _ hp))
  exact bound_call (us := us) T.ex J2 ea1 hp1.1 (by rw [← Paired.length r1, sizeLine_eq]; omega) q
end
end Fb
set_option Elab.async false
set_option linter.all false
set_option maxRecDepth 100000
set_option maxHeartbeats 1000000
/-! Fx2: a try with clauses of every form: one class or a tuple of classes, with a name or without. -/
namespace Fb
open PySem PySem.Spec PyProof.Rows L2
section
variable {M : Model} {A : Around} {E : Value → Shared → Prop} {s : Shared}
theorem forIn_walk {β : Type} {x0 x1 : β} {F : Value → β → Sem (ForInStep β)} (g : Value → Bool) {Q : β → Shared → Prop} : ∀ l : List Value,
    (∀ c ∈ l, ∀ P : ForInStep β → Shared → Prop, P (if g c = true then .done x1 else .yield x0) s → wpAny M A (F c x0) P E s) → Q (if l.any g = true then x1 else x0) s → wpAny M A (forIn l x0 F) Q E s
  | [], _, q => by
    rw [List.forIn_nil]
    exact wpAny_pure q
  | c :: r, h, q => by
    rw [List.forIn_cons]
    refine wpAny_bind (h c List.mem_cons_self _ ?_)
    by_cases hg : g c = true
    · rw [if_pos hg]
      refine wpAny_pure ?_
      rw [List.any_cons, hg, Bool.true_or, if_pos rfl] at q
      exact q
    · rw [if_neg hg]
      refine forIn_walk g r (fun c hc => h c (List.mem_cons_of_mem _ hc)) ?_
      have hg2 : g c = false := by simpa using hg
      rw [List.any_cons, hg2, Bool.false_or] at q
      exact q
end
section
variable {M : Model} {K : PySem.W.Frag}
theorem exmAny_mem {cls : Value} : ∀ {cs : List Value} {b : Bool}, PySem.W.exmAny K cls cs = some b → ∃ g : Value → Bool, (∀ c ∈ cs, PySem.W.exmOne K cls c = some (g c)) ∧ b = cs.any g
  | [], b, h => ⟨fun _ => false, ⟨fun _ z => (nomatch z), by cases h; rfl⟩⟩
  | c :: r, b, h => by
    obtain ⟨b1, d1, x1, y1, z1⟩ := PySem.W.exmAny_cons h
    obtain ⟨g, hg, e⟩ := exmAny_mem y1
    refine ⟨fun c => (PySem.W.exmOne K cls c).getD false, fun c' hc => ?_, ?_⟩
    · rcases List.mem_cons.mp hc with rfl | hc
      · dsimp only; rw [x1]; rfl
      · dsimp only; rw [hg _ hc]; rfl
    · rw [z1, e, List.any_cons]
      rw [x1]
      have : r.any g = r.any fun c => (PySem.W.exmOne K cls c).getD false := by
        clear z1 e y1 h
        induction r with
        | nil => rfl
        | cons d r ih =>
          rw [List.any_cons, List.any_cons, ih (fun c hc => hg c (List.mem_cons_of_mem _ hc)), hg d List.mem_cons_self] <;> rfl
      rw [this]; rfl
theorem exm_tupN {cls : Value} {cs : List Value} {tp e : Addr} {b : Bool} {h : Heap} {its : Array Value} (X : K.In h) (LT : PySem.W.Looks M h (typeOf (.ref e)) cls) (hp : IsTup h tp its) (hi : its.toList = cs) (hx : PySem.W.exmAny K cls cs = some b) :
    PySem.W.Looks M h (excMatches (.ref e) (.ref tp)) b := by
  intro A Q E s k₀ q
  obtain ⟨hh, g, d, tk, os⟩ := s
  have k : ∀ b o, h.get? b = some o → hh.get? b = some o := k₀
  obtain ⟨o, ho, hc, n, hd⟩ := hp
  obtain ⟨gb, hgb, eb⟩ := exmAny_mem hx
  unfold excMatches
  refine wpAny_bind (wpAny_isInstance ⟨o, k _ _ ho, hc⟩ isSubtype_tuple_tuple ?_)
  dsimp only
  rw [if_pos rfl]
  have hl : ∀ c ∈ its.toList, PySem.W.exmOne K cls c = some (gb c) := fun c hc => hgb c (by rw [← hi]; exact hc)
  have tail : wpAny M A (do
      for c in its.toList do
        if !(← isExcClass c) then
          rule "try.except-non-exception-class"
          raiseError "TypeError" "catching classes that do not inherit from BaseException is not allowed"
      let te ← typeOf (.ref e)
      for c in its.toList do
        if ← isSubtype te c then return true
      return false) Q E ⟨hh, g, d, tk, os⟩ := by
    refine wpAny_bind ?_
    refine forIn_walk (x1 := ⟨⟩) (fun _ => false) its.toList (fun c hc P hP => ?_) ?_
    · obtain ⟨e1, _⟩ := PySem.W.exm_cls (M := M) X (hl c hc)
      refine wpAny_bind ((e1.keeps k).at ?_)
      rw [if_neg (show ¬ ((!true) = true) by simp)]
      exact wpAny_pure hP
    · refine wpAny_bind ((LT.keeps k).at ?_)
      refine wpAny_bind ?_
      refine forIn_walk (β := Option Bool × Unit) (x0 := (none, ())) (x1 := (some true, ())) gb its.toList (fun c hc P hP => ?_) ?_
      · obtain ⟨_, e1⟩ := PySem.W.exm_cls (M := M) X (hl c hc)
        refine wpAny_bind ((e1.keeps k).at ?_)
        cases hb : gb c with
        | true => rw [hb] at hP; exact wpAny_pure hP
        | false => rw [hb] at hP; exact wpAny_pure hP
      · rw [hi, ← eb]
        cases b with
        | true => exact wpAny_pure q
        | false => exact wpAny_pure q
  first
    | exact wpAny_bind (wpAny_seqItems (k _ _ ho) hd tail)
    | exact wpAny_bind (wpAny_bind (wpAny_seqItems (k _ _ ho) hd (wpAny_pure tail)))
end
/-! ### the clauses -/
/-- a clause: the classes named, the slot of its name, its suite's reading -/
structure HM where
  cs : List Value
  nm : Option Nat
  ts : Addr → Value → Option Addr → TS
def endsX (D : Ends) : Option Nat → Ends
  | none => D
  | some i => { nx := fun σ' H' => D.nx (σ'.set i none) H', rt := D.rt, bk := fun σ' H' => D.bk (σ'.set i none) H', ct := fun σ' H' => D.ct (σ'.set i none) H' }
def slotX (σ : L2.St) (a : Addr) : Option Nat → L2.St
  | none => σ
  | some i => σ.set i (some (.ref a))
def wMix (K : PySem.W.Frag) (Wout : WX) (D : Ends) : List HM → WX
  | [] => Wout
  | h :: r => fun cls d σ H => ∃ b, PySem.W.exmAny K cls h.cs = some b ∧ (b = true → ∀ a, H a = none → h.ts a cls d (endsX D h.nm) (slotX σ a h.nm) H) ∧ (b = false → wMix K Wout D r cls d σ H)
/-- own classes, by their names -/
def tyEs : List (Str × Pos) → List Expr
  | [] => []
  | (x, p) :: r => .Name x p :: tyEs r
def CNames (X : Cx) : List (Str × Pos) → List Value → Prop
  | [], [] => True
  | (x, _) :: r, c :: cs => Gl X x ∧ (x == ("__debug__" : Str)) = false ∧ X.mg x = some c ∧ CNames X r cs
  | _, _ => False
/-- the clause's test -/
inductive HTest (X : Cx) : Expr → List Value → Prop
  | one {x : Str} {np : Pos} {c : Value} (h : CNames X [(x, np)] [c]) : HTest X (.Name x np) [c]
  | tup {xs : List (Str × Pos)} {cs : List Value} {k : Nat} {p : Pos} (h : CNames X xs cs) (hl : cs.length ≤ 100) : HTest X (.Tuple (tyEs xs) k p) cs
/-- a clause's name -/
def NmOk (X : Cx) : Option Str → Option Nat → Prop
  | none, none => True
  | some n, some i => X.N[i]? = some n ∧ X.env.kindOf n = some .local
  | _, _ => False
inductive HdX (X : Cx) : List ExceptHandler → List HM → Prop
  | nil : HdX X [] []
  | cons {te : Expr} {n : Option Str} {h : HM} {b₀ : Stmt} {suite : List Stmt} {pos' : Pos} {hds : List ExceptHandler} {l : List HM} (hc : HTest X te h.cs) (hn : NmOk X n h.nm)
      (hsu : ∀ (a : Addr) (oe : Obj) (cls : Value) (d : Option Addr) (pn : List (Addr × Obj)), Zc cls d oe → (∃ vs, oe.data = .fields vs) → PSs (X.suite a ((a, oe) :: pn)) (b₀ :: suite) (h.ts a cls d)) (r : HdX X hds l) :
      HdX X (.ExceptHandler (some te) n (b₀ :: suite) pos' :: hds) (h :: l)
theorem flyingZ_ext {B h h' : Heap} {l : List Env} {a : Addr} {Z : Obj → Prop} (f : HandSPX.FlyingZ B l a Z h) (k : ∀ b o, h.get? b = some o → h'.get? b = some o) : HandSPX.FlyingZ B l a Z h' := by
  obtain ⟨k1, k2, k3, oe, vs, T, oT, ts, h1, h2, h3, h4, h5, h6, h7, h8, h9⟩ := f
  exact ⟨fun b o e => k b o (k1 b o e), k2, k3.of_keeps fun b o e _ => ⟨o, k _ _ e, rfl⟩, oe, vs, T, oT, ts, k _ _ h1, h2, h3, h4, h5, h6, k _ _ h7, h8, h9⟩
section
variable {X : Cx} {body : List Stmt} {h₀ : ExceptHandler} {hds : List ExceptHandler} {l : List HM} {pos : Pos} {tb : WX → TS} {Wout : WX}
theorem names_eval {a : Addr} {pn : List (Addr × Obj)} {σ : L2.St} {H : Hp} {s : Shared} {E : Value → Shared → Prop} {pos : Pos} (S : Inv (X.suite a pn) [] σ H s) : ∀ {xs : List (Str × Pos)} {cs : List Value} {Q : List Value → Shared → Prop}, CNames X xs cs → Q cs s →
    wpAny (model X.prog X.w) (X.A.mark (some (.ref a))) (spliced (backTo pos (starEach (tyEs xs) X.env))) Q E s
  | [], [], Q, _, q => spliced_none q
  | (x, p) :: r, c :: cs, Q, h, q => by
    obtain ⟨h1, h2, h3, h4⟩ := h
    exact spliced_more (ld_glob (X := X.suite a pn) S h1 h3 (names_eval S h4 q) h2)
  | [], _ :: _, _, h, _ => False.elim h
  | _ :: _, [], _, h, _ => False.elim h
theorem htest {te : Expr} {cs : List Value} {a : Addr} {oe : Obj} {pn : List (Addr × Obj)} {σ : L2.St} {H : Hp} {s : Shared} {cls : Value} {b : Bool} {Q : Bool → Shared → Prop} {E E2 : Value → Shared → Prop} (S : Inv (X.suite a ((a, oe) :: pn)) [] σ H s) (kin : X.K.In s.heap) (he : s.heap.get? a = some oe) (hcl : oe.cls = cls)
    (ht : HTest X te cs) (hx : PySem.W.exmAny X.K cls cs = some b) (q : ∀ s2 : Shared, (∀ b o, s.heap.get? b = some o → s2.heap.get? b = some o) → s2.os = s.os → s2.gens = s.gens → Q b s2) :
    wpAny (model X.prog X.w) (X.A.mark (some (.ref a))) (eval te X.env) (fun c s1 => wpAny (model X.prog X.w) (X.A.mark (some (.ref a))) (excMatches (.ref a) c) Q E2 s1) E s := by
  obtain ⟨hh, g, dr, tk, os⟩ := s
  have LT : ∀ h2 : Heap, (∀ b o, hh.get? b = some o → h2.get? b = some o) → PySem.W.Looks (model X.prog X.w) h2 (typeOf (.ref a)) cls := fun h2 k2 A Q E s k q => wpAny_typeOf_ref (k _ _ (k2 _ _ he)) (by rw [hcl]; exact q)
  cases ht with
  | @one x np c h =>
    obtain ⟨h1, h2, h3, _⟩ := h
    have hx1 : PySem.W.exmOne X.K cls c = some b := by
      obtain ⟨b1, d1, x1, y1, z1⟩ := PySem.W.exmAny_cons hx
      cases y1
      rw [x1, z1, Bool.or_false]
    exact ld_glob (X := X.suite a ((a, oe) :: pn)) S h1 h3 ((PySem.W.exm_one kin (LT hh fun _ _ e => e) hx1).at (q _ (fun _ _ e => e) rfl rfl)) h2
  | @tup xs cs k p h hl =>
    refine Tuple_ (names_eval S h ?_)
    have hz : cs.toArray.size ≤ sizeLine := by rw [List.size_toArray, sizeLine_eq]; omega
    unfold newTuple
    have k2 : ∀ b o, hh.get? b = some o → (hh.push { cls := .type "tuple", data := .seq cs.toArray }).get? b = some o := fun b o e => Heap.get?_push_of_some _ e
    refine wpAny_newObj_type ?_ hz
    exact (exm_tupN (M := model X.prog X.w) (fun b o e => k2 _ _ (kin b o e)) (LT _ k2) (IsTup.new hh cs.toArray) (by simp) hx).at (q _ k2 rfl rfl)
theorem ps_try_mix (hs : X.stack = X.env :: X.outer) (hf : X.env.frame = some X.env.locals) (hN : X.N.Nodup) (tk : Takes X Wout)
    (hb : ∀ (W : WX) (pn : List (Addr × Obj)) (xe : Value → Shared → Prop), Takes (X.tr pn xe) W → PassesOwn (model X.prog X.w) X.A X.env xe → PSs (X.tr pn xe) body (tb W))
    (hh : HdX X (h₀ :: hds) l) : PS X (.Try body (h₀ :: hds) [] [] pos) (fun D σ H => tb (fun cls d σ H => σ.length = X.N.length → wMix X.K Wout D l cls d σ H) D σ H) := by
  refine ⟨fun pins s σ H D I h => ?_⟩
  have ok := I.ok
  have hfr : X.A.frames = some (X.env :: X.outer) := by rw [ok.frames, hs]
  refine wpAny_Try_except ?_
  refine wpAny_mono ((hb (fun cls d σ H => σ.length = X.N.length → wMix X.K Wout D l cls d σ H) (X.pn ++ pins) (fun e s₁ => wpAny (model X.prog X.w) X.A (noteFrame e X.env) (fun _ s₂ => wpAny (model X.prog X.w) X.A (setFlight e none) (fun _ s₃ =>
    wpAny (model X.prog X.w) X.A (handleBy e X.env (h₀ :: hds)) (SP X pins D) X.xe s₃) X.xe s₂) X.xe s₁) (fun u s' xx => ?_) PassesOwn.looking).run [] s σ H D (I.toTry _) h) (fun f s1 hsp => ?_) (fun e s1 he => he)
  · -- the catch
    obtain ⟨a, B, sI, pins', σ', H', cls, d, rfl, J', nb, up, sky, na, os, ag, w⟩ := xx
    have J : Inv X pins σ' H' sI := J'.ofTry ok
    have sky' : Sky B (X.env :: X.outer) a (Zc cls d) X.env.locals s'.heap := by rw [← hs]; exact sky
    show wpAny (model X.prog X.w) X.A (noteFrame (.ref a) X.env) _ _ _
    refine Sky.land Zc.steady hfr hf sky' fun h3 fl3 up3 => ?_
    have notFr : ∀ {h : Heap} {o : Obj} {vs : Array Value}, h.FunFrames B (X.env :: X.outer) → h.get? a = some o → o.data = .fields vs → a ∉ frs (X.env :: X.outer) := fun {h o vs} ff e dd hm => by
      obtain ⟨_, o', e', hnf⟩ := ff.mem hm
      rw [e] at e'; cases e'
      exact hnf _ dd
    have go : ∀ {hds' : List ExceptHandler} {l' : List HM}, HdX X hds' l' → wMix X.K Wout D l' cls d σ' H' → ∀ sx : Shared, HandSPX.FlyingZ B (X.env :: X.outer) a (Zc cls d) sx.heap → sI.heap.UpToSlots sx.heap → sx.os = sI.os → AllBare sx.gens →
        wpAny (model X.prog X.w) X.A (handleBy (.ref a) X.env hds') (SP X pins D) X.xe sx := by
      intro hds' l' hk
      induction hk with
      | nil =>
        intro w sx fl3 upx osx agx
        refine wpAny_handleBy_nil ?_
        obtain ⟨k1, k2, k3, oe, vs, T, oT, ts', he, hz, hd, h1, hr⟩ := id fl3
        unfold PySem.passOn
        refine wpAny_bind (wpAny_field he hd h1 ?_)
        rw [if_neg (show ¬ ((Value.ref T == Value.none) = true) from by simp)]
        have fin : wpAny (model X.prog X.w) X.A (setFlight (.ref a) X.env.frame) (fun _ s4 => wpAny (model X.prog X.w) X.A (throw (.ref a) : Sem Flow) (SP X pins D) X.xe s4) X.xe sx := by
          rw [hf]
          refine HandSPX.setFlight_upZ fl3 fun h4 hh4 up4 => wpAny_throw (tk _ _ ?_)
          exact ⟨a, B, sI, pins, σ', H', cls, d, rfl, J, nb, upx.trans up4, .inr (.inr (by rw [hs]; exact hh4)), na, osx, agx, w⟩
        first
          | exact wpAny_bind (wpAny_pure (wpAny_bind fin))
          | exact wpAny_bind fin
      | @cons te n hm b₀ suite pos' hds2 l2 hc hn hsu r ih =>
        intro w sx fl3 upx osx agx
        obtain ⟨b, hb1, hyes, hno⟩ := w
        have J3 : Inv X pins σ' H' sx := J.landed nb fl3.1 upx osx agx
        obtain ⟨oe3, vs3, he3, hz3, hd3⟩ := fl3.there
        have nfr := notFr fl3.2.2.1 he3 hd3
        have nL : a ≠ X.env.locals := fun z => nfr (List.mem_filterMap.mpr ⟨X.env, List.mem_cons_self, by rw [hf, z]⟩)
        have nF : a ∉ X.fs := fun hm => by
          obtain ⟨e, he, q⟩ := List.mem_filterMap.mp hm
          exact nfr (List.mem_filterMap.mpr ⟨e, List.mem_cons_of_mem _ he, q⟩)
        have S3 := J3.suite he3 hd3 na nL nF
        refine wpAny_handleBy_cons (codeAny_handlers_test ?_) (by intro q; cases q)
        refine htest (cs := hm.cs) (cls := cls) S3 J3.kIn he3 hz3.1 hc hb1 fun s4 k4 os4 g4 => ?_
        have fl4 := flyingZ_ext fl3 k4
        have up4 : sI.heap.UpToSlots s4.heap := upx.trans fun b o e _ => ⟨o.slots, by rw [k4 _ _ e]⟩
        have ag4 : AllBare s4.gens := by rw [g4]; exact agx
        cases b with
        | false =>
          show wpAny _ X.A (handleBy (.ref a) X.env hds2) _ _ _
          exact ih (hno rfl) s4 fl4 up4 (os4.trans osx) ag4
        | true =>
          have hn0 := hn
          have hy := hyes rfl a na
          have last : ∀ (s5 : Shared) (oe5 : Obj), Zc cls d oe5 → (∃ vs, oe5.data = .fields vs) → Inv (X.suite a ((a, oe5) :: (X.pn ++ pins))) [] (slotX σ' a hm.nm) H' s5 → wpAny (model X.prog X.w) (X.A.mark (some (.ref a))) (execs (b₀ :: suite) X.env) (fun f s6 => SP (X.suite a ((a, oe5) :: (X.pn ++ pins))) [] (endsX D hm.nm) f s6) (fun _ _ => False) s5 := fun s5 oe5 z5 d5 S5 =>
            (hsu a oe5 cls d (X.pn ++ pins) z5 d5).run [] s5 _ H' _ S5 hy
          cases n with
          | none =>
            cases hnm : hm.nm with
            | some i => rw [hnm] at hn; exact False.elim hn
            | none =>
              rw [hnm] at last
              refine codeAny_handlers_suite ?_
              refine HandSPX.lands_againZ fl4 fun h5 fl5 up5 => ?_
              have J5 : Inv X pins σ' H' { s4 with heap := h5 } := J.landed nb fl5.1 (up4.trans up5) (os4.trans osx) ag4
              obtain ⟨oe5, vs5, he5, hz5, hd5⟩ := fl5.there
              refine wpAny_mono (last _ oe5 hz5 ⟨_, hd5⟩ (J5.suite he5 hd5 na nL nF)) (fun f s6 hsp => ?_) (fun _ _ z => False.elim z)
              cases f with
              | next =>
                obtain ⟨σ6, H6, S6, q6⟩ := hsp
                exact ⟨_, _, S6.unsuite ok, q6⟩
              | brk =>
                obtain ⟨σ6, H6, S6, q6⟩ := hsp
                exact ⟨_, _, S6.unsuite ok, q6⟩
              | cont =>
                obtain ⟨σ6, H6, S6, q6⟩ := hsp
                exact ⟨_, _, S6.unsuite ok, q6⟩
              | ret u =>
                obtain ⟨v6, σ6, H6, S6, r6, q6⟩ := hsp
                exact ⟨_, _, _, S6.unsuite ok, r6, q6⟩
          | some n =>
            cases hnm : hm.nm with
            | none => rw [hnm] at hn; exact False.elim hn
            | some i =>
              rw [hnm] at hn last
              obtain ⟨hi, hln⟩ := hn
              have hloc : Loc X.env.scope n := .inl hln
              refine codeAny_handlers_suite_as ?_
              refine HandSPX.lands_againZ fl4 fun h5 fl5 up5 => ?_
              have J5 : Inv X pins σ' H' { s4 with heap := h5 } := J.landed nb fl5.1 (up4.trans up5) (os4.trans osx) ag4
              obtain ⟨oe5, vs5, he5, hz5, hd5⟩ := fl5.there
              have S5 := J5.suite he5 hd5 na nL nF
              refine store_ok (X := X.suite a ((a, oe5) :: (X.pn ++ pins))) (v := .ref a) S5 hN hi hloc rfl (fun s5 S5' => ?_) (.inr hln)
              refine wpAny_mono (last s5 oe5 hz5 ⟨_, hd5⟩ S5') (fun f s6 hsp => ?_) (fun _ _ z => False.elim z)
              have end_ : ∀ {σ6 : L2.St} {H6 : Hp} {Q : Shared → Prop}, Inv (X.suite a ((a, oe5) :: (X.pn ++ pins))) [] σ6 H6 s6 → (∀ s7, Inv X pins (σ6.set i none) H6 s7 → Q s7) →
                  wpAny (model X.prog X.w) X.A (do bindName X.env n .none; unbindBehindTheSuite X.env n pos') (fun _ s7 => Q s7) X.xe s6 := fun {σ6 H6 Q} S6 hq => gone_ok (S6.unsuite ok) hN hi hln hq
              cases f with
              | next =>
                obtain ⟨σ6, H6, S6, q6⟩ := hsp
                exact end_ S6 fun s7 J7 => ⟨_, _, J7, q6⟩
              | brk =>
                obtain ⟨σ6, H6, S6, q6⟩ := hsp
                exact end_ S6 fun s7 J7 => ⟨_, _, J7, q6⟩
              | cont =>
                obtain ⟨σ6, H6, S6, q6⟩ := hsp
                exact end_ S6 fun s7 J7 => ⟨_, _, J7, q6⟩
              | ret u =>
                obtain ⟨v6, σ6, H6, S6, r6, q6⟩ := hsp
                exact end_ S6 fun s7 J7 => ⟨_, _, _, J7, r6, q6⟩
    exact go hh (w J.len) { s' with heap := h3 } fl3 (up.trans up3) os ag
  · cases f with
    | next =>
      obtain ⟨σ', H', J', q⟩ := hsp
      exact wpAny_execs_nil ⟨σ', H', J'.ofTry ok, q⟩
    | brk =>
      obtain ⟨σ', H', J', q⟩ := hsp
      exact ⟨σ', H', J'.ofTry ok, q⟩
    | cont =>
      obtain ⟨σ', H', J', q⟩ := hsp
      exact ⟨σ', H', J'.ofTry ok, q⟩
    | ret u =>
      obtain ⟨v, σ', H', J', r, q⟩ := hsp
      exact ⟨v, σ', H', J'.ofTry ok, r, q⟩
end
end Fb
set_option Elab.async false
set_option linter.all false
set_option maxRecDepth 100000
set_option maxHeartbeats 1000000
/-! Fx5: enumerate(tuple). -/
namespace PySem
open Sem (wp)
open AutoSeq1 (wpAny_loadPart')
theorem meets_enumerate_newT (l : Addr) (items : Array Value) (n : Nat) (dct : Option Addr) (sl : Array (Option Value)) :
    Meets (Builtin.«enumerate.__new__» ⟨[.type "enumerate", .ref l], []⟩) (fun _ R s => s.heap.get? l = some { cls := .type "tuple", dict := dct, data := .seq items n, slots := sl } ∧
      R (.ok (.ret (.ref (s.heap.push { cls := .type "tuple_iterator", data := .fields #[.ref l, .int 0 0] }).objs.size)))
        { s with heap := (s.heap.push { cls := .type "tuple_iterator", data := .fields #[.ref l, .int 0 0] }).push { cls := .type "enumerate", data := .fields #[.none, .bool false, .ref s.heap.objs.size, rawInt 0, .none, .none] } }) :=
  .of_wp fun prog w A R s h => by
    obtain ⟨hp, g, d, tk, os⟩ := s; obtain ⟨hl, h⟩ := h
    have hsub := sub_enumerate
    have hL : Heap.IsTuple (Shared.heap ⟨hp, g, d, tk, os⟩) l items := ⟨_, hl, rfl, n, rfl⟩
    wp_walk using wpAny_loadPart' hl
    refine wpAny_stack_any fun st => wpAny_pure ?_
    split
    · rename_i c _ _ _ _ _
      cases (c == Value.type "enumerate")
      · wp_walk using wpAny_loadPart' hl, wpAny_pyIter_tuple hL
        exact ⟨_, rfl, h⟩
      · wp_walk using wpAny_loadPart' hl, wpAny_pyIter_tuple hL
        exact ⟨_, rfl, h⟩
    · wp_walk using wpAny_loadPart' hl, wpAny_pyIter_tuple hL
      exact ⟨_, rfl, h⟩
section
variable {prog : Program} {w : World} {A : Around} {E : Value → Shared → Prop} {s : Shared}
theorem call_enumerate_tuple {l : Addr} {items : Array Value} {Q : Value → Shared → Prop} (hL : s.heap.IsTuple l items)
    (h : ∀ h', IsEnum h' (s.heap.objs.size + 1) s.heap.objs.size 0 .none → h'.IsTupleIter s.heap.objs.size l 0 → h'.objs.size = s.heap.objs.size + 2 →
      (∀ b o, s.heap.get? b = some o → h'.get? b = some o) → Q (.ref (s.heap.objs.size + 1)) { s with heap := h' }) :
    wpAny (model prog w) A (call (.type "enumerate") [.ref l]) Q E s := by
  obtain ⟨⟨c, dct, dt, sl⟩, hl, hc, n, hd⟩ := hL
  replace hc : c = .type "tuple" := hc
  replace hd : dt = .seq items n := hd
  subst hc hd
  refine callType_new F.called_enumerate (by decide) (F.typeCall_enumerate_1 _) (F.newCall_enumerate_1 _) (fun obj => F.args_object_init_2 obj _) F.entry_enumerate_new
    (meets_enumerate_newT l items n dct sl) ⟨hl, ?_⟩
  have hz : (s.heap.push { cls := .type "tuple_iterator", data := .fields #[.ref l, .int 0 0] }).objs.size = s.heap.objs.size + 1 := Heap.size_push ..
  show _ ∧ _
  rw [hz]
  have he : IsEnum ((s.heap.push { cls := .type "tuple_iterator", data := .fields #[.ref l, .int 0 0] }).push
      { cls := .type "enumerate", data := .fields #[.none, .bool false, .ref s.heap.objs.size, rawInt 0, .none, .none] }) (s.heap.objs.size + 1) s.heap.objs.size 0 .none := by
    have := Heap.get?_push_size (s.heap.push { cls := .type "tuple_iterator", data := .fields #[.ref l, .int 0 0] })
      (o := { cls := .type "enumerate", data := .fields #[.none, .bool false, .ref s.heap.objs.size, rawInt 0, .none, .none] }) rfl
    rw [hz] at this; exact this
  refine ⟨⟨_, he, rfl⟩, h _ he ⟨_, Heap.get?_push_of_some _ (Heap.get?_push_size _ rfl), rfl, rfl⟩ (by rw [Heap.size_push, hz]) fun b o x => Heap.get?_push_of_some _ (Heap.get?_push_of_some _ x)⟩
end
end PySem
namespace Fb
open PySem PySem.Spec PyProof.Rows L2 RZ
/-- the tuple at a as it stands at each turn, each item in a new pair -/
def IteT (K : PySem.W.Frag) (a : Addr) : It :=
  ⟨fun i H => ∃ (xs : List V) (x : V), SqT K H a xs ∧ xs[i]? = some x, fun i H v H' => ∃ T x, v = .ref T ∧ H T = none ∧ H' = upd H T (.tup [.int (i : Nat), x]) ∧ ∀ xs, SqT K H a xs → xs[i]? = some x, fun i H => ∃ xs : List V, SqT K H a xs ∧ xs.length ≤ i⟩
theorem turn_enumT {P : Program} {w : World} {K : PySem.W.Frag} {elts : List Expr} {kk : Nat} {tpos : Pos} (a e it : Addr) :
    Turn P w K (.Tuple elts kk tpos) (IteT K a) [e, it] e (fun i h => (∃ old, IsEnum h e it ((i : Nat) : Int) old) ∧ h.IsTupleIter it a i ∧ e ≠ it) where
  mem := by simp
  obj := fun i h st b hb => by
    obtain ⟨⟨old, he⟩, ⟨o, ho, hc, hd⟩, _⟩ := st
    have e' : b = e ∨ b = it := by simpa using hb
    rcases e' with z | z
    · rw [z]; exact ⟨_, he, fun v q => nomatch q⟩
    · rw [z]; exact ⟨o, ho, fun v q => by rw [hd] at q; cases q⟩
  keep := fun i h h' st k => let ⟨⟨old, he⟩, hi, hne⟩ := st; ⟨⟨old, k e (by simp) _ he⟩, hi.at fun o q => k it (by simp) o q, hne⟩
  item := by
    intro X hP hw hK hc i pins s σ H E I hf st hg
    subst hP hw hK
    obtain ⟨⟨old, he⟩, hit, hne⟩ := st
    obtain ⟨xs, x, hq, hx⟩ := hg
    obtain ⟨its, rv, p, hz⟩ := I.tuple hq
    obtain ⟨u, hu, ru⟩ := rv.get hx
    have hp : s.heap.IsTuple a its.toArray := p
    have hel : e < s.heap.objs.size := Heap.lt_size he
    have hil : it < s.heap.objs.size := by obtain ⟨_, q, _⟩ := hit; exact Heap.lt_size q
    have hia : a ≠ it := fun z => by
      obtain ⟨o, ho, hc, _⟩ := hit
      obtain ⟨o2, ho2, hc2, _⟩ := hp
      rw [z, ho] at ho2
      cases ho2
      rw [hc] at hc2
      injection hc2 with hc3
      exact absurd hc3 (by decide)
    have hea : e ≠ a := fun z => by
      obtain ⟨o2, ho2, hc2, _⟩ := hp
      rw [← z, show s.heap.get? e = _ from he] at ho2
      cases ho2
      injection hc2 with hc3
      exact absurd hc3 (by decide)
    have hlt : i < its.toArray.size := by
      have := (List.getElem?_eq_some_iff.mp hu).1
      simpa using this
    refine wpAny_pyNext_enum_itemD (Draws.tuple (A := X.A.in1) (show X.A.in1.handled = none from I.ok.hd hc) it a hia its.toArray) he ⟨hit, hp⟩ hlt hne (by simp [hne, hea]) fun u' h' tk hP ho hit' hT hsz hk => ?_
    have hu' : u' = u := by
      have hP : its.toArray[i]? = some u' := hP
      have : its[i]? = some u' := by simpa using hP
      rw [hu] at this; cases this; rfl
    subst hu'
    refine ⟨_, rfl, wpAny_letOwnedTupleGo_enum (s := { s with heap := h', toks := tk + 1 }) ho fun h'' he' sb => ?_⟩
    have hT2 : h''.get? s.heap.objs.size = some { cls := .type "tuple", data := .seq #[.int i tk, u'] } := (sb.2 _ (Nat.ne_of_gt hel)).trans hT
    have new : ObjOk X.prog X.w (upd H s.heap.objs.size (.tup [.int (i : Nat), x])) h'' s.heap.objs.size (.tup [.int (i : Nat), x]) :=
      ⟨by show 2 ≤ sizeLine; decide, [.int i tk, u'], .cons ⟨_, rfl⟩ (.cons ru .nil), ⟨_, hT2, rfl, _, rfl⟩⟩
    have I1 : Inv X pins σ (upd H s.heap.objs.size (.tup [.int (i : Nat), x])) { s with heap := h'', toks := tk + 1 } :=
      I.turnedNew (ch := [e, it]) (fun b ob hb q => (sb.2 b (fun z => hb (by simp [z]))).trans (hk b ob (fun z => hb (by simp [z])) (fun z => hb (by simp [z])) q)) hf (Nat.le_refl _) new
    refine ⟨.ref s.heap.objs.size, _, I1, rfl, ⟨_, x, rfl, I.hok.fresh (Nat.le_refl _), rfl, fun ys hy => by rw [I.tuple_inj hy hq]; exact hx⟩, ⟨⟨u', ?_⟩, hit'.1.at fun o q => (sb.2 it (Ne.symm hne)).trans q, hne⟩, fun b hb => ?_⟩
    · have e1 : ((i + 1 : Nat) : Int) = (i : Int) + 1 := by omega
      rw [e1]; exact he'
    · have hb' : b < s.heap.objs.size := by
        have e' : b = e ∨ b = it := by simpa using hb
        rcases e' with z | z
        · rw [z]; exact hel
        · rw [z]; exact hil
      rw [upd_ne (Nat.ne_of_lt hb')]
      exact (hf b hb).1
  done := by
    intro X hP hw hK hc i pins s σ H E I hf st hg
    subst hP hw hK
    obtain ⟨⟨old, he⟩, hit, hne⟩ := st
    obtain ⟨xs, hq, hx⟩ := hg
    obtain ⟨its, rv, p, hz⟩ := I.tuple hq
    obtain ⟨f0, f1, f2, f3, f4, f5⟩ := hf it (by simp)
    have hl := rv.length
    have hp : s.heap.IsTuple a its.toArray := p
    have hia : a ≠ it := fun z => by
      obtain ⟨o, ho, hc, _⟩ := hit
      obtain ⟨o2, ho2, hc2, _⟩ := hp
      rw [z, ho] at ho2
      cases ho2
      rw [hc] at hc2
      injection hc2 with hc3
      exact absurd hc3 (by decide)
    have hT : s.TypeIs (.ref e) "enumerate" := ⟨_, he, rfl⟩
    unfold pyNext
    refine wpAny_bind (wpAny_attempt (wpAny_callSpecial?_slot (name := Str.ofString "__next__") hT F.slot_enumerate_next
      (wpAny_call_entry F.slot_enumerate_next hT F.entry_enumerate_next ?_ (F.args_enumerate_next_1 _))))
    show wpAny _ _ (field (.ref e) 2 >>= _) _ _ _
    refine wpAny_bind (wpAny_field he rfl (x := .ref it) rfl ?_)
    refine wpAny_bind (wpAny_nextOf_tuple_end (I.ok.hd hc) hit hp (by simp; omega) fun h' x he' hx' => ?_)
    obtain ⟨o, ho, hc'⟩ := hx'
    refine wpAny_bind (wpAny_isInstance (T := "StopIteration") (b := true) ⟨o, ho, hc'⟩ isSubtype_stop ?_)
    exact wpAny_pure ⟨rfl, I.turned (t' := s.toks) (fun b o hb q => he' b o hb q) f0 f1 f3 f4 f5⟩
  self := fun A i s Q E st h => let ⟨⟨_, he⟩, _⟩ := st; wpAny_pyIter_enum he h
def iEnum2 (K : PySem.W.Frag) (ta : TA) : TI := fun σ H R => ta σ H fun vs H1 => ∃ a xs, vs = [.ref a] ∧ ((SqL K H1 a xs ∧ R (Ite K a) H1) ∨ (SqT K H1 a xs ∧ R (IteT K a) H1))
theorem pi_enum2 {X : Cx} {e : Expr} {ta : TA} {p pos tpos : Pos} {elts : List Expr} {kk : Nat} (hg : Gl X "enumerate") (hm : X.mg "enumerate" = none) (ha : PA X [e] ta) (hs : starEach [e] X.env = [(false, eval e X.env)] := by rfl) :
    PI X (.Tuple elts kk tpos) (.Call (.Name "enumerate" p) [e] [] pos) (iEnum2 X.K ta) := by
  refine ⟨fun pins s σ H R I h => ?_⟩
  refine Call_ (ld_blt I hg hm boot_enumerate (PyProof.Rows.callWith_type1 (thn (ha.run pos pins s σ H _ I h) fun us s1 ⟨vs, H1, I1, r1, q1⟩ => ?_) hs rfl))
  obtain ⟨a, xs, ex, hq⟩ := q1
  subst ex
  cases r1 with
  | cons r rr =>
    cases rr
    cases r
    rcases hq with ⟨hq, q⟩ | ⟨hq, q⟩
    · obtain ⟨its, rv, p', hz⟩ := I1.list hq
      refine call_enumerate_list p'.isList fun h' he hit hsz hk => wpAny_pyIter_enum he ?_
      have I2 : Inv X pins σ H1 { s1 with heap := h' } := I1.kept (t' := s1.toks) hk
      refine ⟨s1.heap.objs.size + 1, [s1.heap.objs.size + 1, s1.heap.objs.size], _, _, H1, rfl, I2, turn_enum a (s1.heap.objs.size + 1) s1.heap.objs.size, ⟨⟨.none, he⟩, hit, Nat.succ_ne_self _⟩, fun b hb => ?_, q⟩
      have e' : b = s1.heap.objs.size + 1 ∨ b = s1.heap.objs.size := by simpa using hb
      have hle : s1.heap.objs.size ≤ b := by
        rcases e' with z | z
        · rw [z]; exact Nat.le_add_right _ _
        · rw [z]; exact Nat.le_refl _
      exact I1.fpOk hle (I1.hok.fresh hle)
    · obtain ⟨its, rv, p', hz⟩ := I1.tuple hq
      refine call_enumerate_tuple (items := its.toArray) p' fun h' he hit hsz hk => wpAny_pyIter_enum he ?_
      have I2 : Inv X pins σ H1 { s1 with heap := h' } := I1.kept (t' := s1.toks) hk
      refine ⟨s1.heap.objs.size + 1, [s1.heap.objs.size + 1, s1.heap.objs.size], _, _, H1, rfl, I2, turn_enumT a (s1.heap.objs.size + 1) s1.heap.objs.size, ⟨⟨.none, he⟩, hit, Nat.succ_ne_self _⟩, fun b hb => ?_, q⟩
      have e' : b = s1.heap.objs.size + 1 ∨ b = s1.heap.objs.size := by simpa using hb
      have hle : s1.heap.objs.size ≤ b := by
        rcases e' with z | z
        · rw [z]; exact Nat.le_add_right _ _
        · rw [z]; exact Nat.le_refl _
      exact I1.fpOk hle (I1.hok.fresh hle)
end Fb
set_option Elab.async false
set_option linter.all false
set_option maxRecDepth 100000
set_option maxHeartbeats 1000000
/-! Fx6: x[::-1] of lists and tuples. -/
namespace Fb
open PySem PySem.Spec PyProof.Rows L2 HT
section
variable {prog : Program} {w : World} {A : Around} {E : Value → Shared → Prop} {s : Shared}
theorem sliceApplied_rev {sl : Addr} {vl vu vs : Value} {n : Nat} {Q : Int × Int × Nat → Shared → Prop} (hs : s.heap.IsSliceOf sl vl vu vs) (pl : IsPart vl none) (pu : IsPart vu none) (ps : IsPart vs (some (-1)))
    (h : Q ((n : Int) - 1, -1, n) s) : wpAny (model prog w) A (Builtin.Slice.sliceApplied (.ref sl) (pure (n : Int))) Q E s := by
  obtain ⟨os, hos, hcs, hds⟩ := id hs
  unfold Builtin.Slice.sliceApplied Builtin.Slice.sliceFields
  refine wpAny_bind (wpAny_bind (wpAny_field hos hds (x := vl) rfl (wpAny_bind (wpAny_field hos hds (x := vu) rfl (wpAny_bind (wpAny_field hos hds (x := vs) rfl (wpAny_pure ?_)))))))
  refine wpAny_bind (slicePart_ ps ?_)
  show wpAny _ _ (if ((-1 : Int) == 0) = true then _ else _) _ _ s
  rw [if_neg (by decide)]
  refine wpAny_bind (slicePart_ pl (wpAny_bind (slicePart_ pu (wpAny_bind (wpAny_pure ?_)))))
  show wpAny _ _ (pure ((n : Int) - 1, (-1 : Int), Builtin.Slice.slicePlaces ((n : Int) - 1) (-1) (-1))) _ _ s
  have e : Builtin.Slice.slicePlaces ((n : Int) - 1) (-1) (-1) = n := by
    unfold Builtin.Slice.slicePlaces
    rw [if_neg (by omega)]
    by_cases z : (n : Int) - 1 > -1
    · rw [if_pos z]
      show (((n : Int) - 1 - -1 - 1) / 1 + 1).toNat = n
      rw [Int.ediv_one]; omega
    · rw [if_neg z]; omega
  rw [e]
  exact wpAny_pure h
theorem pick_rev (xs : Array Value) : ((List.range xs.size).filterMap fun (m : Nat) => xs[((xs.size : Int) - 1 + (m : Int) * (-1)).toNat]?).toArray = xs.toList.reverse.toArray := by
  apply congrArg List.toArray
  have e : ∀ (l : List Value), ((List.range l.length).filterMap fun (m : Nat) => l[((l.length : Int) - 1 + (m : Int) * (-1)).toNat]?) = l.reverse := by
    intro l
    have h : (List.range l.length).map (fun (m : Nat) => l[((l.length : Int) - 1 + (m : Int) * (-1)).toNat]?) = l.reverse.map some := by
      apply List.ext_getElem
      · simp
      · intro i h1 h2
        have hi : i < l.length := by simpa using h1
        simp only [List.getElem_map, List.getElem_range, List.getElem_reverse]
        have : ((l.length : Int) - 1 + (i : Int) * (-1)).toNat = l.length - 1 - i := by omega
        rw [this, List.getElem?_eq_getElem (by omega)]
    calc (List.range l.length).filterMap (fun (m : Nat) => l[((l.length : Int) - 1 + (m : Int) * (-1)).toNat]?)
        = ((List.range l.length).map (fun (m : Nat) => l[((l.length : Int) - 1 + (m : Int) * (-1)).toNat]?)).filterMap id := by rw [List.filterMap_map]; rfl
      _ = l.reverse := by rw [h, List.filterMap_map]; simp
  obtain ⟨l⟩ := xs
  simpa using e l
theorem getItem_tuple_rev {t sl : Addr} {items : Array Value} {vl vu vs : Value} {Q : Value → Shared → Prop} (ht : IsTup s.heap t items) (hs : s.heap.IsSliceOf sl vl vu vs) (pl : IsPart vl none) (pu : IsPart vu none) (ps : IsPart vs (some (-1)))
    (h : Q (.ref s.heap.objs.size) { s with heap := s.heap.push { cls := .type "tuple", data := .seq items.toList.reverse.toArray } }) (hsz : items.size ≤ sizeLine) : wpAny (model prog w) A (getItem (.ref t) (.ref sl)) Q E s := by
  have htake : sizeOk (.seq items.toList.reverse.toArray) := by
    show items.toList.reverse.toArray.size ≤ sizeLine
    simpa using hsz
  obtain ⟨os, hos, hcs, hds⟩ := id hs
  have hTs : s.TypeIs (.ref sl) "slice" := ⟨os, hos, hcs⟩
  unfold getItem
  try with_reducible refine wpAny_holding ?_
  first | refine wpAny_bind (wpAny_pure ?_) | skip
  refine wpAny_bind (wpAny_sequenceKey ht.typeIs (by decide) ?_)
  refine wpAny_bind (wpAny_callSpecial?_slot (name := Str.ofString "__getitem__") ht.typeIs PyProof.Rows.slot_tuple_getitem
    (wpAny_call_entry PyProof.Rows.slot_tuple_getitem ht.typeIs entry_tuple_getitem ?_ (args_tuple_getitem _ _)))
  show wpAny _ _ (Builtin.Tuple.tupleItemsOf (.ref t) >>= _) _ _ s
  refine wpAny_bind (tupleItemsOf_ ht ?_)
  refine wpAny_bind (wpAny_typeOf hTs ?_)
  rw [if_pos (by decide)]
  refine wpAny_bind (sliceApplied_rev hs pl pu ps ?_)
  have hno : ¬ (((((items.size : Nat) : Int) - 1) == 0 && (-1 : Int) == 1 && items.size == items.size) = true) := by simp
  show wpAny _ _ (if ((((items.size : Nat) : Int) - 1) == 0 && (-1 : Int) == 1 && items.size == items.size) = true then _ else _) _ _ s
  rw [if_neg hno, pick_rev]
  exact wpAny_bind (m := Builtin.Tuple.tupleExact _) (wpAny_newObj_type (wpAny_pure ⟨_, rfl, wpAny_pure h⟩) htake)
end
def tRev2 (K : PySem.W.Frag) (te : TE) : TE := fun σ H Q => te σ H fun x H1 => ∃ a xs, x = .ref a ∧ ((SqL K H1 a xs ∧ ∀ p, H1 p = none → Q (.ref p) (upd H1 p (.lst xs.reverse))) ∨ (SqT K H1 a xs ∧ ∀ p, H1 p = none → Q (.ref p) (upd H1 p (.tup xs.reverse))))
section
variable {X : Cx}
theorem pe_rev2 {e : Expr} {te : TE} {k : Nat} {p1 p2 p3 pos : Pos} (he : PE X e te) : PE X (.Subscript e (.Slice none none (some (.UnaryOp .USub (.Constant (.int 1) k p1) p2)) p3) pos) (tRev2 X.K te) := by
  refine ⟨fun pins s σ H Q I h => ?_⟩
  refine Subscript_ (thn (he.run pins s σ H _ I h) fun v s1 ⟨x, H1, I1, r1, q1⟩ => ?_)
  obtain ⟨a, xs, ex, hq⟩ := q1
  subst ex
  cases r1
  have hst : PO X (some (.UnaryOp .USub (.Constant (.int 1) k p1) p2)) (tPart (tUn (rU fun i => .int (-i)) (tC (.int 1)))) := po_some (pe_un un_neg pe_int)
  refine wpAny_Slice (thn (po_none.run pins s1 σ H1 (fun o H2 => o = none ∧ H2 = H1) I1 ⟨rfl, rfl⟩) fun vl s2 ⟨l, H2, I2, pl, el, e2⟩ => ?_)
  subst el e2
  refine thn (po_none.run pins s2 σ H2 (fun o H3 => o = none ∧ H3 = H2) I2 ⟨rfl, rfl⟩) fun vu s3 ⟨u, H3, I3, pu, eu, e3⟩ => ?_
  subst eu e3
  refine thn (hst.run pins s3 σ H3 (fun o H4 => o = some (-1) ∧ H4 = H3) I3 ⟨1, rfl, -1, rfl, rfl, rfl⟩) fun vs s4 ⟨o, H4, I4, ps, eo, e4⟩ => ?_
  subst eo e4
  have I5 : Inv X pins σ H4 { s4 with heap := s4.heap.push { cls := .type "slice", data := .fields #[vl, vu, vs] } } := I4.kept (t' := s4.toks) fun b ob q => Heap.get?_push_of_some _ q
  show wpAny (model X.prog X.w) X.A (subscriptTail e (.Slice none none (some (.UnaryOp .USub (.Constant (.int 1) k p1) p2)) p3) (.ref a) (.ref s4.heap.objs.size)) (EP X pins σ Q) X.xe { s4 with heap := s4.heap.push { cls := .type "slice", data := .fields #[vl, vu, vs] } }
  rcases hq with ⟨hx, q⟩ | ⟨hx, q⟩
  · obtain ⟨its, r, ht, hz⟩ := I5.list hx
    have hlen := r.length
    refine tail_any (ops := [.ref a, .ref s4.heap.objs.size]) ht.isList.typeIs (PySem.slot_list_getitem.lookup) ?_ (by with_unfolding_all rfl)
    refine wpAny_getItem_list_slice ht.isList (Heap.IsSliceOf.new _ vl vu vs) pl pu ps (by decide) ?_ (by rw [List.size_toArray]; omega)
    rw [PySem.W.krv_pick]
    refine ⟨.ref _, _, I5.laid (t' := s4.toks) (o := .lst xs.reverse) (fun b ob q => Heap.get?_push_of_some _ q) (Nat.le_refl _) ?_, rfl, q _ (I5.hok.fresh (Nat.le_refl _))⟩
    exact ⟨by rw [List.length_reverse]; exact hz, _, 0, r.reverse, Heap.get?_push_size _ rfl⟩
  · obtain ⟨its, r, ht, hz⟩ := I5.tuple hx
    have hlen := r.length
    refine tail_any (ops := [.ref a, .ref s4.heap.objs.size]) ht.typeIs (PyProof.Rows.slot_tuple_getitem.lookup) ?_ (by with_unfolding_all rfl)
    refine getItem_tuple_rev ht (Heap.IsSliceOf.new _ vl vu vs) pl pu ps ?_ (by rw [List.size_toArray]; omega)
    refine ⟨.ref _, _, I5.laid (t' := s4.toks) (o := .tup xs.reverse) (fun b ob q => Heap.get?_push_of_some _ q) (Nat.le_refl _) ?_, rfl, q _ (I5.hok.fresh (Nat.le_refl _))⟩
    exact ⟨by rw [List.length_reverse]; exact hz, _, r.reverse, IsTup.new _ _⟩
end
end Fb
set_option Elab.async false
set_option linter.all false
set_option maxRecDepth 100000
set_option maxHeartbeats 1000000
/-! Fb2: how plain data lie in the layer's heap; how heaps grow. -/
namespace Fb
open PySem PySem.Spec PyProof.Rows L2
abbrev SO (x : List Nat) : Str := ⟨x.toArray⟩
theorem SO_inj {x y : List Nat} (h : SO x = SO y) : x = y := by
  have := congrArg (fun z : Str => z.cps.toList) h
  simpa using this
theorem SO_len (x : List Nat) : (SO x).length = x.length := by simp [SO, Str.length]
abbrev Fg := PySem.W.Frag
/-- a tuple, a list of the written part -/
def KT (K : Fg) (a : Addr) (vs : List V) : Prop :=
  ∃ (o : Obj) (its : Array Value) (n : Nat), K.lookup a = some o ∧ o.cls = .type "tuple" ∧ o.data = .seq its n ∧ its.size ≤ sizeLine ∧ Vals vs its.toList
def KL (K : Fg) (a : Addr) (vs : List V) : Prop :=
  ∃ (o : Obj) (its : Array Value) (n : Nat), K.lookup a = some o ∧ o.cls = .type "list" ∧ o.dict = none ∧ o.data = .seq its n ∧ its.size ≤ sizeLine ∧ Vals vs its.toList
def QT (K : Fg) (m : List Addr) (H : Hp) (a : Addr) (vs : List V) : Prop := (Rd H a (.tup vs) ∧ a ∉ m) ∨ KT K a vs
def QL (B m : List Addr) (H : Hp) (a : Addr) (vs : List V) : Prop := H a = some (.lst vs) ∧ a ∉ B ∧ a ∉ m
def QR (K : Fg) (B m : List Addr) (H : Hp) (a : Addr) (vs : List V) : Prop := (Rd H a (.lst vs) ∧ a ∉ B ∧ a ∉ m) ∨ KL K a vs
theorem QT.sq {K : Fg} {m : List Addr} {H : Hp} {a : Addr} {vs : List V} (h : QT K m H a vs) : SqT K H a vs := h.imp (·.1) id
theorem QL.sq {K : Fg} {B m : List Addr} {H : Hp} {a : Addr} {vs : List V} (h : QL B m H a vs) : SqL K H a vs := SqL.of h.1
theorem QR.sq {K : Fg} {B m : List Addr} {H : Hp} {a : Addr} {vs : List V} (h : QR K B m H a vs) : SqL K H a vs := h.imp (·.1) id
/-- signs as Python has them -/
def okS (x : List Nat) : Bool := x.all fun c => decide (c < 1114112)
theorem okS_app {x y : List Nat} (h : okS x = true) (k : okS y = true) : okS (x ++ y) = true := by unfold okS at *; rw [List.all_append, h, k]; rfl
theorem okS_sub {x y : List Nat} (h : okS x = true) (k : ∀ c ∈ y, c ∈ x) : okS y = true := List.all_eq_true.mpr fun c hc => List.all_eq_true.mp h c (k c hc)
mutual
inductive RelD (K : Fg) (B m : List Addr) (H : Hp) : D → V → Prop
  | non : RelD K B m H .non .non
  | bl (b : Bool) : RelD K B m H (.bl b) (.bl b)
  | int (i : Int) : RelD K B m H (.int i) (.int i)
  | str (x : List Nat) : okS x = true → RelD K B m H (.str x) (.str (SO x))
  | tup {ds : List D} {a : Addr} {vs : List V} : QT K m H a vs → RelDs K B m H ds vs → RelD K B m H (.tup ds) (.ref a)
  | lst {ds : List D} {a : Addr} {vs : List V} : QL B m H a vs → RelDs K B m H ds vs → RelD K B m H (.lst ds) (.ref a)
  | ro {ds : List D} {a : Addr} {vs : List V} : QR K B m H a vs → RelDs K B m H ds vs → RelD K B m H (.ro ds) (.ref a)
  | cell {n : Nat} {a : Addr} : m[n]? = some a → RelD K B m H (.cell n) (.ref a)
inductive RelDs (K : Fg) (B m : List Addr) (H : Hp) : List D → List V → Prop
  | nil : RelDs K B m H [] []
  | cons {d : D} {v : V} {ds : List D} {vs : List V} : RelD K B m H d v → RelDs K B m H ds vs → RelDs K B m H (d :: ds) (v :: vs)
end
section
variable {K : Fg} {B B' m m' m'' : List Addr} {H H' H'' : Hp} {S S' S'' : Store}
/-- transport along what is kept -/
structure Tr (K : Fg) (B m B' m' : List Addr) (H H' : Hp) : Prop where
  tup : ∀ (a : Addr) (vs : List V), Rd H a (.tup vs) → a ∉ m → Rd H' a (.tup vs) ∧ a ∉ m'
  obj : ∀ (a : Addr) (u : HO), H a = some u → a ∉ B → a ∉ m → H' a = some u ∧ a ∉ B' ∧ a ∉ m'
  cell : ∀ (n : Nat) (a : Addr), m[n]? = some a → m'[n]? = some a
theorem Tr.rd (t : Tr K B m B' m' H H') {a : Addr} {u : HO} (h : Rd H a u) (hb : a ∉ B) (hm : a ∉ m) : Rd H' a u ∧ a ∉ B' ∧ a ∉ m' := by
  rcases h with h | ⟨o, h⟩
  · obtain ⟨h1, h2⟩ := t.obj a _ h hb hm
    exact ⟨.inl h1, h2⟩
  · obtain ⟨h1, h2⟩ := t.obj a _ h hb hm
    exact ⟨.inr ⟨o, h1⟩, h2⟩
mutual
theorem RelD.tr (t : Tr K B m B' m' H H') : ∀ {d : D} {v : V}, RelD K B m H d v → RelD K B' m' H' d v
  | _, _, .non => .non
  | _, _, .bl b => .bl b
  | _, _, .int i => .int i
  | _, _, .str x h => .str x h
  | _, _, .tup q r => .tup (q.imp (fun h => t.tup _ _ h.1 h.2) id) (RelDs.tr t r)
  | _, _, .lst q r => .lst (t.obj _ _ q.1 q.2.1 q.2.2) (RelDs.tr t r)
  | _, _, .ro q r => .ro (q.imp (fun h => t.rd h.1 h.2.1 h.2.2) id) (RelDs.tr t r)
  | _, _, .cell e => .cell (t.cell _ _ e)
theorem RelDs.tr (t : Tr K B m B' m' H H') : ∀ {ds : List D} {vs : List V}, RelDs K B m H ds vs → RelDs K B' m' H' ds vs
  | _, _, .nil => .nil
  | _, _, .cons r s => .cons (RelD.tr t r) (RelDs.tr t s)
end
theorem RelDs.len : ∀ {ds : List D} {vs : List V}, RelDs K B m H ds vs → ds.length = vs.length
  | _, _, .nil => rfl
  | _, _, .cons _ s => by rw [List.length_cons, List.length_cons, s.len]
theorem RelDs.app : ∀ {ds es : List D} {vs us : List V}, RelDs K B m H ds vs → RelDs K B m H es us → RelDs K B m H (ds ++ es) (vs ++ us)
  | _, _, _, _, .nil, t => t
  | _, _, _, _, .cons r s, t => .cons r (s.app t)
theorem RelDs.get : ∀ {ds : List D} {vs : List V} {i : Nat} {d : D}, RelDs K B m H ds vs → ds[i]? = some d → ∃ v, vs[i]? = some v ∧ RelD K B m H d v
  | _, _, _, _, .nil, e => by simp at e
  | _, _, 0, _, .cons r _, e => by simp at e; subst e; exact ⟨_, rfl, r⟩
  | _, _, i + 1, d, .cons _ s, e => by
    obtain ⟨v, h1, h2⟩ := s.get (i := i) (d := d) (by simpa using e)
    exact ⟨v, by simpa using h1, h2⟩
theorem RelDs.getV : ∀ {ds : List D} {vs : List V} {i : Nat} {v : V}, RelDs K B m H ds vs → vs[i]? = some v → ∃ d, ds[i]? = some d ∧ RelD K B m H d v
  | _, _, _, _, .nil, e => by simp at e
  | _, _, 0, _, .cons r _, e => by simp at e; subst e; exact ⟨_, rfl, r⟩
  | _, _, i + 1, d, .cons _ s, e => by
    obtain ⟨v, h1, h2⟩ := s.getV (i := i) (v := d) (by simpa using e)
    exact ⟨v, by simpa using h1, h2⟩
theorem RelDs.take : ∀ {ds : List D} {vs : List V} (n : Nat), RelDs K B m H ds vs → RelDs K B m H (ds.take n) (vs.take n)
  | _, _, 0, _ => .nil
  | _, _, _ + 1, .nil => .nil
  | _, _, n + 1, .cons r s => .cons r (s.take n)
theorem RelDs.drop : ∀ {ds : List D} {vs : List V} (n : Nat), RelDs K B m H ds vs → RelDs K B m H (ds.drop n) (vs.drop n)
  | _, _, 0, r => r
  | _, _, _ + 1, .nil => .nil
  | _, _, n + 1, .cons _ s => s.drop n
theorem RelDs.rev : ∀ {ds : List D} {vs : List V}, RelDs K B m H ds vs → RelDs K B m H ds.reverse vs.reverse
  | _, _, .nil => .nil
  | _, _, .cons r s => by rw [List.reverse_cons, List.reverse_cons]; exact s.rev.app (.cons r .nil)
theorem RelDs.rep {ds : List D} {vs : List V} (r : RelDs K B m H ds vs) : ∀ n : Nat, RelDs K B m H (List.replicate n ds).flatten (List.replicate n vs).flatten
  | 0 => .nil
  | n + 1 => by rw [List.replicate_succ, List.replicate_succ, List.flatten_cons, List.flatten_cons]; exact r.app (r.rep n)
theorem RelDs.setAt : ∀ {ds : List D} {vs : List V} {d : D} {v : V} (n : Nat), RelDs K B m H ds vs → RelD K B m H d v → RelDs K B m H (ds.set n d) (vs.set n v)
  | _, _, _, _, _, .nil, _ => .nil
  | _, _, _, _, 0, .cons _ s, q => .cons q s
  | _, _, _, _, n + 1, .cons r s, q => .cons r (s.setAt n q)
theorem RelDs.dropLast : ∀ {ds : List D} {vs : List V}, RelDs K B m H ds vs → RelDs K B m H ds.dropLast vs.dropLast
  | ds, vs, h => by
    rw [List.dropLast_eq_take, List.dropLast_eq_take, h.len]
    exact h.take _
theorem RelDs.erase : ∀ {ds : List D} {vs : List V} (n : Nat), RelDs K B m H ds vs → RelDs K B m H (ds.eraseIdx n) (vs.eraseIdx n)
  | _, _, _, .nil => .nil
  | _, _, 0, .cons _ s => s
  | _, _, n + 1, .cons r s => .cons r (s.erase n)

/-! ### the store -/
def CRel (K : Fg) (B m : List Addr) (H : Hp) : Cell → Addr → Prop
  | .lst ds, a => ∃ vs, H a = some (.lst vs) ∧ RelDs K B m H ds vs
structure At (K : Fg) (B m : List Addr) (S : Store) (H : Hp) : Prop where
  len : S.length = m.length
  nd : (B ++ m).Nodup
  live : ∀ a ∈ B, H a ≠ none
  cells : ∀ (i : Nat) (c : Cell) (a : Addr), S[i]? = some c → m[i]? = some a → CRel K B m H c a
theorem At.mlive (t : At K B m S H) {a : Addr} (h : a ∈ m) : ∃ vs, H a = some (.lst vs) := by
  obtain ⟨i, hi, e⟩ := List.getElem_of_mem h
  have hs : i < S.length := by rw [t.len]; exact hi
  have q := t.cells i S[i] a (List.getElem?_eq_getElem hs) (by rw [List.getElem?_eq_getElem hi, e])
  cases hc : S[i] with
  | lst ds =>
    rw [hc] at q
    obtain ⟨vs, h1, _⟩ := q
    exact ⟨vs, h1⟩
theorem At.fresh (t : At K B m S H) {a : Addr} (h : H a = none) : a ∉ B ∧ a ∉ m := by
  refine ⟨fun hb => t.live a hb h, fun hm => ?_⟩
  obtain ⟨vs, e⟩ := t.mlive hm
  rw [h] at e
  cases e
theorem At.apart (t : At K B m S H) {a : Addr} (h : a ∈ B) : a ∉ m := fun hm => (List.nodup_append.mp t.nd).2.2 a h a hm rfl
/-- how the heap and the cells' places go on -/
structure Le (m m' : List Addr) (H H' : Hp) : Prop where
  pre : ∃ r, m' = m ++ r ∧ ∀ a ∈ r, H a = none
  keep : ∀ (a : Addr) (o : HO), H a = some o → a ∉ m → H' a = some o
theorem Le.refl : Le m m H H := ⟨⟨[], by simp, fun _ h => by cases h⟩, fun _ _ e _ => e⟩
theorem Le.trans (t : At K B m S H) (t' : At K B m' S' H') (x : Le m m' H H') (y : Le m' m'' H' H'') : Le m m'' H H'' := by
  obtain ⟨r, e, hr⟩ := x.pre
  obtain ⟨r', e', hr'⟩ := y.pre
  refine ⟨⟨r ++ r', by rw [e', e, List.append_assoc], fun a ha => ?_⟩, fun a o ho ha => ?_⟩
  · rcases List.mem_append.mp ha with h | h
    · exact hr a h
    · cases q : H a with
      | none => rfl
      | some o =>
        have n := hr' a h
        by_cases hm : a ∈ m
        · obtain ⟨vs, e2⟩ := t'.mlive (a := a) (by rw [e]; exact List.mem_append_left _ hm)
          rw [n] at e2; cases e2
        · rw [x.keep a o q hm] at n; cases n
  · refine y.keep a o (x.keep a o ho ha) fun h => ?_
    rw [e] at h
    rcases List.mem_append.mp h with h | h
    · exact ha h
    · rw [hr a h] at ho; cases ho
theorem Le.tr (t : At K B m S H) (x : Le m m' H H') : Tr K B m B m' H H' := by
  obtain ⟨r, e, hr⟩ := x.pre
  have nr : ∀ {a : Addr} {u : HO}, Rd H a u → a ∉ r := fun {a u} h z => by
    rcases h with h | ⟨o, h⟩ <;> rw [hr _ z] at h <;> cases h
  have kp : ∀ {a : Addr} {u : HO}, Rd H a u → a ∉ m → Rd H' a u := fun {a u} h hm => by
    rcases h with h | ⟨o, h⟩
    · exact .inl (x.keep _ _ h hm)
    · exact .inr ⟨o, x.keep _ _ h hm⟩
  refine ⟨fun a vs h hm => ⟨kp h hm, fun z => ?_⟩, fun a u h hb hm => ⟨x.keep a u h hm, hb, fun z => ?_⟩, fun n a h => ?_⟩
  · rw [e] at z
    exact (List.mem_append.mp z).elim hm (nr h)
  · rw [e] at z
    exact (List.mem_append.mp z).elim hm (nr (.inl h))
  · rw [e]
    exact (List.getElem?_append_left (List.getElem?_eq_some_iff.mp h).1).trans h
theorem Le.live (t' : At K B m' S' H') (x : Le m m' H H') {a : Addr} (h : H a ≠ none) : H' a ≠ none := by
  obtain ⟨r, e, hr⟩ := x.pre
  intro n
  by_cases hm : a ∈ m
  · obtain ⟨vs, e2⟩ := t'.mlive (a := a) (by rw [e]; exact List.mem_append_left _ hm)
    rw [n] at e2; cases e2
  · cases q : H a with
    | none => exact h q
    | some o => rw [x.keep a o q hm] at n; cases n
/-- a new object that is no cell -/
theorem Le.new (t : At K B m S H) {p : Addr} {o : HO} (h : H p = none) : Le m m H (upd H p o) := ⟨⟨[], by simp, fun _ z => by cases z⟩, fun a u e _ => by rw [upd_ne (ne_of_none e h)]; exact e⟩
theorem At.new (t : At K B m S H) {p : Addr} {o : HO} (h : H p = none) : At K B m S (upd H p o) := by
  have x : Le m m H (upd H p o) := Le.new t h
  have f := t.fresh h
  refine ⟨t.len, t.nd, fun a ha => ?_, fun i c a hc ha => ?_⟩
  · rw [upd_ne (fun z => f.1 (by rw [← z]; exact ha))]; exact t.live a ha
  · have q := t.cells i c a hc ha
    cases c with
    | lst ds =>
      obtain ⟨vs, e, r⟩ := q
      refine ⟨vs, ?_, r.tr (x.tr t)⟩
      rw [upd_ne (ne_of_none e h)]; exact e
/-- a new cell -/
theorem Le.grow (t : At K B m S H) {p : Addr} {o : HO} (h : H p = none) : Le m (m ++ [p]) H (upd H p o) :=
  ⟨⟨[p], rfl, fun a ha => by rw [List.mem_singleton.mp ha]; exact h⟩, fun a u e _ => by rw [upd_ne (ne_of_none e h)]; exact e⟩
theorem At.grow (t : At K B m S H) {p : Addr} {ds : List D} {vs : List V} (h : H p = none) (r : RelDs K B m H ds vs) : At K B (m ++ [p]) (S ++ [.lst ds]) (upd H p (.lst vs)) := by
  have x : Le m (m ++ [p]) H (upd H p (.lst vs)) := Le.grow t h
  have f := t.fresh h
  refine ⟨by simp [t.len], ?_, fun a ha => ?_, fun i c a hc ha => ?_⟩
  · rw [← List.append_assoc]
    refine List.nodup_append.mpr ⟨t.nd, by simp, fun a ha b hb e => ?_⟩
    rw [List.mem_singleton.mp hb] at e
    rw [e] at ha
    exact (List.mem_append.mp ha).elim f.1 f.2
  · rw [upd_ne (fun z => f.1 (by rw [← z]; exact ha))]; exact t.live a ha
  · by_cases hi : i < S.length
    · rw [List.getElem?_append_left hi] at hc
      rw [List.getElem?_append_left (by rw [← t.len]; exact hi)] at ha
      have q := t.cells i c a hc ha
      cases c with
      | lst ds' =>
        obtain ⟨vs', e, r'⟩ := q
        refine ⟨vs', ?_, r'.tr (x.tr t)⟩
        rw [upd_ne (ne_of_none e h)]; exact e
    · have hl : i = S.length := by
        have := (List.getElem?_eq_some_iff.mp hc).1
        simp at this
        omega
      subst hl
      rw [List.getElem?_append_right (Nat.le_refl _)] at hc
      rw [t.len, List.getElem?_append_right (Nat.le_refl _)] at ha
      simp at hc ha
      subst hc; subst ha
      exact ⟨vs, upd_same, r.tr (x.tr t)⟩
/-- a cell is written -/
theorem Le.put (t : At K B m S H) {n : Nat} {p : Addr} {o : HO} (hp : m[n]? = some p) : Le m m H (upd H p o) :=
  ⟨⟨[], by simp, fun _ z => by cases z⟩, fun a u e ha => by rw [upd_ne (fun z => ha (by rw [z]; exact List.mem_of_getElem? hp))]; exact e⟩
theorem At.put (t : At K B m S H) {n : Nat} {p : Addr} {ds : List D} {vs : List V} (hp : m[n]? = some p) (r : RelDs K B m H ds vs) : At K B m (S.set n (.lst ds)) (upd H p (.lst vs)) := by
  have x : Le m m H (upd H p (.lst vs)) := Le.put t hp
  have hm := List.mem_of_getElem? hp
  refine ⟨by simp [t.len], t.nd, fun a ha => ?_, fun i c a hc ha => ?_⟩
  · rw [upd_ne (fun z => t.apart ha (by rw [z]; exact hm))]; exact t.live a ha
  · by_cases hi : n = i
    · subst hi
      rw [hp] at ha
      cases ha
      rw [List.getElem?_set_self (by have := (List.getElem?_eq_some_iff.mp hp).1; rw [t.len]; exact this)] at hc
      cases hc
      exact ⟨vs, upd_same, r.tr (x.tr t)⟩
    · rw [List.getElem?_set_ne hi] at hc
      have hne : a ≠ p := fun e => hi (by
        subst e
        have nd := (List.nodup_append.mp t.nd).2.1
        obtain ⟨h1, e1⟩ := List.getElem?_eq_some_iff.mp hp
        obtain ⟨h2, e2⟩ := List.getElem?_eq_some_iff.mp ha
        exact (List.getElem_inj nd).mp (e1.trans e2.symm))
      have q := t.cells i c a hc ha
      cases c with
      | lst ds' =>
        obtain ⟨vs', e, r'⟩ := q
        exact ⟨vs', by rw [upd_ne hne]; exact e, r'.tr (x.tr t)⟩

/-! ### reading a relation -/
theorem RelD.str_of {x : List Nat} {v : V} (h : RelD K B m H (.str x) v) : v = .str (SO x) := by cases h; rfl
theorem RelD.str_ok {x : List Nat} {v : V} (h : RelD K B m H (.str x) v) : okS x = true := by cases h; assumption
theorem RelD.int_of {x : Int} {v : V} (h : RelD K B m H (.int x) v) : v = .int x := by cases h; rfl
theorem RelD.bl_of {x : Bool} {v : V} (h : RelD K B m H (.bl x) v) : v = .bl x := by cases h; rfl
theorem RelD.non_of {v : V} (h : RelD K B m H .non v) : v = .non := by cases h; rfl
theorem RelD.tup_of {ds : List D} {v : V} (h : RelD K B m H (.tup ds) v) : ∃ a vs, v = .ref a ∧ SqT K H a vs ∧ RelDs K B m H ds vs := by
  cases h with
  | tup q r => exact ⟨_, _, rfl, q.sq, r⟩
theorem RelD.cell_of {n : Nat} {v : V} (h : RelD K B m H (.cell n) v) : ∃ a, v = .ref a ∧ m[n]? = some a := by
  cases h with
  | cell e => exact ⟨_, rfl, e⟩
/-- a list in either mode -/
theorem RelD.lst_of (t : At K B m S H) {d : D} {xs : List D} {v : V} (h : RelD K B m H d v) (e : lstOf S d = some xs) : ∃ a vs, v = .ref a ∧ SqL K H a vs ∧ RelDs K B m H xs vs := by
  cases h with
  | lst q r =>
    cases e
    exact ⟨_, _, rfl, q.sq, r⟩
  | ro q r =>
    cases e
    exact ⟨_, _, rfl, q.sq, r⟩
  | @cell n a e1 =>
    have e2 : (match S[n]? with
      | some (.lst xs) => some xs
      | none => none) = some xs := e
    cases q : S[n]? with
    | none => rw [q] at e2; cases e2
    | some c =>
      cases c with
      | lst ys =>
        rw [q] at e2
        cases e2
        obtain ⟨vs, h1, r⟩ := t.cells n _ a q e1
        exact ⟨a, vs, rfl, SqL.of h1, r⟩
  | _ => cases e
theorem RelD.own_of (t : At K B m S H) {d : D} {xs : List D} {v : V} (h : RelD K B m H d v) (e : ownOf S d = some xs) : ∃ a vs, v = .ref a ∧ H a = some (.lst vs) ∧ RelDs K B m H xs vs := by
  cases h with
  | lst q r =>
    cases e
    exact ⟨_, _, rfl, q.1, r⟩
  | @cell n a e1 =>
    have e2 : (match S[n]? with
      | some (.lst xs) => some xs
      | none => none) = some xs := e
    cases q : S[n]? with
    | none => rw [q] at e2; cases e2
    | some c =>
      cases c with
      | lst ys =>
        rw [q] at e2
        cases e2
        obtain ⟨vs, h1, r⟩ := t.cells n _ a q e1
        exact ⟨a, vs, rfl, h1, r⟩
  | _ => cases e
theorem RelD.seq_of (t : At K B m S H) {d : D} {xs : List D} {v : V} (h : RelD K B m H d v) (e : seqOf S d = some xs) : ∃ a vs, v = .ref a ∧ (SqL K H a vs ∨ SqT K H a vs) ∧ RelDs K B m H xs vs := by
  cases d with
  | tup ys =>
    cases e
    obtain ⟨a, vs, h1, h2, h3⟩ := h.tup_of
    exact ⟨a, vs, h1, .inr h2, h3⟩
  | lst ys =>
    obtain ⟨a, vs, h1, h2, h3⟩ := h.lst_of t (xs := xs) e
    exact ⟨a, vs, h1, .inl h2, h3⟩
  | ro ys =>
    obtain ⟨a, vs, h1, h2, h3⟩ := h.lst_of t (xs := xs) e
    exact ⟨a, vs, h1, .inl h2, h3⟩
  | cell n =>
    obtain ⟨a, vs, h1, h2, h3⟩ := h.lst_of t (xs := xs) e
    exact ⟨a, vs, h1, .inl h2, h3⟩
  | _ => cases e
theorem RelD.new_tup (t : At K B m S H) {p : Addr} {ds : List D} {vs : List V} (h : H p = none) (r : RelDs K B m H ds vs) : RelD K B m (upd H p (.tup vs)) (.tup ds) (.ref p) :=
  .tup (.inl ⟨.inl upd_same, (t.fresh h).2⟩) (r.tr ((Le.new t h).tr t))
theorem RelD.new_lst (t : At K B m S H) {p : Addr} {ds : List D} {vs : List V} (h : H p = none) (r : RelDs K B m H ds vs) : RelD K B m (upd H p (.lst vs)) (.lst ds) (.ref p) :=
  .lst ⟨upd_same, (t.fresh h).1, (t.fresh h).2⟩ (r.tr ((Le.new t h).tr t))

/-! ### slots -/
def RelE (K : Fg) (B m : List Addr) (H : Hp) (δ : Ev) (σ : L2.St) : Prop := δ.length = σ.length ∧ ∀ (i : Nat) (d : D), δ[i]? = some (some d) → ∃ v, σ[i]? = some (some v) ∧ RelD K B m H d v
theorem RelE.tr {δ : Ev} {σ : L2.St} (r : RelE K B m H δ σ) (t : Tr K B m B' m' H H') : RelE K B' m' H' δ σ := ⟨r.1, fun i d e => let ⟨v, h1, h2⟩ := r.2 i d e; ⟨v, h1, h2.tr t⟩⟩
theorem RelE.set {δ : Ev} {σ : L2.St} (r : RelE K B m H δ σ) {d : D} {v : V} (q : RelD K B m H d v) (i : Nat) : RelE K B m H (δ.set i (some d)) (σ.set i (some v)) := by
  refine ⟨by simp [r.1], fun j e hj => ?_⟩
  by_cases hi : i = j
  · subst hi
    by_cases hl : i < δ.length
    · rw [List.getElem?_set_self hl] at hj
      cases hj
      exact ⟨v, List.getElem?_set_self (by rw [← r.1]; exact hl), q⟩
    · rw [List.getElem?_eq_none (by simpa using hl)] at hj
      cases hj
  · rw [List.getElem?_set_ne hi] at hj
    obtain ⟨u, h1, h2⟩ := r.2 j e hj
    exact ⟨u, by rw [List.getElem?_set_ne hi]; exact h1, h2⟩
theorem RelE.unset {δ : Ev} {σ : L2.St} (r : RelE K B m H δ σ) (i : Nat) : RelE K B m H (δ.set i none) (σ.set i none) := by
  refine ⟨by simp [r.1], fun j e hj => ?_⟩
  by_cases hi : i = j
  · subst hi
    by_cases hl : i < δ.length
    · rw [List.getElem?_set_self hl] at hj
      cases hj
    · rw [List.getElem?_eq_none (by simpa using hl)] at hj
      cases hj
  · rw [List.getElem?_set_ne hi] at hj
    obtain ⟨u, h1, h2⟩ := r.2 j e hj
    exact ⟨u, by rw [List.getElem?_set_ne hi]; exact h1, h2⟩
theorem RelE.wipe {δ : Ev} {σ : L2.St} (r : RelE K B m H δ σ) : ∀ vs : List Nat, RelE K B m H (wipeE δ vs) (wipe σ vs)
  | [] => r
  | v :: vs => (r.wipe vs).unset v
theorem join_some {δ : Ev} {i : Nat} {d : D} (h : δ[i]?.join = some d) : δ[i]? = some (some d) := by
  cases e : δ[i]? with
  | none => rw [e] at h; cases h
  | some o => rw [e] at h; exact congrArg some h
theorem start_rel {ds : List D} {vs : List V} (r : RelDs K B m H ds vs) {N : List Str} : RelE K B m H (ds.map some ++ List.replicate (N.length - ds.length) none) (L2.start N vs) := by
  unfold L2.start
  refine ⟨by simp [r.len], fun i d e => ?_⟩
  by_cases hi : i < ds.length
  · rw [List.getElem?_append_left (by simpa using hi), List.getElem?_map] at e
    cases q : ds[i]? with
    | none => rw [q] at e; cases e
    | some d' =>
      rw [q] at e
      cases e
      obtain ⟨v, h1, h2⟩ := r.get q
      refine ⟨v, ?_, h2⟩
      rw [List.getElem?_append_left (by have := r.len; simp; omega), List.getElem?_map, h1]
      rfl
  · rw [List.getElem?_append_right (by simpa using hi), List.getElem?_replicate] at e
    split at e <;> cases e
end
end Fb
set_option Elab.async false
set_option linter.all false
set_option maxRecDepth 100000
set_option maxHeartbeats 1000000
/-! Fb3: what the evaluator's answers ask of the layer; operators by values. -/
namespace Fb
open PySem PySem.Spec PyProof.Rows L2
abbrev Xt := List (Addr × List Str)
def ExRel (K : Fg) (Z : Xt) (B m : List Addr) (H : Hp) (c : Nat) (as : List D) (cls : Value) (dd : Option Addr) : Prop :=
  ∃ C fns p fs vs, Z[c]? = some (C, fns) ∧ cls = .ref C ∧ dd = some p ∧ H p = some (.xd fs) ∧ RelDs K B m H as vs ∧ fns.length = vs.length ∧
    ∀ (i : Nat) (f : Str), fns[i]? = some f → fs.lookup f = vs[i]?
/-- what an answer asks -/
def FinG (K : Fg) (Z : Xt) (B m : List Addr) (H : Hp) (W : XK) {α : Type} (r : Res α) (P : α → Store → List Addr → Hp → Prop) : Prop := match r with
  | .ok a S' => ∀ m' H', Le m m' H H' → At K B m' S' H' → P a S' m' H'
  | .exc c as S' => ∀ cls dd m' H', Le m m' H H' → At K B m' S' H' → ExRel K Z B m' H' c as cls dd → W cls dd H'
  | .bad => False
/-- a list that was just made: H ahead of all, H2 without it -/
structure Fresh (K : Fg) (B m' : List Addr) (S' : Store) (H H' : Hp) (d : D) (v : V) : Prop where
  of : ∀ xs, d = .lst xs → ∃ a vs H2, v = .ref a ∧ H a = none ∧ H2 a = none ∧ H' = upd H2 a (.lst vs) ∧ At K B m' S' H2 ∧ RelDs K B m' H2 xs vs
def PD (K : Fg) (B : List Addr) (H : Hp) (fr : Bool) (Q : VK) (d : D) (S' : Store) (m' : List Addr) (H' : Hp) : Prop :=
  ∀ v, RelD K B m' H' d v → (fr = true → Fresh K B m' S' H H' d v) → Q v H'
section
variable {K : Fg} {Z : Xt} {B m m0 m1 m' : List Addr} {H H0 H1 H' : Hp} {S S0 S1 S' : Store} {W : XK} {α β : Type}
theorem FinG.rebase {r : Res α} {P : α → Store → List Addr → Hp → Prop} (t : At K B m S H) (t0 : At K B m0 S0 H0) (l : Le m m0 H H0) (h : FinG K Z B m H W r P) : FinG K Z B m0 H0 W r P := by
  cases r with
  | ok a S' => exact fun m' H' l' t' => h m' H' (Le.trans t t0 l l') t'
  | exc c as S' => exact fun cls dd m' H' l' t' => h cls dd m' H' (Le.trans t t0 l l') t'
  | bad => exact h
theorem FinG.imp {r : Res α} {P P' : α → Store → List Addr → Hp → Prop} (h : FinG K Z B m H W r P) (i : ∀ a S' m' H', P a S' m' H' → P' a S' m' H') : FinG K Z B m H W r P' := by
  cases r with
  | ok a S' => exact fun m' H' l' t' => i _ _ _ _ (h m' H' l' t')
  | exc c as S' => exact h
  | bad => exact h
/-- a binding: the first part's answer -/
theorem FinG.bind {f : M α} {g : α → M β} {P : β → Store → List Addr → Hp → Prop} (t : At K B m S H) (h : FinG K Z B m H W (M.bind f g S) P) :
    FinG K Z B m H W (f S) fun a S' m' H' => FinG K Z B m' H' W (g a S') P := by
  unfold M.bind at h
  cases e : f S with
  | ok a S' =>
    rw [e] at h
    exact fun m' H' l' t' => h.rebase t t' l'
  | exc c as S' => rw [e] at h; exact h
  | bad => rw [e] at h; exact h
theorem FinG.opt {o : Option α} {P : α → Store → List Addr → Hp → Prop} (h : FinG K Z B m H W (M.opt o S) P) : ∃ a, o = some a ∧ FinG K Z B m H W (.ok a S) P := by
  cases o with
  | none => exact h.elim
  | some a => exact ⟨a, rfl, h⟩
theorem FinG.now {a : α} {P : α → Store → List Addr → Hp → Prop} (t : At K B m S H) (h : FinG K Z B m H W (.ok a S) P) : P a S m H := h m H Le.refl t
end

/-! ### operators by values -/
section
variable {K : Fg} {Z : Xt} {B m : List Addr} {H H0 : Hp} {S : Store} {W : XK} {Q : VK}
theorem fin_plain {d : D} {v : V} {fr : Bool} (t : At K B m S H) (h : FinG K Z B m H W (.ok d S) (PD K B H0 fr Q)) (r : RelD K B m H d v) (n : ∀ xs, d ≠ .lst xs) : Q v H :=
  h.now t v r fun _ => ⟨fun xs e => absurd e (n xs)⟩
theorem fin_tup {ds : List D} {vs : List V} {p : Addr} {fr : Bool} (t : At K B m S H) (h : FinG K Z B m H W (.ok (.tup ds) S) (PD K B H0 fr Q)) (hp : H p = none) (r : RelDs K B m H ds vs) : Q (.ref p) (upd H p (.tup vs)) :=
  h m _ (Le.new t hp) (t.new hp) _ (RelD.new_tup t hp r) fun _ => ⟨fun xs e => nomatch e⟩
theorem fin_lst {ds : List D} {vs : List V} {p : Addr} {fr : Bool} (t : At K B m S H) (n : ∀ a, H a = none → H0 a = none) (h : FinG K Z B m H W (.ok (.lst ds) S) (PD K B H0 fr Q)) (hp : H p = none) (r : RelDs K B m H ds vs) :
    Q (.ref p) (upd H p (.lst vs)) :=
  h m _ (Le.new t hp) (t.new hp) _ (RelD.new_lst t hp r) fun _ => ⟨fun xs e => by cases e; exact ⟨p, vs, H, rfl, n p hp, hp, rfl, t, r⟩⟩
/-- a store to a cell -/
theorem fin_put {d : D} {v : V} {n : Nat} {p : Addr} {ds : List D} {vs : List V} {fr : Bool} (t : At K B m S H) (hp : m[n]? = some p) (r : RelDs K B m H ds vs) (h : FinG K Z B m H W (.ok d (S.set n (.lst ds))) (PD K B H0 fr Q))
    (q : RelD K B m H d v) (nl : fr = true → ∀ xs, d ≠ .lst xs) : Q v (upd H p (.lst vs)) :=
  h m _ (Le.put t hp) (t.put hp r) v (q.tr ((Le.put t hp).tr t)) fun f => ⟨fun xs e => absurd e (nl f xs)⟩
end
def boOf : Bo → Operator
  | .add => .Add | .sub => .Sub | .mul => .Mult | .mod => .Mod | .fdiv => .FloorDiv | .pow => .Pow | .shl => .LShift
def rBin (K : Fg) (o : Bo) : R2 := fun x y H Q => ∃ B m S a b H0 d, At K B m S H ∧ RelD K B m H a x ∧ RelD K B m H b y ∧ (∀ p, H p = none → H0 p = none) ∧
  binD S o a b = some d ∧ ∃ Z W, FinG K Z B m H W (.ok d S) (PD K B H0 true Q)
theorem two64_eq : two64 = 2 ^ 64 := by decide
theorem SL_eq : SL = sizeLine := by rw [sizeLine_eq]; rfl
theorem OpR.imp' {X : Cx} {f : Value → Value → Sem Value} {r r' : R2} (h : OpR X f r) (i : ∀ x y H Q, r' x y H Q → r x y H Q) : OpR X f r' :=
  fun pins s σ H x y v u Q I rx ry q => h pins s σ H x y v u Q I rx ry (i _ _ _ _ q)
theorem SO_append (a b : List Nat) : SO a ++ SO b = SO (a ++ b) := by
  refine Str.ext' ?_
  show (SO a).cps ++ (SO b).cps = _
  simp [SO]
theorem addD_cases {S : Store} {a b d : D} (h : addD S a b = some d) : (∃ i j, a = .int i ∧ b = .int j ∧ d = .int (i + j)) ∨ (∃ i j, a = .str i ∧ b = .str j ∧ i.length + j.length ≤ SL ∧ d = .str (i ++ j)) ∨
    (∃ i j, a = .tup i ∧ b = .tup j ∧ i.length + j.length ≤ SL ∧ d = .tup (i ++ j)) ∨ (∃ i j, ownOf S a = some i ∧ ownOf S b = some j ∧ i.length + j.length ≤ SL ∧ d = .lst (i ++ j)) := by
  unfold addD at h
  split at h
  · cases h; exact .inl ⟨_, _, rfl, rfl, rfl⟩
  · split at h
    · cases h; exact .inr (.inl ⟨_, _, rfl, rfl, by assumption, rfl⟩)
    · cases h
  · split at h
    · cases h; exact .inr (.inr (.inl ⟨_, _, rfl, rfl, by assumption, rfl⟩))
    · cases h
  · split at h
    · split at h
      · cases h; exact .inr (.inr (.inr ⟨_, _, by assumption, by assumption, by assumption, rfl⟩))
      · cases h
    · cases h
theorem mulD_cases {S : Store} {a b d : D} (h : mulD S a b = some d) : (∃ i j, a = .int i ∧ b = .int j ∧ mulOk i j = true ∧ d = .int (i * j)) ∨ (∃ i k, a = .tup i ∧ b = .int k ∧ (i.length ≤ 1000 ∧ k ≤ 1000 ∧ -1000000 ≤ k) ∧ d = .tup (repL i k)) ∨
    (∃ i k, a = .str i ∧ b = .int k ∧ (i.length ≤ 1000 ∧ k ≤ 1000 ∧ -1000000 ≤ k) ∧ d = .str (repL i k)) ∨ (∃ i k, ownOf S a = some i ∧ b = .int k ∧ (i.length ≤ 1000 ∧ k ≤ 1000 ∧ -1000000 ≤ k) ∧ d = .lst (repL i k)) := by
  unfold mulD at h
  split at h
  · split at h
    · cases h; exact .inl ⟨_, _, rfl, rfl, by assumption, rfl⟩
    · cases h
  · split at h
    · cases h; exact .inr (.inl ⟨_, _, rfl, rfl, by assumption, rfl⟩)
    · cases h
  · split at h
    · cases h; exact .inr (.inr (.inl ⟨_, _, rfl, rfl, by assumption, rfl⟩))
    · cases h
  · split at h
    · split at h
      · cases h; exact .inr (.inr (.inr ⟨_, _, by assumption, rfl, by assumption, rfl⟩))
      · cases h
    · cases h
  · cases h
theorem flat_rep {α : Type} (vs : List α) (n : Nat) : (List.replicate n vs).flatten.length = n * vs.length := by
  induction n with
  | zero => simp
  | succ n ih => rw [List.replicate_succ, List.flatten_cons, List.length_append, ih, Nat.succ_mul]; omega
theorem nil_of_len {α β : Type} {a : List α} {b : List β} (h : a.length = b.length) (e : b = []) : a = [] := by
  subst e
  exact List.eq_nil_of_length_eq_zero h
section
variable {X : Cx}
theorem op_binA : OpR X (binaryOp .Add) (rBin X.K .add) := by
  have h1 : OpR X (binaryOp .Add) _ := (OpR.or op_add (OpR.or op_add_str (OpR.or op_catA op_cat)))
  refine OpR.imp' h1 ?_
  rintro x y H Q ⟨B, m, S, a, b, H0, d, t, ra, rb, hn, e, Z, W, h⟩
  rcases addD_cases e with ⟨i, j, rfl, rfl, rfl⟩ | ⟨i, j, rfl, rfl, hz, rfl⟩ | ⟨i, j, rfl, rfl, hz, rfl⟩ | ⟨i, j, ea, eb, hz, rfl⟩
  · exact .inl ⟨i, j, ra.int_of, rb.int_of, fin_plain t h (.int _) fun _ e => nomatch e⟩
  · refine .inr (.inl ⟨SO i, SO j, ra.str_of, rb.str_of, by rw [SO_len, SO_len, ← SL_eq]; exact hz, ?_⟩)
    rw [SO_append]
    exact fin_plain t h (.str _ (okS_app ra.str_ok rb.str_ok)) fun _ e => nomatch e
  · obtain ⟨a1, v1, rfl, s1, r1⟩ := ra.tup_of
    obtain ⟨a2, v2, rfl, s2, r2⟩ := rb.tup_of
    refine .inr (.inr (.inl ⟨a1, a2, v1, v2, rfl, rfl, s1, s2, by rw [← r1.len, ← r2.len, ← SL_eq]; exact hz, fun q => ?_, fun q1 q2 => ?_, fun q1 q2 p hp => fin_tup t h hp (r1.app r2)⟩))
    · have e0 : i = [] := nil_of_len r1.len q
      subst e0
      exact fin_plain t h rb fun _ e => nomatch e
    · have e0 : j = [] := nil_of_len r2.len q2
      subst e0
      rw [List.append_nil] at h
      exact fin_plain t h ra fun _ e => nomatch e
  · obtain ⟨l1, v1, rfl, h1, r1⟩ := ra.own_of t ea
    obtain ⟨l2, v2, rfl, h2, r2⟩ := rb.own_of t eb
    exact .inr (.inr (.inr ⟨l1, l2, v1, v2, rfl, rfl, h1, h2, by rw [← r1.len, ← r2.len, ← SL_eq]; exact hz, fun p hp => fin_lst t hn h hp (r1.app r2)⟩))
theorem op_binI {o : Bo} {f : Value → Value → Sem Value} {Cd : Int → Int → Prop} {g : Int → Int → Int} (hr : OpR X f (rI Cd fun i j => .int (g i j)))
    (hb : ∀ S a b d, binD S o a b = some d → ∃ i j, a = .int i ∧ b = .int j ∧ Cd i j ∧ d = .int (g i j)) : OpR X f (rBin X.K o) := by
  refine OpR.imp' hr ?_
  rintro x y H Q ⟨B, m, S, a, b, H0, d, t, ra, rb, hn, e, Z, W, h⟩
  obtain ⟨i, j, rfl, rfl, hc, rfl⟩ := hb _ _ _ _ e
  exact ⟨i, j, ra.int_of, rb.int_of, hc, fin_plain t h (.int _) fun _ e => nomatch e⟩
theorem op_sub' : OpR X (binaryOp .Sub) (rI (fun _ _ => True) fun i j => .int (i - j)) := OpR.imp' op_sub fun x y H Q ⟨i, j, e1, e2, _, q⟩ => ⟨i, j, e1, e2, q⟩
theorem op_binS : OpR X (binaryOp .Sub) (rBin X.K .sub) := op_binI op_sub' fun S a b d h => by
  simp only [binD] at h
  split at h
  · cases h; exact ⟨_, _, rfl, rfl, trivial, rfl⟩
  · cases h
theorem op_binMod : OpR X (binaryOp .Mod) (rBin X.K .mod) := op_binI op_mod fun S a b d h => by
  simp only [binD] at h
  split at h
  · split at h
    · cases h; exact ⟨_, _, rfl, rfl, by assumption, rfl⟩
    · cases h
  · cases h
theorem op_binDiv : OpR X (binaryOp .FloorDiv) (rBin X.K .fdiv) := op_binI op_fdiv fun S a b d h => by
  simp only [binD] at h
  split at h
  · split at h
    · cases h; exact ⟨_, _, rfl, rfl, by assumption, rfl⟩
    · cases h
  · cases h
theorem natAbs_lt {i : Int} (h1 : -two64 < i) (h2 : i < two64) : i.natAbs < 2 ^ 64 := by
  have e : two64 = ((2 ^ 64 : Nat) : Int) := by decide
  omega
theorem op_binPow : OpR X (binaryOp .Pow) (rBin X.K .pow) := op_binI op_pow fun S a b d h => by
  simp only [binD] at h
  split at h
  · split at h
    · rename_i c
      cases h; exact ⟨_, _, rfl, rfl, ⟨c.1, c.2.1, natAbs_lt c.2.2.1 c.2.2.2⟩, rfl⟩
    · cases h
  · cases h
theorem op_binShl : OpR X (binaryOp .LShift) (rBin X.K .shl) := op_binI op_shl fun S a b d h => by
  simp only [binD] at h
  split at h
  · split at h
    · rename_i c
      cases h; exact ⟨_, _, rfl, rfl, ⟨c.1, c.2.1, natAbs_lt c.2.2.1 c.2.2.2⟩, rfl⟩
    · cases h
  · cases h
end
end Fb
set_option Elab.async false
set_option linter.all false
set_option maxRecDepth 100000
set_option maxHeartbeats 1000000
/-! Fx3: an own exception class whose __init__ is super().__init__(p, ..); self.p = p; ..: what it makes. -/
namespace Fb
open PySem PySem.Spec PyProof.Rows L2 NdefX
/-- a class: its name, its fields, its __init__ as the text has it -/
structure XcD where
  name : Str
  flds : List Str
  self : Str
  iname : Str
  qual : Str
  params : Arguments
  body : List Stmt
  scope : Scope
def XcD.at_ (d : XcD) : Str × Option Str := (d.name, some "__init__")
abbrev XW := Option (Str × Str × Arguments × FuncBody × Scope × Addr × List Str × Addr)
def xW (K : PySem.W.Frag) (p : Str × Option Str) : XW := match K.lookup (He.fAd K p) with
  | some ⟨_, _, .func fd, _⟩ => some (fd.name, fd.qualname, fd.params, fd.body, fd.scope, fd.globals, fd.closure.map (·.1), fd.builtins)
  | _ => none
def XcD.val (d : XcD) : XW := some (d.iname, d.qual, d.params, .stmts d.body, d.scope, mainGlobals, [("__class__" : Str)], builtinsNs)
/-! ### the class in the written part -/
def oexB (K : PySem.W.Frag) (C : Addr) : Bool := (match K.lookup C with
  | some ⟨.type "type", _, .cls cd, sl⟩ => (match cd.mro, sl.toList with
    | .ref C' :: bm, [_, _, _, _, some (.builtin n), _] => C' == C && n == "ValueError.__new__" && !cd.hasDel && cd.hasDict && PySem.HandSPX.refsVE bm
    | _, _ => false)
  | _ => false) && decide (PySem.W.findIn K (.ref C) "__setattr__" = some (some (.builtin "object.__setattr__"))) && decide (PySem.W.subIn K (.ref C) (.type "BaseException") = some true) && decide (PySem.W.typeIn K (.ref C) = some (.type "type")) && PySem.W.keepIn K (.ref C)
theorem oexB_ok {K : PySem.W.Frag} {C : Addr} (h : oexB K C = true) : OexC K C := by
  unfold oexB at h
  simp only [Bool.and_eq_true, decide_eq_true_eq] at h
  obtain ⟨⟨⟨⟨h1, h2⟩, h3⟩, h4⟩, h5⟩ := h
  refine ⟨?_, h2, h3, h4, h5⟩
  split at h1
  · rename_i dd cd sl ho
    split at h1
    · rename_i C' bm k0 k1 k2 k3 n k5 hm hs
      simp only [Bool.and_eq_true, beq_iff_eq, Bool.not_eq_true'] at h1
      obtain ⟨⟨⟨⟨rfl, rfl⟩, hdel⟩, hdict⟩, ht⟩ := h1
      obtain ⟨nm, bs, mro, ns, qn, hd, sn, sub, ab, col, del⟩ := cd
      dsimp only at hm hdel hdict
      subst hm; subst hdel; subst hdict
      refine ⟨nm, qn, ns, bs, bm, sn, sub, ab, col, dd, k0, k1, k2, k3, k5, ?_, ht⟩
      rw [ho]
      have e : sl = #[k0, k1, k2, k3, some (.builtin "ValueError.__new__"), k5] := by
        apply Array.ext'
        rw [hs]
      rw [e] <;> rfl
    · cases h1
  · cases h1
def cellB (K : PySem.W.Frag) (C : Addr) (cc : Addr) : Bool := match K.lookup cc with
  | some ⟨_, _, .cell (some (.ref D)), _⟩ => D == C
  | _ => false
def codeB (K : PySem.W.Frag) (file : Str) (cv : Value) : Bool := match cv with
  | .ref c => (match K.lookup c with
    | some ⟨_, _, .fields vs, _⟩ => (match (vs[2]? : Option Value) with
      | some (Value.str f _) => file == f
      | _ => false)
    | _ => false)
  | _ => false
def iniB (K : PySem.W.Frag) (file : Str) (C fI : Addr) (qual : Str) : Bool := match K.lookup fI with
  | some ⟨_, _, .func fd, _⟩ => (match fd.closure with
    | [(_, cc)] => cellB K C cc && codeB K file fd.code && PySem.W.codeIn K fd.code qual && decide (fd.defaults = .none) && decide (fd.kwdefaults = .none) && decide (fd.annotations = none)
    | _ => false)
  | _ => false
/-- what is asked of the written part -/
def xcB (K : PySem.W.Frag) (file : Str) (d : XcD) : Bool :=
  let C := He.ga K d.name
  let fI := He.ma K C "__init__"
  He.eqO (PySem.W.nsIn K mainGlobals d.name) (some (some (.ref C))) && oexB K C && decide (PySem.W.findIn K (.ref C) "__init__" = some (some (.ref fI))) && decide (PySem.W.typeIn K (.ref fI) = some (.type "function")) &&
    xfB K C && (d.flds.all fun f => decide (PySem.W.findIn K (.ref C) f = some none)) && iniB K file C fI d.qual && (PySem.W.clsIn K C).isSome && decide (PySem.W.mroIn K C (.ref C) = some true) &&
    He.eqO (PySem.W.nsIn K mainGlobals "super") (some none) && He.eqO (PySem.W.nsIn K cStatics "thirdparty.any") (some none) && decide (PySem.W.ks_superIn K C C "__init__" = some (some (.builtin "ValueError.__init__"))) &&
    decide (PySem.W.subIn K (.ref C) (.type "ValueError") = some true)
/-! ### the text of the __init__ -/
def argB : List Str → List Expr → Bool
  | [], [] => true
  | f :: fs, .Name x _ :: es => x == f && argB fs es
  | _, _ => false
def asgB (self : Str) : List Str → List Stmt → Bool
  | [], [] => true
  | f :: fs, .Assign [.Attribute (.Name s _) g _] (.Name x _) _ :: r => s == self && g == f && x == f && asgB self fs r
  | _, _ => false
def bodyB (self : Str) (fs : List Str) : List Stmt → Bool
  | .Expr (.Call (.Attribute (.Call (.Name s _) [] [] _) i ap) es [] cp) _ :: r => s == ("super" : Str) && i == ("__init__" : Str) && argB fs es && !fs.isEmpty && asgB self fs r && (ap.endLine == cp.line)
  | _ => false
def XcD.ps (d : XcD) : List Str := d.self :: d.flds
def shapeB (d : XcD) : Bool := bodyB d.self d.flds d.body && nscB (d.ps ++ [("__class__" : Str)]) d.ps [("__class__" : Str)] d.scope && decide (d.scope.names.lookup ("super" : Str) = some .globalImplicit) && decide (d.flds.length ≤ 20) &&
  (match (d.params.posonlyargs ++ d.params.args).head? with
    | some ar => ar.arg == d.self
    | none => false) && d.ps.all (fun x => !(x == ("__debug__" : Str)) && !(x == ("__classdict__" : Str)))
def XBA (d : XcD) : Prop := ∀ (cl : List (Str × Addr)) (kV doc pm : Value) (an : Option Addr) (cdv ct : Value) (us : List Value), us.length = d.ps.length → bindArgs (PySem.W.fnX d.iname d.qual d.params d.body d.scope cl .none kV doc pm an cdv ct) ⟨us, []⟩ = pure (d.ps.zip us)
/-- the made fields -/
def fldsOf (fs : List Str) (ws : List V) : List (Str × V) := (fs.zip ws).reverse
/-- what the __init__ promises -/
def spX (C : Addr) (fs : List Str) : Sp := fun vs H Q _ => ∃ (a : Addr) (ws : List V), vs = .ref a :: ws ∧ ws.length = fs.length ∧ H a = some (exo a C none) ∧
  ∀ (dx : Addr) (H' : Hp), H dx = none → dx ≠ a → H' a = some (exo a C (some dx)) → H' dx = some (exd dx (fldsOf fs ws)) → (∀ b, b ≠ a → b ≠ dx → H' b = H b) → Q .non H'
section
variable {X : Cx}
theorem args_pa {ps : List Str} : ∀ {fs : List Str} {es : List Expr} {ws : List V} {k : Nat} {σ : L2.St}, argB fs es = true → ws.length = fs.length → (∀ (i : Nat) (f : Str), fs[i]? = some f → X.N[k + i]? = some f ∧ Vis X.env.scope f ∧ (f == ("__debug__" : Str)) = false ∧ (f == ("__classdict__" : Str)) = false) →
    (∀ (i : Nat) (v : V), ws[i]? = some v → σ[k + i]? = some (some v)) → ∃ ta, PA X es ta ∧ ∀ H Q, Q ws H → ta σ H Q
  | [], [], ws, k, σ, _, hl, _, _ => by
    obtain rfl : ws = [] := List.eq_nil_of_length_eq_zero hl
    exact ⟨tNil, pa_nil, fun H Q q => q⟩
  | f :: fs, e :: es, ws, k, σ, h, hl, hN, hw => by
    cases e with
    | Name x p =>
      have h2 := Bool.and_eq_true_iff.mp (show (x == f && argB fs es) = true from h)
      have ex : x = f := eq_of_beq h2.1
      subst ex
      cases ws with
      | nil => cases hl
      | cons v ws =>
        obtain ⟨ta, hta, ht⟩ := args_pa (ps := ps) (k := k + 1) (σ := σ) (ws := ws) h2.2 (by simpa using hl) (fun i f hf => by
          have z := hN (i + 1) f (by simpa using hf)
          rw [show k + (i + 1) = k + 1 + i by omega] at z
          exact z) (fun i v hv => by
          have z := hw (i + 1) v (by simpa using hv)
          rw [show k + (i + 1) = k + 1 + i by omega] at z
          exact z)
        obtain ⟨n1, n2, n3, n4⟩ := hN 0 x rfl
        refine ⟨_, pa_cons (pe_var n1 n2 n3 n4) hta, fun H Q q => ⟨v, hw 0 v rfl, ht _ _ q⟩⟩
    | _ => cases h
  | [], _ :: _, _, _, _, h, _, _, _ => by cases h
  | _ :: _, [], _, _, _, h, _, _, _ => by cases h
theorem asgB_cons {self f : Str} {fs : List Str} {st : Stmt} {es : List Stmt} (h : asgB self (f :: fs) (st :: es) = true) : ∃ p1 p2 p3 p4, st = .Assign [.Attribute (.Name self p1) f p2] (.Name f p3) p4 ∧ asgB self fs es = true := by
  unfold asgB at h
  split at h
  · rename_i e _; cases e
  · rename_i e1 e2
    simp only [List.cons.injEq] at e1 e2
    obtain ⟨rfl, rfl⟩ := e1
    obtain ⟨rfl, rfl⟩ := e2
    simp only [Bool.and_eq_true, beq_iff_eq] at h
    obtain ⟨⟨⟨rfl, rfl⟩, rfl⟩, h4⟩ := h
    exact ⟨_, _, _, _, rfl, h4⟩
  · cases h
/-- self.f = f, one behind the other -/
def tAs (K : PySem.W.Frag) : List Str → Nat → TS
  | [], _ => tNext
  | f :: fs, k => tSeq (tOst K f (tVar 0) (tVar k)) (tAs K fs (k + 1))
theorem asg_pss {self : Str} (s0 : X.N[0]? = some self) (vs : Vis X.env.scope self) (d1 : (self == ("__debug__" : Str)) = false) (d2 : (self == ("__classdict__" : Str)) = false) : ∀ {fs : List Str} {es : List Stmt} {k : Nat}, asgB self fs es = true →
    (∀ (i : Nat) (f : Str), fs[i]? = some f → X.N[k + i]? = some f ∧ Vis X.env.scope f ∧ (f == ("__debug__" : Str)) = false ∧ (f == ("__classdict__" : Str)) = false) → PSs X es (tAs X.K fs k)
  | [], [], k, _, _ => pss_nil
  | f :: fs, st :: es, k, h, hN => by
    obtain ⟨p1, p2, p3, p4, rfl, h4⟩ := asgB_cons h
    obtain ⟨n1, n2, n3, n4⟩ := hN 0 f rfl
    exact pss_cons (ps_ost (pe_var s0 vs d1 d2) (pe_var n1 n2 n3 n4)) (asg_pss s0 vs d1 d2 h4 fun i f hf => by
      have z := hN (i + 1) f (by simpa using hf)
      rw [show k + (i + 1) = k + 1 + i by omega] at z
      exact z)
  | [], _ :: _, _, h, _ => by cases h
  | _ :: _, [], _, h, _ => by cases h
theorem asg_run {K : PySem.W.Frag} {C a dx : Addr} (T : OexC K C) : ∀ {fs : List Str} {ws : List V} {k : Nat} {σ : L2.St} (done : List (Str × V)), ws.length = fs.length → (∀ f ∈ fs, PySem.W.findIn K (.ref C) f = some none) →
    (∀ (i : Nat) (v : V), ws[i]? = some v → σ[k + i]? = some (some v)) → σ[0]? = some (some (.ref a)) → done.length + fs.length ≤ 900 →
    ∀ D H, H a = some (exo a C (some dx)) → H dx = some (exd dx done) → dx ≠ a → (∀ H' : Hp, H' a = some (exo a C (some dx)) → H' dx = some (exd dx (fldsOf fs ws ++ done)) → (∀ b, b ≠ a → b ≠ dx → H' b = H b) → D.nx σ H') → tAs K fs k D σ H
  | [], ws, k, σ, done, hl, _, _, _, _, D, H, h1, h2, _, q => by
    obtain rfl : ws = [] := List.eq_nil_of_length_eq_zero hl
    exact q H h1 h2 fun _ _ _ => rfl
  | f :: fs, [], k, σ, done, hl, _, _, _, _, D, H, h1, h2, _, q => by cases hl
  | f :: fs, v :: ws, k, σ, done, hl, hN, hw, hs, hz, D, H, h1, h2, ne, q => by
    have hz2 : done.length + (fs.length + 1) ≤ 900 := hz
    refine ⟨v, hw 0 v rfl, .ref a, hs, a, C, rfl, T, hN f List.mem_cons_self, .inr ⟨dx, done, h1, h2, by omega, ?_⟩⟩
    refine asg_run T ((f, v) :: done) (by simpa using hl) (fun g hg => hN g (List.mem_cons_of_mem _ hg)) (fun i v hv => by
      have z := hw (i + 1) v (by simpa using hv)
      rw [show k + (i + 1) = k + 1 + i by omega] at z
      exact z) hs (by simp; omega) D _ (by rw [upd_ne (Ne.symm ne)]; exact h1) upd_same ne fun H' g1 g2 g3 => q H' g1 ?_ fun b hb hb2 => by rw [g3 b hb hb2, upd_ne hb2]
    rw [g2]
    unfold fldsOf
    rw [List.zip_cons_cons, List.reverse_cons, List.append_assoc] <;> rfl
/-- .. from the first on -/
theorem asg_first {K : PySem.W.Frag} {C a : Addr} (T : OexC K C) {fs : List Str} {ws : List V} {k : Nat} {σ : L2.St} (hl : ws.length = fs.length) (hne : fs ≠ []) (hN : ∀ f ∈ fs, PySem.W.findIn K (.ref C) f = some none)
    (hw : ∀ (i : Nat) (v : V), ws[i]? = some v → σ[k + i]? = some (some v)) (hs : σ[0]? = some (some (.ref a))) (hz : fs.length ≤ 20) (D : Ends) (H : Hp) (h1 : H a = some (exo a C none))
    (q : ∀ (dx : Addr) (H' : Hp), H dx = none → dx ≠ a → H' a = some (exo a C (some dx)) → H' dx = some (exd dx (fldsOf fs ws)) → (∀ b, b ≠ a → b ≠ dx → H' b = H b) → D.nx σ H') : tAs K fs k D σ H := by
  cases fs with
  | nil => exact absurd rfl hne
  | cons f fs =>
    cases ws with
    | nil => cases hl
    | cons v ws =>
      have hz2 : fs.length + 1 ≤ 20 := hz
      refine ⟨v, hw 0 v rfl, .ref a, hs, a, C, rfl, T, hN f List.mem_cons_self, .inl ⟨h1, fun dx nd ne => ?_⟩⟩
      refine asg_run T [(f, v)] (by simpa using hl) (fun g hg => hN g (List.mem_cons_of_mem _ hg)) (fun i v hv => by
        have z := hw (i + 1) v (by simpa using hv)
        rw [show k + (i + 1) = k + 1 + i by omega] at z
        exact z) hs (by simp; omega) D _ upd_same (by rw [upd_ne ne]; exact upd_same) ne fun H' g1 g2 g3 => q dx H' nd ne g1 ?_ fun b hb hb2 => by rw [g3 b hb hb2, upd_ne hb, upd_ne hb2]
      rw [g2]
      unfold fldsOf
      rw [List.zip_cons_cons, List.reverse_cons] <;> rfl
end
theorem bodyB_cons {self : Str} {fs : List Str} {body : List Stmt} (h : bodyB self fs body = true) : ∃ p0 p1 p2 pos p3 es r, body = .Expr (.Call (.Attribute (.Call (.Name "super" p0) [] [] p1) "__init__" p2) es [] pos) p3 :: r ∧ argB fs es = true ∧ fs ≠ [] ∧ asgB self fs r = true ∧ (p2.endLine == pos.line) = true := by
  unfold bodyB at h
  split at h
  · simp only [Bool.and_eq_true, beq_iff_eq, Bool.not_eq_true', List.isEmpty_eq_false_iff] at h
    obtain ⟨⟨⟨⟨⟨rfl, rfl⟩, h3⟩, h4⟩, h5⟩, h6⟩ := h
    exact ⟨_, _, _, _, _, _, _, rfl, h3, h4, h5, by simpa using h6⟩
  · cases h
theorem argB_star {env : Env} {pos : Pos} : ∀ {fs : List Str} {es : List Expr}, argB fs es = true → (∀ e r, es = e :: r → starEach (e :: r) env = (false, eval e env) :: starEach r env) ∧ (backTo pos (starEach es env)).any (·.1) = false
  | [], [], _ => ⟨fun _ _ z => (nomatch z), rfl⟩
  | f :: fs, e :: es, h => by
    cases e with
    | Name x p =>
      have h2 := Bool.and_eq_true_iff.mp (show (x == f && argB fs es) = true from h)
      refine ⟨fun e r z => by cases z; rfl, ?_⟩
      have := (argB_star (env := env) (pos := pos) h2.2).2
      exact this
    | _ => cases h
  | [], _ :: _, h => by cases h
  | _ :: _, [], h => by cases h
theorem argB_len : ∀ {fs : List Str} {es : List Expr}, argB fs es = true → es.length = fs.length
  | [], [], _ => rfl
  | f :: fs, e :: es, h => by
    cases e with
    | Name x p =>
      have h2 := Bool.and_eq_true_iff.mp (show (x == f && argB fs es) = true from h)
      rw [List.length_cons, List.length_cons, argB_len h2.2]
    | _ => cases h
  | [], _ :: _, h => by cases h
  | _ :: _, [], h => by cases h
theorem super_eq {p0 p1 p2 pos : Pos} {es : List Expr} {env : Env} (hline : (p2.endLine == pos.line) = true) (hs : (backTo pos (starEach es env)).any (·.1) = false) (hl : es.length < 28) :
    eval (.Call (.Attribute (.Call (.Name "super" p0) [] [] p1) "__init__" p2) es [] pos) env = (do
      let ov ← attributeBase (.Call (.Name "super" p0) [] [] p1) "__init__" env (eval (.Call (.Name "super" p0) [] [] p1) env)
      standAt p2.atName
      let (f, first) ← holding [ov] (getMethod ov "__init__" (do return (← importBound (.Call (.Name "super" p0) [] [] p1) env).getD true))
      callWith pos f first (backTo pos (starEach es env)) []) := by
  have hform : methodCallForm (es.length + ([] : List Keyword).length) (backTo pos (starEach es env)) (backToKw pos (keywordEach [] env)) = true := by
    unfold methodCallForm
    have h1 : (backTo pos (starEach es env)).all (fun x => !x.1) = true := by
      rw [List.any_eq_false] at hs
      rw [List.all_eq_true]
      intro x hx
      have := hs x hx
      cases hb : x.1 with
      | true => exact absurd hb this
      | false => rfl
    rw [h1]
    show (true && true && decide (es.length + 0 + 0 < 30)) = true
    rw [decide_eq_true (by omega)]
    rfl
  show (do
    let ov ← attributeBase (.Call (.Name "super" p0) [] [] p1) "__init__" env (eval (.Call (.Name "super" p0) [] [] p1) env)
    standAt p2.atName
    methodCall (.Call (.Name "super" p0) [] [] p1) "__init__" p2 pos env ov (es.length + ([] : List Keyword).length) (backTo pos (starEach es env)) (backToKw pos (keywordEach [] env))) = _
  unfold methodCall calleeOf methodCallPos
  rw [hform]
  simp only [hline, Bool.or_true, if_true, Bool.not_true]
  rfl
section
variable {P : Program} {w : World} {K : PySem.W.Frag} {mg : Str → Option Value} {base : Heap}
/-- the facts of a class, together -/
structure XcOk (K : PySem.W.Frag) (P : Program) (d : XcD) : Prop where
  glo : PySem.W.nsIn K mainGlobals d.name = some (some (.ref (He.ga K d.name)))
  ex : OexC K (He.ga K d.name)
  ini : PySem.W.findIn K (.ref (He.ga K d.name)) "__init__" = some (some (.ref (He.ma K (He.ga K d.name) "__init__")))
  ity : PySem.W.typeIn K (.ref (He.ma K (He.ga K d.name) "__init__")) = some (.type "function")
  xf : XfC K (He.ga K d.name)
  no : ∀ f ∈ d.flds, PySem.W.findIn K (.ref (He.ga K d.name)) f = some none
  fn : ∃ (F : NF) (cc : Addr) (oc doc pm ctv : Value) (od : Option Addr) (osl : Array (Option Value)), K.lookup (He.ma K (He.ga K d.name) "__init__") = some ⟨oc, od, .func (F.fd doc pm ctv), osl⟩ ∧ PySem.W.codeIn K (.ref F.c) F.qual = true ∧
    F = ⟨d.iname, d.qual, d.params, d.body, d.scope, [(("__class__" : Str), cc)], F.c⟩ ∧ SupC K P (He.ga K d.name) (He.ma K (He.ga K d.name) "__init__") cc F (F.fd doc pm ctv)
theorem xc_of {file : Str} {d : XcD} (h : xcB K file d = true) (hv : xW K d.at_ = d.val) (hs : shapeB d = true) (hf : (P.main.file : Str) = file) (ht : (P.main.scope.names.lookup ("super" : Str)).isSome = false) : XcOk K P d := by
  unfold xcB at h
  simp only [Bool.and_eq_true, decide_eq_true_eq, List.all_eq_true, Option.isSome_iff_exists] at h
  obtain ⟨⟨⟨⟨⟨⟨⟨⟨⟨⟨⟨⟨h1, h2⟩, h3⟩, h4⟩, h5⟩, h6⟩, h7⟩, h8⟩, h9⟩, h10⟩, h11⟩, h12⟩, h13⟩ := h
  refine ⟨He.eqO_ok h1, oexB_ok h2, h3, h4, xfB_ok h5, h6, ?_⟩
  unfold shapeB at hs
  simp only [Bool.and_eq_true, decide_eq_true_eq] at hs
  obtain ⟨⟨⟨⟨⟨s1, s2⟩, s3⟩, s4⟩, s5⟩, s6⟩ := hs
  have S := nscope_by s2
  unfold iniB at h7
  have e0 : He.fAd K d.at_ = He.ma K (He.ga K d.name) "__init__" := rfl
  unfold xW at hv
  rw [e0] at hv
  split at h7
  · rename_i oc od fd osl lk
    split at h7
    · rename_i y cc hcl
      simp only [Bool.and_eq_true, decide_eq_true_eq] at h7
      obtain ⟨⟨⟨⟨⟨c1, c2⟩, c3⟩, c4⟩, c5⟩, c6⟩ := h7
      rw [lk] at hv
      obtain ⟨nm, qn, ps, bd, sc, gl, cl, df, kd, doc, pm, an, cd, ct, bl⟩ := fd
      dsimp only at hcl c2 c3 c4 c5 c6 hv
      subst hcl; subst c4; subst c5; subst c6
      unfold XcD.val at hv
      simp only [Option.some.injEq, Prod.mk.injEq, List.map_cons, List.map_nil, List.cons.injEq, and_true] at hv
      obtain ⟨rfl, rfl, rfl, rfl, rfl, rfl, rfl, rfl⟩ := hv
      unfold codeB at c2
      split at c2
      · rename_i c
        refine ⟨⟨d.iname, d.qual, d.params, d.body, d.scope, [(("__class__" : Str), cc)], c⟩, cc, oc, doc, pm, ct, od, osl, lk, c3, rfl, ?_⟩
        refine ⟨oexB_ok h2, ⟨_, _, _, lk⟩, ?_, ?_, ⟨_, h8.choose_spec⟩, rfl, h9, He.eqO_ok h10, He.eqO_ok h11, h12, h13, ht, s3, S.frk _ (by simp), S.kind⟩
        · split at c2
          · rename_i ccl cdd vs ccs lkc
            split at c2
            · rename_i f tf hv2
              exact ⟨_, _, _, _, _, _, lkc, hv2, by rw [hf]; exact c2⟩
            · cases c2
          · cases c2
        · unfold cellB at c1
          split at c1
          · rename_i lkcc
            rw [eq_of_beq c1] at lkcc
            exact ⟨_, _, _, lkcc⟩
          · cases c1
      · cases c2
    · cases h7
  · cases h7
theorem init_fn {d : XcD} (c : XcOk K P d) (hs : shapeB d = true) (hb : XBA d) (hm : mg "super" = none) : ∃ fd, FnOk P w K mg base (L2.CX P w) 1 (He.ma K (He.ga K d.name) "__init__") fd d.ps (spX (He.ga K d.name) d.flds) ∧ Binds K fd d.ps [] := by
  obtain ⟨F, cc, oc, doc, pm, ctv, od, osl, lk, hcd, eF, T⟩ := c.fn
  unfold shapeB at hs
  simp only [Bool.and_eq_true, decide_eq_true_eq, List.all_eq_true, Bool.not_eq_true'] at hs
  obtain ⟨⟨⟨⟨⟨s1, s2⟩, s3⟩, s4⟩, s5⟩, s6⟩ := hs
  have S : NScope (d.ps ++ [("__class__" : Str)]) d.ps [("__class__" : Str)] F.scope := by
    rw [eF]; exact nscope_by s2
  have hbd : ∀ us : List Value, us.length = d.ps.length → bindArgs (F.fd doc pm ctv) ⟨us, []⟩ = pure (d.ps.zip us) := fun us hl => by
    rw [eF]; exact hb _ _ _ _ _ _ _ us hl
  refine ⟨F.fd doc pm ctv, ?_, Binds.all hbd⟩
  obtain ⟨lkcl, lkcd, lkcs, lkc⟩ := T.cell
  refine fnc_of (k := 0) (ws := [some (.ref (He.ga K d.name))]) lk hcd S (fun h H X hn => ?_) (fun vs H Q E ⟨a, ws, e, hl, _⟩ => ?_) fun A outer s sB H vs Q E hr ⟨a, ws, e, hl, ea, q⟩ I => ?_
  · have hcl : F.cl = [(("__class__" : Str), cc)] := T.hcl
    refine ⟨rfl, fun y c0 hy => ?_, fun x y c0 hx hy => ?_, fun i y hy => ?_⟩
    · rw [hcl] at hy
      have : c0 = cc := by
        simp only [List.lookup] at hy
        split at hy
        · exact (Option.some.inj hy).symm
        · cases hy
      subst this
      exact ⟨hn _ _ lkc, _, _, X _ _ lkc, rfl⟩
    · rw [hcl] at hx hy
      simp only [List.lookup] at hx hy
      split at hx
      · rename_i e1
        split at hy
        · rename_i e2
          rw [eq_of_beq e1, eq_of_beq e2]
        · cases hy
      · cases hx
    · cases i with
      | zero =>
        cases hy
        exact ⟨cc, by rw [hcl]; rfl, fun v hv => by cases hv; exact ⟨.ref _, rfl, _, X _ _ lkc, rfl⟩⟩
      | succ i => simp at hy
  · rw [e, List.length_cons, hl] <;> rfl
  · subst e
    obtain ⟨p0, p1, p2, pos, p3, es, r, eb, ha, hne, hasg, hline⟩ := bodyB_cons s1
    have ebF : F.body = .Expr (.Call (.Attribute (.Call (.Name "super" p0) [] [] p1) "__init__" p2) es [] pos) p3 :: r := by rw [eF]; exact eb
    have sel : ∀ (i : Nat) (v : V), (V.ref a :: ws)[i]? = some v → (startF (d.ps ++ [("__class__" : Str)]) (V.ref a :: ws) [some (.ref (He.ga K d.name))])[i]? = some (some v) := fun i v hv => by
      unfold startF
      have hlt := (List.getElem?_eq_some_iff.mp hv).1
      rw [List.getElem?_append_left (by rw [List.length_map]; exact hlt), List.getElem?_map, hv] <;> rfl
    have nms : ∀ (i : Nat) (f : Str), d.flds[i]? = some f → (d.ps ++ [("__class__" : Str)])[1 + i]? = some f ∧ Vis F.scope f ∧ (f == ("__debug__" : Str)) = false ∧ (f == ("__classdict__" : Str)) = false := fun i f hf => by
      have hm : f ∈ d.ps := List.mem_cons_of_mem _ (List.mem_of_getElem? hf)
      have z := s6 f hm
      refine ⟨?_, .inl (S.par f hm), z.1, z.2⟩
      rw [List.getElem?_append_left (by have := (List.getElem?_eq_some_iff.mp hf).1; unfold XcD.ps; rw [List.length_cons]; omega)]
      unfold XcD.ps
      rw [show 1 + i = i + 1 by omega, List.getElem?_cons_succ, hf]
    have hself : d.self ∈ d.ps := List.mem_cons_self
    have slf := s6 d.self hself
    obtain ⟨e1, es1, rfl⟩ : ∃ e1 es1, es = e1 :: es1 := by
      cases es with
      | nil =>
        cases hq : d.flds with
        | nil => exact absurd hq hne
        | cons f fs => rw [hq] at ha; cases ha
      | cons e1 es1 => exact ⟨e1, es1, rfl⟩
    obtain ⟨ta, hta, ht⟩ := args_pa (X := ncx (L2.CX P w) P w K mg base (d.ps ++ [("__class__" : Str)]) F (He.ma K (He.ga K d.name) "__init__") A outer s H E) (ps := d.ps) (k := 1) (σ := startF (d.ps ++ [("__class__" : Str)]) (V.ref a :: ws) [some (.ref (He.ga K d.name))]) ha hl nms
      (fun i v hv => by rw [show 1 + i = i + 1 by omega]; exact sel (i + 1) v (by simpa using hv))
    have hpss := asg_pss (X := ncx (L2.CX P w) P w K mg base (d.ps ++ [("__class__" : Str)]) F (He.ma K (He.ga K d.name) "__init__") A outer s H E) (self := d.self) rfl (.inl (S.par _ hself)) slf.1 slf.2 (k := 1) hasg nms
    have hst := argB_star (env := envF F (He.ma K (He.ga K d.name) "__init__") s.heap.objs.size) (pos := pos) ha
    have hst1 := hst.1 e1 es1 rfl
    have fa : a ≠ He.ga K d.name := fun z => by
      obtain ⟨oC, hC⟩ : ∃ o, K.lookup (He.ga K d.name) = some o := by
        obtain ⟨nm, q, N, bs, bm, sn, sub, ab, col, dd, k0, k1, k2, k3, k5, hC, _⟩ := c.ex.cls
        exact ⟨_, hC⟩
      have z2 : H (He.ga K d.name) = none := (I.ok.bs _ _ (I.ok.mod.kin _ _ hC)).2
      rw [← z, ea] at z2
      cases z2
    rw [ebF]
    obtain ⟨ar, har, hse⟩ : ∃ ar, (d.params.posonlyargs ++ d.params.args).head? = some ar ∧ ar.arg = d.self := by
      split at s5
      · rename_i ar e; exact ⟨ar, e, eq_of_beq s5⟩
      · cases s5
    have hpar : (F.fd doc pm ctv).params = d.params := by rw [eF]
    refine ks_wpAt_execs_cons (ks_wpAt_Expr_any ?_ ?_ rfl)
    · refine super_init (X := ncx (L2.CX P w) P w K mg base (d.ps ++ [("__class__" : Str)]) F (He.ma K (He.ga K d.name) "__init__") A outer s H E) (L := s.heap.objs.size) (ar := ar) (ta := ta) T I rfl ea (by rw [hpar]; exact har) (by rw [hse]; rfl) (by rw [hse]; exact S.par _ hself) (sel 0 _ rfl) hm fa rfl hta (super_eq hline hst.2 (by have := argB_len ha; omega)) hst1 ?_ (ht _ _ ⟨by rw [hl]; omega, ea, fun s' I' => wpAt_of_wpAny ?_⟩)
      · have z := hst.2
        rw [hst1] at z
        exact z
      · refine wpAny_mono (hpss.run [] s' _ H { nx := fun _ H' => Q .non H', rt := fun _ _ => False } I' ?_) (fun fl s6 hs6 => ?_) fun _ _ z => z
        · refine asg_first c.ex hl hne c.no (fun i v hv => ?_) (sel 0 _ rfl) s4 _ _ ea fun dx H' n ne g1 g2 g3 => q dx H' n ne g1 g2 g3
          rw [show 1 + i = i + 1 by omega]
          exact sel (i + 1) v (by simpa using hv)
        · cases fl with
          | next =>
            obtain ⟨σ', H', J, q⟩ := hs6
            exact ⟨_, .non, σ', H', rfl, J, rfl, q⟩
          | ret u =>
            obtain ⟨_, _, _, _, _, z⟩ := hs6
            exact False.elim z
          | brk =>
            obtain ⟨_, _, _, z⟩ := hs6
            exact False.elim z
          | cont =>
            obtain ⟨_, _, _, z⟩ := hs6
            exact False.elim z
    · have kd := S.kind
      unfold interactive
      first
        | rfl
        | simp [envF, PySem.W.envX, kd]
end
end Fb
set_option Elab.async false
set_option linter.all false
set_option maxRecDepth 100000
set_option maxHeartbeats 4000000
/-! Fb3m: products of texts, tuples, lists with ints. -/
namespace Fb
open PySem PySem.Spec PyProof.Rows L2
theorem tmul_same (l : Addr) (items : Array Value) (n : Nat) (dd : Option Addr) (sl : Array (Option Value)) (x : Int) (u : Tok) (c0 : (decide (x < -(2 ^ 63)) || decide (x ≥ 2 ^ 63)) = false) (c1 : (items.isEmpty || x == 1) = true) :
    Meets (Builtin.«tuple.__mul__» ⟨[.ref l, .int x u], []⟩) (fun _ R s => s.heap.get? l = some { cls := .type "tuple", dict := dd, data := .seq items n, slots := sl } ∧ R (.ok (.ret (Value.ref l))) s) :=
  .of_wp fun prog w A R s h => by
    obtain ⟨hp, g, d, tk, os⟩ := s
    obtain ⟨hl, h⟩ := h
    have f1 := AutoSeq1.idx_int
    wp_walk using wpAny_loadPart' hl
    repeat (first
      | (refine wpAny_ite_false (decide_eq_false (by rw [c0]; exact Bool.false_ne_true)) ?_; wp_walk using wpAny_loadPart' hl)
      | (refine wpAny_ite_true (decide_eq_true c1) ?_; wp_walk using wpAny_loadPart' hl))
    exact ⟨_, rfl, h⟩
theorem tmul_none (l : Addr) (items : Array Value) (n : Nat) (dd : Option Addr) (sl : Array (Option Value)) (x : Int) (u : Tok) (c0 : (decide (x < -(2 ^ 63)) || decide (x ≥ 2 ^ 63)) = false) (c1 : (items.isEmpty || x == 1) = false) (c2 : (decide (x ≤ 0) || items.isEmpty) = true) :
    Meets (Builtin.«tuple.__mul__» ⟨[.ref l, .int x u], []⟩) (fun _ R s => s.heap.get? l = some { cls := .type "tuple", dict := dd, data := .seq items n, slots := sl } ∧
      R (.ok (.ret (Value.ref s.heap.objs.size))) { s with heap := s.heap.push { cls := Value.type "tuple", data := Data.seq #[] }, toks := s.toks }) :=
  .of_wp fun prog w A R s h => by
    obtain ⟨hp, g, d, tk, os⟩ := s
    obtain ⟨hl, h⟩ := h
    have f1 := AutoSeq1.idx_int
    wp_walk using wpAny_loadPart' hl
    repeat (first
      | (refine wpAny_ite_false (decide_eq_false (by rw [c0]; exact Bool.false_ne_true)) ?_; wp_walk using wpAny_loadPart' hl)
      | (refine wpAny_ite_false (decide_eq_false (by rw [c1]; exact Bool.false_ne_true)) ?_; wp_walk using wpAny_loadPart' hl)
      | (refine wpAny_ite_true (decide_eq_true c2) ?_; wp_walk using wpAny_loadPart' hl)
      | (refine wpAny_ite_false (decide_eq_false (Nat.not_lt.mpr (Nat.zero_le _))) ?_; wp_walk using wpAny_loadPart' hl))
    exact ⟨_, rfl, h⟩
/-- a tuple times an int: the same tuple, an empty one, or its copies -/
def rRepA (K : Fg) : R2 := fun x y H Q => ∃ l k xs, x = .ref l ∧ y = .int k ∧ SqT K H l xs ∧ -1000000 ≤ k ∧ k ≤ 1000 ∧ xs.length ≤ 1000 ∧
  ((xs = [] ∨ k = 1) → Q (.ref l) H) ∧ (¬ (xs = [] ∨ k = 1) → ∀ p, H p = none → Q (.ref p) (upd H p (.tup (repL xs k))))
section
variable {X : Cx}
theorem op_repA : OpR X (binaryOp .Mult) (rRepA X.K) := by
  intro pins s σ H x y v u Q I rx ry h
  obtain ⟨l, k, xs, rfl, rfl, hT, h1, h2, hz, qs, qn⟩ := h
  by_cases hbig : xs ≠ [] ∧ 2 ≤ k
  · have hne : ¬ (xs = [] ∨ k = 1) := fun z => z.elim hbig.1 (fun e => by have := hbig.2; omega)
    exact op_repT pins s σ H _ _ v u Q I rx ry ⟨l, k, xs, rfl, rfl, hT, hbig.1, hbig.2, h2, hz, qn hne⟩
  · cases rx
    obtain ⟨t, rfl⟩ := ry
    obtain ⟨its, r, ⟨⟨cls, dd, data, sl⟩, ho, hc, n, hd⟩, hs⟩ := I.tuple hT
    simp only at hc hd
    subst hc hd
    have c0 : (decide (k < -(2 ^ 63)) || decide (k ≥ 2 ^ 63)) = false := by
      rw [decide_eq_false (by omega), decide_eq_false (by omega)] <;> rfl
    have he : its.toArray.isEmpty = xs.isEmpty := by cases r <;> simp
    by_cases hsame : xs = [] ∨ k = 1
    · have c1 : (its.toArray.isEmpty || k == 1) = true := by
        rw [he]
        rcases hsame with e | e
        · rw [e]; rfl
        · rw [e]; simp
      exact wpAny_binaryOp_repeat_ref (T := "tuple") (U := "int") (by decide) ⟨_, ho, rfl⟩ (fun s' => typeIs_int s' k t) noFill_tuple_mul F.fills_int_mul F.slot_int_rmul repeat_tuple F.slot_int_index.lookup
        (call_meets F.slot_int_rmul (typeIs_int s k t) F.entry_int_rmul (F.args_int_rmul_2 _ _) (int_rmul_tuple k t l its.toArray n dd sl)
          ⟨ho, rfl, ⟨_, ho, rfl⟩, call_meets F.slot_tuple_mul ⟨_, ho, rfl⟩ F.entry_tuple_mul (F.args_tuple_mul_2 _ _) (tmul_same l its.toArray n dd sl k t c0 c1) ⟨ho, ⟨.ref l, H, I, rfl, qs hsame⟩⟩⟩)
    · have hx : xs ≠ [] := fun e => hsame (.inl e)
      have hk : k ≤ 0 := by
        have a1 : ¬ k = 1 := fun e => hsame (.inr e)
        have a2 : ¬ 2 ≤ k := fun e => hbig ⟨hx, e⟩
        omega
      have hxe : xs.isEmpty = false := by cases xs with
        | nil => exact absurd rfl hx
        | cons a b => rfl
      have c1 : (its.toArray.isEmpty || k == 1) = false := by
        rw [he, hxe, Bool.false_or]
        exact beq_eq_false_iff_ne.mpr (by omega)
      have c2 : (decide (k ≤ 0) || its.toArray.isEmpty) = true := by
        rw [decide_eq_true hk]; rfl
      have e0 : repL xs k = [] := by
        unfold repL
        rw [show k.toNat = 0 by omega]
        rfl
      refine wpAny_binaryOp_repeat_ref (T := "tuple") (U := "int") (by decide) ⟨_, ho, rfl⟩ (fun s' => typeIs_int s' k t) noFill_tuple_mul F.fills_int_mul F.slot_int_rmul repeat_tuple F.slot_int_index.lookup
        (call_meets F.slot_int_rmul (typeIs_int s k t) F.entry_int_rmul (F.args_int_rmul_2 _ _) (int_rmul_tuple k t l its.toArray n dd sl)
          ⟨ho, rfl, ⟨_, ho, rfl⟩, call_meets F.slot_tuple_mul ⟨_, ho, rfl⟩ F.entry_tuple_mul (F.args_tuple_mul_2 _ _) (tmul_none l its.toArray n dd sl k t c0 c1 c2) ⟨ho, ?_⟩⟩)
      have q := qn hsame s.heap.objs.size (I.hok.fresh (Nat.le_refl _))
      rw [e0] at q
      refine ⟨.ref s.heap.objs.size, _, I.laid (t' := s.toks) (o := .tup []) (fun b ob q => Heap.get?_push_of_some _ q) (Nat.le_refl _) ?_, rfl, q⟩
      exact ⟨Nat.zero_le _, [], .nil, IsTup.new _ _⟩
/-- a text times an int -/
def rRepS : R2 := fun x y H Q => ∃ a k, x = .str (SO a) ∧ y = .int k ∧ -1000000 ≤ k ∧ k ≤ 1000 ∧ a.length ≤ 1000 ∧ Q (.str (SO (repL a k))) H
theorem fold_app {α : Type} (a : List α) : ∀ (n : Nat) (acc : Array α), (List.replicate n a.toArray).foldl (· ++ ·) acc = acc ++ (List.replicate n a).flatten.toArray
  | 0, acc => by simp
  | n + 1, acc => by
    rw [List.replicate_succ, List.foldl_cons, fold_app a n, List.replicate_succ, List.flatten_cons]
    simp
theorem repL_len {α : Type} (a : List α) (k : Int) : (repL a k).length = k.toNat * a.length := flat_rep a k.toNat
theorem op_repS : OpR X (binaryOp .Mult) rRepS := by
  intro pins s σ H x y v u Q I rx ry h
  obtain ⟨a, k, rfl, rfl, h1, h2, hz, q⟩ := h
  obtain ⟨t, rfl⟩ := rx
  obtain ⟨t', rfl⟩ := ry
  have hm : k.toNat * a.length ≤ 1000 * 1000 := Nat.mul_le_mul (by omega) hz
  have c0 : (decide (k < -(2 ^ 63 : Int)) || decide (k ≥ 2 ^ 63)) = false := by
    rw [decide_eq_false (by omega), decide_eq_false (by omega)] <;> rfl
  refine PySem.P.mul_str c0 (fun h3 _ => ?_) (fun h3 _ => ?_) ?_
  · have hk : 1 ≤ k := by omega
    have e1 : ((SO a).length : Int) ≤ 1000 := by rw [SO_len]; omega
    have e2 : (1000 : Int) ≤ (2 ^ 63 - 1) / k := (Int.le_ediv_iff_mul_le (by omega)).mpr (by omega)
    omega
  · unfold Builtin.Str.tooLong
    rw [SO_len, Nat.mul_comm, sizeLine_eq]
    exact decide_eq_false (by omega)
  · by_cases hk : k < 1
    · rw [if_pos hk]
      have e0 : repL a k = [] := by
        unfold repL
        rw [show k.toNat = 0 by omega]
        rfl
      rw [e0] at q
      exact ⟨by decide, ⟨.str (SO []), H, I.tok _, ⟨_, rfl⟩, q⟩⟩
    · rw [if_neg hk]
      by_cases hs : (k == 1 || (SO a).length == 0) = true
      · rw [if_pos hs]
        have e0 : repL a k = a := by
          rcases Bool.or_eq_true_iff.mp hs with e | e
          · have e1 : k = 1 := eq_of_beq e
            rw [e1]
            simp [repL]
          · have e1 : a = [] := by
              have e2 : (SO a).length = 0 := eq_of_beq e
              rw [SO_len] at e2
              exact List.eq_nil_of_length_eq_zero e2
            rw [e1]
            apply List.eq_nil_of_length_eq_zero
            rw [repL_len]
            simp
        rw [e0] at q
        exact ⟨.str (SO a), H, I, ⟨_, rfl⟩, q⟩
      · rw [if_neg hs]
        have e0 : (⟨(List.replicate k.toNat (SO a).cps).foldl (· ++ ·) #[]⟩ : Str) = SO (repL a k) := by
          show (⟨(List.replicate k.toNat a.toArray).foldl (· ++ ·) #[]⟩ : Str) = _
          rw [fold_app]
          simp [repL, SO]
        rw [e0]
        refine ⟨?_, ⟨.str (SO (repL a k)), H, I.tok _, ⟨_, rfl⟩, q⟩⟩
        first
          | (rw [SO_len, repL_len, sizeLine_eq]; omega)
          | (show (SO (repL a k)).length ≤ _; rw [SO_len, repL_len, sizeLine_eq]; omega)
theorem mulOk_of {i j : Int} (h : mulOk i j = true) : CMul i j := by
  have h2 := of_decide_eq_true h
  rw [two64_eq] at h2
  exact h2
theorem op_binMul : OpR X (binaryOp .Mult) (rBin X.K .mul) := by
  have h1 : OpR X (binaryOp .Mult) _ := (OpR.or op_mul (OpR.or op_repA (OpR.or op_repS op_rep)))
  refine OpR.imp' h1 ?_
  rintro x y H Q ⟨B, m, S, a, b, H0, d, t, ra, rb, hn, e, Z, W, h⟩
  rcases mulD_cases e with ⟨i, j, rfl, rfl, hc, rfl⟩ | ⟨i, k, rfl, rfl, hz, rfl⟩ | ⟨i, k, rfl, rfl, hz, rfl⟩ | ⟨i, k, ea, rfl, hz, rfl⟩
  · exact .inl ⟨i, j, ra.int_of, rb.int_of, mulOk_of hc, fin_plain t h (.int _) fun _ e => nomatch e⟩
  · obtain ⟨a1, v1, rfl, s1, r1⟩ := ra.tup_of
    refine .inr (.inl ⟨a1, k, v1, rfl, rb.int_of, s1, hz.2.2, hz.2.1, by rw [← r1.len]; exact hz.1, fun q => ?_, fun q p hp => fin_tup t h hp (r1.rep _)⟩)
    have e0 : repL i k = i := by
      rcases q with q | q
      · have e1 : i = [] := nil_of_len r1.len q
        rw [e1]
        apply List.eq_nil_of_length_eq_zero
        rw [repL_len]
        simp
      · rw [q]; simp [repL]
    rw [e0] at h
    exact fin_plain t h ra fun _ e => nomatch e
  · exact .inr (.inr (.inl ⟨i, k, ra.str_of, rb.int_of, hz.2.2, hz.2.1, hz.1, fin_plain t h (.str _ (okS_sub ra.str_ok fun c hc => by
      obtain ⟨l, hl, hm⟩ := List.mem_flatten.mp (show c ∈ (List.replicate k.toNat i).flatten from hc)
      rw [List.eq_of_mem_replicate hl] at hm
      exact hm)) fun _ e => nomatch e⟩))
  · obtain ⟨l1, v1, rfl, h1, r1⟩ := ra.own_of t ea
    have hl := r1.len
    have hm : v1.length * k.toNat ≤ 1000 * 1000 := Nat.mul_le_mul (by omega) (by omega)
    exact .inr (.inr (.inr ⟨l1, k, v1, rfl, rb.int_of, h1, by omega, by omega, by rw [sizeLine_eq]; omega, fun p hp => fin_lst t hn h hp (r1.rep _)⟩))
def boOp : (o : Bo) → OpR X (binaryOp (boOf o)) (rBin X.K o)
  | .add => op_binA | .sub => op_binS | .mul => op_binMul | .mod => op_binMod | .fdiv => op_binDiv | .pow => op_binPow | .shl => op_binShl
end
end Fb
set_option Elab.async false
set_option linter.all false
set_option maxRecDepth 100000
set_option maxHeartbeats 2000000
/-! Fb4: comparisons by values. -/
namespace Fb
open PySem PySem.Spec PyProof.Rows L2
mutual
def toPy : D → PyData
  | .non => .none
  | .bl b => .bool b
  | .int i => .int i
  | .str x => .str (SO x)
  | .tup xs => .tuple (toPys xs)
  | .lst xs => .list (toPys xs)
  | .ro xs => .list (toPys xs)
  | .cell _ => .none
def toPys : List D → List PyData
  | [] => []
  | x :: xs => toPy x :: toPys xs
end
section
variable {K : Fg} {B m : List Addr} {H : Hp} {S : Store}
mutual
theorem RelD.dp : ∀ {d : D} {v : V}, RelD K B m H d v → d.free = true → Dp K H v (toPy d)
  | _, _, .non, _ => .non
  | _, _, .bl b, _ => .bl b
  | _, _, .int i, _ => .int i
  | _, _, .str x _, _ => .str _
  | _, _, .tup q r, f => .tup q.sq (RelDs.dp r f)
  | _, _, .lst q r, f => .lst q.sq (RelDs.dp r f)
  | _, _, .ro q r, f => .lst q.sq (RelDs.dp r f)
  | _, _, .cell _, f => nomatch (show false = true from f)
theorem RelDs.dp : ∀ {ds : List D} {vs : List V}, RelDs K B m H ds vs → D.frees ds = true → DpAll K H vs (toPys ds)
  | _, _, .nil, _ => .nil
  | _, _, .cons r s, f => .cons (RelD.dp r (Bool.and_eq_true_iff.mp f).1) (RelDs.dp s (Bool.and_eq_true_iff.mp f).2)
end
end
theorem SO_beq (x y : List Nat) : (SO x == SO y) = (x == y) := by
  rw [Bool.eq_iff_iff, beq_iff_eq, beq_iff_eq]
  exact ⟨SO_inj, fun e => by rw [e]⟩
theorem beqI_l (a : Bool) (j : Int) : ((if a then 1 else 0) == j) = beqI a j := rfl
mutual
theorem eqv_py : ∀ a b : D, a.free = true → b.free = true → PyData.eqv (toPy a) (toPy b) = D.eqv a b
  | .non, b, _, f => by cases b <;> first | rfl | cases f
  | .bl a, b, _, f => by cases b <;> first | rfl | cases f
  | .int i, b, _, f => by
    cases b with
    | bl c => show (i == (if c then 1 else 0)) = beqI c i; unfold beqI; exact Bool.beq_comm
    | cell n => cases f
    | _ => rfl
  | .str x, b, _, f => by
    cases b with
    | str y => exact SO_beq x y
    | cell n => cases f
    | _ => rfl
  | .tup xs, b, g, f => by
    cases b with
    | tup ys => exact eqvs_py xs ys g f
    | cell n => cases f
    | _ => rfl
  | .lst xs, b, g, f => by
    cases b with
    | lst ys => exact eqvs_py xs ys g f
    | ro ys => exact eqvs_py xs ys g f
    | cell n => cases f
    | _ => rfl
  | .ro xs, b, g, f => by
    cases b with
    | lst ys => exact eqvs_py xs ys g f
    | ro ys => exact eqvs_py xs ys g f
    | cell n => cases f
    | _ => rfl
  | .cell n, _, g, _ => nomatch (show false = true from g)
theorem eqvs_py : ∀ xs ys : List D, D.frees xs = true → D.frees ys = true → PyData.eqvAll (toPys xs) (toPys ys) = D.eqvs xs ys
  | [], [], _, _ => rfl
  | [], _ :: _, _, _ => rfl
  | _ :: _, [], _, _ => rfl
  | x :: xs, y :: ys, g, f => by
    have g2 := Bool.and_eq_true_iff.mp g
    have f2 := Bool.and_eq_true_iff.mp f
    show (PyData.eqv (toPy x) (toPy y) && PyData.eqvAll (toPys xs) (toPys ys)) = (D.eqv x y && D.eqvs xs ys)
    rw [eqv_py x y g2.1 f2.1, eqvs_py xs ys g2.2 f2.2]
end
mutual
theorem depth_py : ∀ a : D, (toPy a).depth = D.depth a
  | .non => rfl | .bl _ => rfl | .int _ => rfl | .str _ => rfl | .cell _ => rfl
  | .tup xs => by show PyData.depthAll (toPys xs) + 1 = _; rw [depths_py xs]; rfl
  | .lst xs => by show PyData.depthAll (toPys xs) + 1 = _; rw [depths_py xs]; rfl
  | .ro xs => by show PyData.depthAll (toPys xs) + 1 = _; rw [depths_py xs]; rfl
theorem depths_py : ∀ xs : List D, PyData.depthAll (toPys xs) = D.depths xs
  | [] => rfl
  | x :: xs => by show max (toPy x).depth (PyData.depthAll (toPys xs)) = _; rw [depth_py x, depths_py xs]; rfl
end
section
variable {K : Fg} {B m : List Addr} {H : Hp}
theorem strOk_of {x : List Nat} (h : okS x = true) : PyData.strOk (SO x) = true := by
  unfold PyData.strOk
  rw [Array.all_eq_true']
  intro c hc
  have h2 := List.all_eq_true.mp h c (by simpa [SO] using hc)
  exact h2
mutual
theorem lay_py : ∀ {a : D} {v : V}, RelD K B m H a v → (toPy a).canLay0 = true
  | _, _, .non => rfl
  | _, _, .bl _ => rfl
  | _, _, .int _ => rfl
  | _, _, .str _ h => strOk_of h
  | _, _, .cell _ => rfl
  | _, _, .tup _ r => lays_py r
  | _, _, .lst _ r => lays_py r
  | _, _, .ro _ r => lays_py r
theorem lays_py : ∀ {xs : List D} {vs : List V}, RelDs K B m H xs vs → PyData.canLayAll0 (toPys xs) = true
  | _, _, .nil => rfl
  | _, _, .cons r s => by show (PyData.canLay0 (toPy _) && PyData.canLayAll0 (toPys _)) = true; rw [lay_py r, lays_py s]; rfl
end
theorem shaped_py {a : D} {v : V} (r : RelD K B m H a v) (h : D.depth a ≤ 64) : SeqAt.shaped (toPy a) = true := by
  unfold SeqAt.shaped
  rw [lay_py r, depth_py, decide_eq_true h]
  rfl
theorem shaped_pys {xs : List D} {vs : List V} (r : RelDs K B m H xs vs) (h : D.depths xs ≤ 63) : SeqAt.shaped (.list (toPys xs)) = true := by
  unfold SeqAt.shaped
  rw [show PyData.canLay0 (.list (toPys xs)) = true from lays_py r, show PyData.depth (.list (toPys xs)) = PyData.depthAll (toPys xs) + 1 from rfl, depths_py, decide_eq_true (show D.depths xs + 1 ≤ 64 by omega)]
  rfl
end
theorem mem_py {x : D} (fx : x.free = true) : ∀ ys : List D, D.frees ys = true → ((toPys ys).any fun z => PyData.eqv z (toPy x)) = memD x ys
  | [], _ => rfl
  | y :: ys, f => by
    have f2 := Bool.and_eq_true_iff.mp f
    show (PyData.eqv (toPy y) (toPy x) || (toPys ys).any fun z => PyData.eqv z (toPy x)) = (D.eqv y x || memD x ys)
    rw [eqv_py y x f2.1 fx, mem_py fx ys f2.2]
/-! ### by values -/
def rCmp (K : Fg) (o : Co) : R2 := fun x y H Q => ∃ B m S a b t, At K B m S H ∧ RelD K B m H a x ∧ RelD K B m H b y ∧ cmpD S o a b = some t ∧ Q (.bl t) H
def coOf : Co → CmpOp
  | .eq => .Eq | .ne => .NotEq | .lt => .Lt | .le => .LtE | .gt => .Gt | .ge => .GtE | .isIn => .In | .notIn => .NotIn
section
variable {X : Cx}
theorem RelD.data {K : Fg} {B m : List Addr} {H : Hp} {S : Store} (t : At K B m S H) {d a : D} {v : V} (r : RelD K B m H d v) (e : dataOf S d = some a) (f : a.free = true) : Dp K H v (toPy a) ∧ (D.depth a ≤ 60 → SeqAt.shaped (toPy a) = true) := by
  cases d with
  | cell n =>
    have e2 : (lstOf S (.cell n)).map D.lst = some a := e
    cases q : lstOf S (.cell n) with
    | none => rw [q] at e2; cases e2
    | some xs =>
      rw [q] at e2
      cases e2
      obtain ⟨p, vs, rfl, hs, rs⟩ := r.lst_of t q
      exact ⟨.lst hs (rs.dp f), fun z => shaped_pys rs (by have : D.depths xs + 1 ≤ 60 := z; omega)⟩
  | _ => cases e; exact ⟨r.dp f, fun z => shaped_py r (by omega)⟩
theorem eqD_cases {S : Store} {a b : D} {t : Bool} (h : eqD S a b = some t) : ∃ c d, dataOf S a = some c ∧ dataOf S b = some d ∧ c.free = true ∧ d.free = true ∧ D.depth c ≤ 60 ∧ D.depth d ≤ 60 ∧ t = D.eqv c d := by
  unfold eqD at h
  split at h
  · split at h
    · rename_i c
      cases h
      simp only [Bool.and_eq_true, decide_eq_true_eq] at c
      exact ⟨_, _, by assumption, by assumption, c.1.1.1, c.1.1.2, c.1.2, c.2, rfl⟩
    · cases h
  · cases h
theorem op_cmpEq (hu : X.A.units + 64 < cLine) : OpR X (compareOp .Eq) (rCmp X.K .eq) := by
  refine OpR.imp' (op_eqD hu) ?_
  rintro x y H Q ⟨B, m, S, a, b, t, t0, ra, rb, e, q⟩
  obtain ⟨c, d, e1, e2, f1, f2, d1, d2, rfl⟩ := eqD_cases e
  refine ⟨toPy c, toPy d, (ra.data t0 e1 f1).1, (rb.data t0 e2 f2).1, (ra.data t0 e1 f1).2 d1, (rb.data t0 e2 f2).2 d2, ?_⟩
  rw [eqv_py c d f1 f2]
  exact q
theorem map_not {o : Option Bool} {t : Bool} (h : o.map (!·) = some t) : ∃ s, o = some s ∧ t = !s := by
  cases o with
  | none => cases h
  | some s => cases h; exact ⟨s, rfl, rfl⟩
theorem op_cmpNe (hu : X.A.units + 64 < cLine) : OpR X (compareOp .NotEq) (rCmp X.K .ne) := by
  refine OpR.imp' (op_neD hu) ?_
  rintro x y H Q ⟨B, m, S, a, b, t, t0, ra, rb, e, q⟩
  obtain ⟨s, e0, rfl⟩ := map_not e
  obtain ⟨c, d, e1, e2, f1, f2, d1, d2, rfl⟩ := eqD_cases e0
  refine ⟨toPy c, toPy d, (ra.data t0 e1 f1).1, (rb.data t0 e2 f2).1, (ra.data t0 e1 f1).2 d1, (rb.data t0 e2 f2).2 d2, ?_⟩
  rw [eqv_py c d f1 f2]
  exact q
theorem op_cmpI {o : Co} {f : Value → Value → Sem Value} {g : Int → Int → Bool} (hr : OpR X f (rI0 fun i j => .bl (g i j))) (hc : ∀ S a b, cmpD S o a b = ltD g a b) : OpR X f (rCmp X.K o) := by
  refine OpR.imp' hr ?_
  rintro x y H Q ⟨B, m, S, a, b, t, t0, ra, rb, e, q⟩
  rw [hc] at e
  unfold ltD at e
  split at e
  · cases e
    exact ⟨_, _, ra.int_of, rb.int_of, q⟩
  · cases e
theorem flat_V {K : Fg} {B m : List Addr} {H : Hp} {d : D} {v : V} (r : RelD K B m H d v) (f : d.flat = true) : flatV v = true := by
  cases r <;> first | rfl | exact nomatch f
theorem flats_V {K : Fg} {B m : List Addr} {H : Hp} : ∀ {ds : List D} {vs : List V}, RelDs K B m H ds vs → ds.all D.flat = true → vs.all flatV = true
  | _, _, .nil, _ => rfl
  | _, _, .cons r s, f => by
    have f2 := Bool.and_eq_true_iff.mp f
    show (flatV _ && List.all _ flatV) = true
    rw [flat_V r f2.1, flats_V s f2.2]
    rfl
theorem eqV_flat {K : Fg} {B m : List Addr} {H : Hp} {d e : D} {v u : V} (r : RelD K B m H d v) (q : RelD K B m H e u) (f : d.flat = true) (g : e.flat = true) : eqV v u = D.eqv d e := by
  cases r with
  | tup _ _ => exact absurd f Bool.false_ne_true
  | lst _ _ => exact absurd f Bool.false_ne_true
  | ro _ _ => exact absurd f Bool.false_ne_true
  | cell _ => exact absurd f Bool.false_ne_true
  | non => cases q <;> rfl
  | bl a => cases q <;> rfl
  | int i => cases q <;> first | rfl | (show (i == _) = beqI _ i; unfold beqI; exact Bool.beq_comm)
  | str x h => cases q <;> first | rfl | exact SO_beq _ _
theorem inV_flat {K : Fg} {B m : List Addr} {H : Hp} {x : D} {v : V} (q : RelD K B m H x v) (g : x.flat = true) : ∀ {ds : List D} {vs : List V}, RelDs K B m H ds vs → ds.all D.flat = true → inV v vs = memD x ds
  | _, _, .nil, _ => rfl
  | _, _, .cons r s, f => by
    have f2 := Bool.and_eq_true_iff.mp f
    show (eqV _ _ || inV v _) = (D.eqv _ _ || memD x _)
    rw [eqV_flat r q f2.1 g, inV_flat q g s f2.2]
theorem inD_cases {S : Store} {a b : D} {t : Bool} (h : inD S a b = some t) : (∃ c y, a = .str [c] ∧ b = .str y ∧ t = y.contains c) ∨ (∃ ys, b = .tup ys ∧ a.flat = true ∧ ys.all D.flat = true ∧ t = memD a ys) ∨
    (∃ ys, lstOf S b = some ys ∧ a.free = true ∧ D.frees ys = true ∧ D.depth a ≤ 60 ∧ D.depths ys ≤ 60 ∧ t = memD a ys) := by
  unfold inD at h
  split at h
  · split at h
    · cases h; exact .inl ⟨_, _, rfl, rfl, rfl⟩
    · cases h
  · split at h
    · rename_i c
      cases h
      simp only [Bool.and_eq_true] at c
      exact .inr (.inl ⟨_, rfl, c.1, c.2, rfl⟩)
    · cases h
  · split at h
    · split at h
      · rename_i c
        cases h
        simp only [Bool.and_eq_true, decide_eq_true_eq] at c
        exact .inr (.inr ⟨_, by assumption, c.1.1.1, c.1.1.2, c.1.2, c.2, rfl⟩)
      · cases h
    · cases h
theorem one_in (c : Nat) (y : List Nat) : (!(Builtin.Str.occurrences (SO y) (SO [c]) 0 (SO y).length 1).isEmpty) = y.contains c := by
  rw [show (Builtin.Str.occurrences (SO y) (SO [c]) 0 (SO y).length 1).isEmpty = !decide (c ∈ (SO y).cps.toList) from empty_one (SO y) c, Bool.not_not]
  simp [SO]
theorem op_cmpIn (hu : X.A.units + 65 < cLine) : OpR X (compareOp .In) (rCmp X.K .isIn) := by
  have h1 : OpR X (compareOp .In) _ := OpR.or op_in_str (OpR.or op_in_seq (op_inD hu))
  refine OpR.imp' h1 ?_
  rintro x y H Q ⟨B, m, S, a, b, t, t0, ra, rb, e, q⟩
  rcases inD_cases e with ⟨c, z, rfl, rfl, rfl⟩ | ⟨ys, rfl, f1, f2, rfl⟩ | ⟨ys, e1, f1, f2, d1, d2, rfl⟩
  · refine .inl ⟨_, _, ra.str_of, rb.str_of, ?_⟩
    rw [one_in]
    exact q
  · obtain ⟨p, vs, rfl, hs, rs⟩ := rb.tup_of
    refine .inr (.inl ⟨p, vs, rfl, .inr hs, flat_V ra f1, flats_V rs f2, ?_⟩)
    rw [if_neg Bool.false_ne_true, inV_flat ra f1 rs f2]
    exact q
  · obtain ⟨p, vs, rfl, hs, rs⟩ := rb.lst_of t0 e1
    refine .inr (.inr ⟨toPy a, toPys ys, ra.dp f1, .lst hs (rs.dp f2), shaped_py ra (by omega), shaped_pys rs (by omega), ?_⟩)
    rw [mem_py f1 ys f2]
    exact q
theorem op_cmpNotIn (hu : X.A.units + 65 < cLine) : OpR X (compareOp .NotIn) (rCmp X.K .notIn) := by
  have h1 : OpR X (compareOp .NotIn) _ := OpR.or op_notin_str (OpR.or op_notIn_seq (op_notInD hu))
  refine OpR.imp' h1 ?_
  rintro x y H Q ⟨B, m, S, a, b, t, t0, ra, rb, e, q⟩
  obtain ⟨s, e0, rfl⟩ := map_not e
  rcases inD_cases e0 with ⟨c, z, rfl, rfl, rfl⟩ | ⟨ys, rfl, f1, f2, rfl⟩ | ⟨ys, e1, f1, f2, d1, d2, rfl⟩
  · refine .inl ⟨_, _, ra.str_of, rb.str_of, ?_⟩
    rw [one_in]
    exact q
  · obtain ⟨p, vs, rfl, hs, rs⟩ := rb.tup_of
    refine .inr (.inl ⟨p, vs, rfl, .inr hs, flat_V ra f1, flats_V rs f2, ?_⟩)
    rw [if_pos rfl, inV_flat ra f1 rs f2]
    exact q
  · obtain ⟨p, vs, rfl, hs, rs⟩ := rb.lst_of t0 e1
    refine .inr (.inr ⟨toPy a, toPys ys, ra.dp f1, .lst hs (rs.dp f2), shaped_py ra (by omega), shaped_pys rs (by omega), ?_⟩)
    rw [mem_py f1 ys f2]
    exact q
theorem coOp (hu : X.A.units + 65 < cLine) : (o : Co) → OpR X (compareOp (coOf o)) (rCmp X.K o)
  | .eq => op_cmpEq (by omega) | .ne => op_cmpNe (by omega) | .lt => op_cmpI op_lt fun _ _ _ => rfl | .le => op_cmpI op_le fun _ _ _ => rfl
  | .gt => op_cmpI op_gt fun _ _ _ => rfl | .ge => op_cmpI op_ge fun _ _ _ => rfl | .isIn => op_cmpIn hu | .notIn => op_cmpNotIn hu
end
end Fb
set_option Elab.async false
set_option linter.all false
set_option maxRecDepth 100000
set_option maxHeartbeats 2000000
/-! Fb5: truth, subscripts, slices, built-ins, methods by values. -/
namespace Fb
open PySem PySem.Spec PyProof.Rows L2
section
variable {K : Fg} {B m : List Addr} {H H0 : Hp} {S : Store}
theorem seq_isEmpty {ds : List D} {vs : List V} (r : RelDs K B m H ds vs) : ds.isEmpty = vs.isEmpty := by cases r <;> rfl
theorem RelD.truth (t : At K B m S H) {d : D} {v : V} {b : Bool} (r : RelD K B m H d v) (e : truthD S d = some b) : TruV K v H b := by
  have seq : ∀ xs, seqOf S d = some xs → (some !xs.isEmpty) = some b → TruV K v H b := fun xs e1 e2 => by
    obtain ⟨a, vs, rfl, hs, rs⟩ := r.seq_of t e1
    cases e2
    rcases hs with hs | hs
    · exact .inl ⟨vs, hs, by rw [seq_isEmpty rs]⟩
    · exact .inr (.inl ⟨vs, hs, by rw [seq_isEmpty rs]⟩)
  cases d with
  | non => cases r; cases e; rfl
  | bl c => cases r; cases e; rfl
  | int i => cases r; cases e; rfl
  | str x =>
    cases r
    have e : (if x.length ≤ SL then some (!x.isEmpty) else none) = some b := e
    split at e
    · cases e
      refine ⟨by rw [SO_len, ← SL_eq]; assumption, ?_⟩
      rw [SO_len]
      cases x with
      | nil => rfl
      | cons c r => simp; omega
    · cases e
  | tup xs => exact seq xs rfl e
  | lst xs => exact seq xs rfl e
  | ro xs => exact seq xs rfl e
  | cell n =>
    have e : (seqOf S (.cell n)).map (fun xs => !xs.isEmpty) = some b := e
    cases q : seqOf S (.cell n) with
    | none => rw [q] at e; cases e
    | some xs => rw [q] at e; exact seq xs q e
theorem ixL_at {α : Type} (xs : List α) (i : Int) : ixL xs i = atI xs i := by
  unfold ixL atI ixN
  by_cases h : i < 0
  · rw [if_pos h, if_neg (show ¬ 0 ≤ i by omega)]
    by_cases h2 : i + xs.length < 0
    · rw [if_pos h2, if_neg (show ¬ -(xs.length : Int) ≤ i by omega)]; rfl
    · rw [if_neg h2, if_pos (show -(xs.length : Int) ≤ i by omega)]; rfl
  · rw [if_neg h, if_pos (show 0 ≤ i by omega)]
    by_cases h2 : i < xs.length
    · rw [if_pos h2]; rfl
    · rw [if_neg h2, List.getElem?_eq_none (by omega)]; rfl
theorem atI_rel {ds : List D} {vs : List V} {i : Int} {d : D} (r : RelDs K B m H ds vs) (e : ixL ds i = some d) : ∃ v, atI vs i = some v ∧ RelD K B m H d v := by
  rw [ixL_at] at e
  unfold atI at *
  rw [← r.len]
  cases q : ixN ds.length i with
  | none => rw [q] at e; cases e
  | some j =>
    rw [q] at e
    obtain ⟨v, h1, h2⟩ := r.get (i := j) e
    exact ⟨v, h1, h2⟩
theorem cut1_eq (n d : Nat) (o : Option Int) : cut1 n o d = HT.sIx n d o := by cases o <;> rfl
theorem cutL_V {ds : List D} {vs : List V} (r : RelDs K B m H ds vs) (lo hi : Option Int) : RelDs K B m H (cutL ds lo hi) (cutV vs lo hi) := by
  unfold cutL cutV
  rw [cut1_eq, cut1_eq, r.len]
  exact (r.drop _).take _
end
/-! ### subscripts -/
def rIdx (K : Fg) : R2 := fun x y H Q => ∃ B m S a b d, At K B m S H ∧ RelD K B m H a x ∧ RelD K B m H b y ∧ (∃ S', idxM a b S = .ok d S') ∧ ∀ v, RelD K B m H d v → Q v H
section
variable {X : Cx}
theorem idx_cases {S S' : Store} {a b d : D} (h : idxM a b S = .ok d S') : S' = S ∧ ((∃ z i c, a = .str z ∧ b = .int i ∧ z.length ≤ SL ∧ ixL z i = some c ∧ d = .str [c]) ∨ ∃ xs i, seqOf S a = some xs ∧ b = .int i ∧ ixL xs i = some d) := by
  unfold idxM at h
  split at h
  · split at h
    · cases e : ixL _ _ with
      | none => rw [e] at h; cases h
      | some c => rw [e] at h; cases h; exact ⟨rfl, .inl ⟨_, _, c, rfl, rfl, by assumption, e, rfl⟩⟩
    · cases h
  · split at h
    · cases e : ixL _ _ with
      | none => rw [e] at h; cases h
      | some c => rw [e] at h; cases h; exact ⟨rfl, .inr ⟨_, _, by assumption, rfl, e⟩⟩
    · cases h
  · cases h
theorem op_idx : IxR X (rIdx X.K) := by
  have h1 : IxR X (rIx X.K) := ix_seq
  intro value slice pins s σ H x y v u Q I rx ry h hs
  refine h1 value slice pins s σ H x y v u Q I rx ry ?_ hs
  obtain ⟨B, m, S, a, b, d, t, ra, rb, ⟨S', e⟩, q⟩ := h
  obtain ⟨rfl, e0⟩ := idx_cases e
  clear e
  rcases e0 with ⟨z, i, c, rfl, rfl, hz, e, rfl⟩ | ⟨xs, i, e1, rfl, e2⟩
  · refine .inr (.inr ⟨SO z, i, c, ra.str_of, rb.int_of, by rw [SO_len, ← SL_eq]; exact hz, ?_, ?_⟩)
    · show atI z.toArray.toList i = some c
      rw [← ixL_at]
      exact e
    · refine q _ (.str _ ?_)
      refine okS_sub ra.str_ok fun k hk => ?_
      rw [List.mem_singleton.mp hk]
      rw [ixL_at] at e
      unfold atI at e
      cases q2 : ixN z.length i with
      | none => rw [q2] at e; cases e
      | some j => rw [q2] at e; exact List.mem_of_getElem? e
  · obtain ⟨p, vs, rfl, hq, rs⟩ := ra.seq_of t e1
    obtain ⟨v2, h2, r2⟩ := atI_rel rs e2
    rcases hq with hq | hq
    · exact .inl ⟨p, vs, i, v2, rfl, rb.int_of, hq, h2, q _ r2⟩
    · exact .inr (.inl ⟨p, vs, i, v2, rfl, rb.int_of, hq, h2, q _ r2⟩)
/-! ### slices -/
def rCut (K : Fg) : V → Option Int → Option Int → Hp → VK → Prop := fun x lo hi H Q => ∃ B m S a H0 d, At K B m S H ∧ RelD K B m H a x ∧ (∀ p, H p = none → H0 p = none) ∧
  cutD S a lo hi = some d ∧ ∃ Z W, FinG K Z B m H W (.ok d S) (PD K B H0 true Q)
theorem cutS_SO (z : List Nat) (lo hi : Option Int) : cutS (SO z) lo hi = SO (cutL z lo hi) := by
  unfold cutS cutL
  rw [SO_len, cut1_eq, cut1_eq]
theorem cutL_mem {α : Type} {xs : List α} {lo hi : Option Int} {c : α} (h : c ∈ cutL xs lo hi) : c ∈ xs := List.mem_of_mem_drop (List.mem_of_mem_take h)
theorem SlR.imp' {r r' : V → Option Int → Option Int → Hp → VK → Prop} (h : SlR X r) (i : ∀ x lo hi H Q, r' x lo hi H Q → r x lo hi H Q) : SlR X r' :=
  fun pins s σ H x v vl vu lo hi sl Q I rx hs pl pu q => h pins s σ H x v vl vu lo hi sl Q I rx hs pl pu (i _ _ _ _ _ q)
theorem cutD_cases {S : Store} {a d : D} {lo hi : Option Int} (h : cutD S a lo hi = some d) : (∃ z, a = .str z ∧ z.length ≤ SL ∧ d = .str (cutL z lo hi)) ∨ (∃ xs, a = .tup xs ∧ d = .tup (cutL xs lo hi)) ∨ (∃ xs, lstOf S a = some xs ∧ d = .lst (cutL xs lo hi)) := by
  unfold cutD at h
  split at h
  · split at h
    · cases h; exact .inl ⟨_, rfl, by assumption, rfl⟩
    · cases h
  · cases h; exact .inr (.inl ⟨_, rfl, rfl⟩)
  · cases e : lstOf S a with
    | none => rw [e] at h; cases h
    | some xs => rw [e] at h; cases h; exact .inr (.inr ⟨xs, rfl, rfl⟩)
theorem op_cut : SlR X (rCut X.K) := by
  have h1 : SlR X _ := SlR.or sl_str (SlR.or sl_tupA sl_list)
  refine SlR.imp' h1 ?_
  rintro x lo hi H Q ⟨B, m, S, a, H0, d, t, ra, hn, e, Z, W, h⟩
  rcases cutD_cases e with ⟨z, rfl, hz, rfl⟩ | ⟨xs, rfl, rfl⟩ | ⟨xs, e1, rfl⟩
  · refine .inl ⟨SO z, ra.str_of, by rw [SO_len, ← SL_eq]; exact hz, ?_⟩
    rw [cutS_SO]
    exact fin_plain t h (.str _ (okS_sub ra.str_ok fun c hc => cutL_mem hc)) fun _ e => nomatch e
  · obtain ⟨p, vs, rfl, hq, rs⟩ := ra.tup_of
    refine .inr (.inl ⟨p, vs, rfl, hq, fun e => ?_, fun _ p hp => fin_tup t h hp (cutL_V rs lo hi)⟩)
    have e0 : cutL xs lo hi = xs := by
      unfold cutL
      rw [cut1_eq, cut1_eq, rs.len, e.1, e.2, List.drop_zero, Nat.sub_zero, ← rs.len, List.take_length]
    rw [e0] at h
    exact fin_plain t h ra fun _ e => nomatch e
  · obtain ⟨p, vs, rfl, hq, rs⟩ := ra.lst_of t e1
    exact .inr (.inr ⟨p, vs, rfl, hq, fun p hp => fin_lst t hn h hp (cutL_V rs lo hi)⟩)

/-! ### built-ins -/
/-- a call of a built-in by values -/
def rBlt (K : Fg) (b : Bt) : List V → Hp → VK → Prop := fun xs H Q => ∃ B m S as H0 d, At K B m S H ∧ RelDs K B m H as xs ∧ (∀ p, H p = none → H0 p = none) ∧ bltD S b as = some d ∧ ∃ Z W, FinG K Z B m H W (.ok d S) (PD K B H0 true Q)
theorem CallR.imp' {f : Value} {r r' : List V → Hp → VK → Prop} (h : CallR X f r) (i : ∀ xs H Q, r' xs H Q → r xs H Q) : CallR X f r' :=
  fun pins s σ H xs us Q I rx q => h pins s σ H xs us Q I rx (i _ _ _ q)
theorem RelDs.one {K : Fg} {B m : List Addr} {H : Hp} {d : D} {vs : List V} (r : RelDs K B m H [d] vs) : ∃ v, vs = [v] ∧ RelD K B m H d v := by
  cases r with
  | cons r s => cases s; exact ⟨_, rfl, r⟩
theorem RelDs.two {K : Fg} {B m : List Addr} {H : Hp} {d e : D} {vs : List V} (r : RelDs K B m H [d, e] vs) : ∃ v u, vs = [v, u] ∧ RelD K B m H d v ∧ RelD K B m H e u := by
  cases r with
  | cons r s =>
    obtain ⟨u, rfl, q⟩ := s.one
    exact ⟨_, u, rfl, r, q⟩
theorem blt_len : CallR X (.builtin "len") (rBlt X.K .len) := by
  refine CallR.imp' call_len ?_
  rintro xs H Q ⟨B, m, S, as, H0, d, t, r, hn, e, Z, W, h⟩
  have seq : ∀ x ys, as = [x] → seqOf S x = some ys → d = .int ys.length → ∃ x n, xs = [x] ∧ LenV X.K x H n ∧ Q (.int n) H := by
    rintro x ys rfl e1 rfl
    obtain ⟨v, rfl, rv⟩ := r.one
    obtain ⟨p, vs, rfl, hq, rs⟩ := rv.seq_of t e1
    refine ⟨_, ys.length, rfl, hq.imp (fun q => ⟨vs, q, rs.len⟩) (fun q => ⟨vs, q, rs.len⟩), fin_plain t h (.int _) fun _ e => nomatch e⟩
  unfold bltD at e
  split at e <;> try contradiction
  · split at e
    · cases e
      obtain ⟨v, rfl, rv⟩ := r.one
      refine ⟨_, _, rfl, ?_, fin_plain t h (.int _) fun _ e => nomatch e⟩
      rw [rv.str_of]
      exact ⟨by rw [SO_len, ← SL_eq]; assumption, (SO_len _).symm⟩
    · cases e
  · cases q : seqOf S _ with
    | none => rw [q] at e; cases e
    | some ys => rw [q] at e; cases e; exact seq _ ys rfl q rfl
theorem digV_fold : ∀ (l : List Nat) (a : Nat), digV a l = l.foldl (fun acc c => acc * 10 + (c - 48)) a
  | [], _ => rfl
  | c :: r, a => digV_fold r _
theorem digs_all {l : List Nat} (h : l.all isDig = true) : NumText.AllDigits l := fun c hc => by
  have z := List.all_eq_true.mp h c hc
  unfold isDig at z
  simp only [Bool.and_eq_true, decide_eq_true_eq] at z
  exact z
theorem intOf_text {a : List Nat} {n : Int} (h : intOf a = some n) : PySem.intText? (SO a) = some n ∧ (SO a).length ≤ 640 := by
  unfold intOf at h
  split at h
  · cases h
  · rename_i r
    split at h
    · rename_i c
      simp only [Bool.and_eq_true, Bool.not_eq_true', decide_eq_true_eq, List.isEmpty_eq_false_iff] at c
      cases h
      refine ⟨?_, by rw [SO_len, List.length_cons]; omega⟩
      have := PySem.intText_neg (x := SO (45 :: r)) (cs := r) (by simp [SO]) (digs_all c.1.1) c.1.2 (by rw [SO_len, List.length_cons]; omega)
      rw [this]
      show some (-((r.foldl _ 0 : Nat) : Int)) = _
      rw [digV_fold]
    · cases h
  · rename_i hne _
    split at h
    · rename_i c
      simp only [Bool.and_eq_true, decide_eq_true_eq] at c
      cases h
      refine ⟨?_, by rw [SO_len]; omega⟩
      have := PySem.intText_digits (x := SO a) (by simpa [SO] using digs_all c.1) (by simpa [SO] using hne) (by rw [SO_len]; omega)
      rw [this]
      show some ((((SO a).cps.toList).foldl _ 0 : Nat) : Int) = _
      rw [digV_fold]
    · cases h
theorem blt_int : CallR X (.type "int") (rBlt X.K .int) := by
  refine CallR.imp' (CallR.or call_int1 call_int_str) ?_
  rintro xs H Q ⟨B, m, S, as, H0, d, t, r, hn, e, Z, W, h⟩
  unfold bltD at e
  split at e <;> try contradiction
  · cases e
    obtain ⟨v, rfl, rv⟩ := r.one
    exact .inl (.inl ⟨_, by rw [rv.int_of], fin_plain t h (.int _) fun _ e => nomatch e⟩)
  · cases e
    obtain ⟨v, rfl, rv⟩ := r.one
    exact .inl (.inr ⟨_, by rw [rv.bl_of], fin_plain t h (.int _) fun _ e => nomatch e⟩)
  · rename_i a _
    cases q : intOf a with
    | none => rw [q] at e; cases e
    | some n =>
      rw [q] at e
      cases e
      obtain ⟨v, rfl, rv⟩ := r.one
      obtain ⟨h1, h2⟩ := intOf_text q
      exact .inr ⟨_, n, by rw [rv.str_of], h1, h2, fin_plain t h (.int _) fun _ e => nomatch e⟩
theorem blt_abs : CallR X (.builtin "abs") (rBlt X.K .abs) := by
  refine CallR.imp' call_abs ?_
  rintro xs H Q ⟨B, m, S, as, H0, d, t, r, hn, e, Z, W, h⟩
  unfold bltD at e
  split at e <;> try contradiction
  cases e
  obtain ⟨v, rfl, rv⟩ := r.one
  exact ⟨_, by rw [rv.int_of], fin_plain t h (.int _) fun _ e => nomatch e⟩
theorem blt_min (hc : X.calm = true) : CallR X (.builtin "min") (rBlt X.K .min) := by
  refine CallR.imp' (call_min2 hc) ?_
  rintro xs H Q ⟨B, m, S, as, H0, d, t, r, hn, e, Z, W, h⟩
  unfold bltD at e
  split at e <;> try contradiction
  cases e
  obtain ⟨v, u, rfl, rv, ru⟩ := r.two
  exact ⟨_, _, by rw [rv.int_of, ru.int_of], fin_plain t h (.int _) fun _ e => nomatch e⟩
theorem blt_max (hc : X.calm = true) : CallR X (.builtin "max") (rBlt X.K .max) := by
  refine CallR.imp' (call_max2 hc) ?_
  rintro xs H Q ⟨B, m, S, as, H0, d, t, r, hn, e, Z, W, h⟩
  unfold bltD at e
  split at e <;> try contradiction
  cases e
  obtain ⟨v, u, rfl, rv, ru⟩ := r.two
  exact ⟨_, _, by rw [rv.int_of, ru.int_of], fin_plain t h (.int _) fun _ e => nomatch e⟩
theorem seqOf_cases {S : Store} {d : D} {xs : List D} (h : seqOf S d = some xs) : d = .tup xs ∨ lstOf S d = some xs := by
  cases d <;> first | (cases h; exact .inl rfl) | exact .inr h
theorem blt_tuple : CallR X (.type "tuple") (rBlt X.K .tuple) := by
  refine CallR.imp' call_tuple_of ?_
  rintro xs H Q ⟨B, m, S, as, H0, d, t, r, hn, e, Z, W, h⟩
  unfold bltD at e
  split at e <;> try contradiction
  obtain ⟨v, rfl, rv⟩ := r.one
  cases q : seqOf S _ with
  | none => rw [q] at e; cases e
  | some ys =>
    rw [q] at e
    cases e
    rcases seqOf_cases q with rfl | q
    · obtain ⟨p, vs, rfl, hq, rs⟩ := rv.tup_of
      exact ⟨p, vs, rfl, .inr ⟨hq, fin_plain t h rv fun _ e => nomatch e⟩⟩
    · obtain ⟨p, vs, rfl, hq, rs⟩ := rv.lst_of t q
      exact ⟨p, vs, rfl, .inl ⟨hq, fun l hl => fin_tup t h hl rs⟩⟩
theorem blt_list : CallR X (.type "list") (rBlt X.K .list) := by
  refine CallR.imp' call_list_of ?_
  rintro xs H Q ⟨B, m, S, as, H0, d, t, r, hn, e, Z, W, h⟩
  unfold bltD at e
  split at e <;> try contradiction
  obtain ⟨v, rfl, rv⟩ := r.one
  cases q : seqOf S _ with
  | none => rw [q] at e; cases e
  | some ys =>
    rw [q] at e
    cases e
    obtain ⟨p, vs, rfl, hq, rs⟩ := rv.seq_of t q
    exact ⟨p, vs, rfl, hq, fun l hl => fin_lst t hn h hl rs⟩
theorem bools_V {K : Fg} {B m : List Addr} {H : Hp} : ∀ {ds : List D} {vs : List V} {bs : List Bool}, RelDs K B m H ds vs → boolsOf ds = some bs → vs = bs.map V.bl
  | _, _, _, .nil, e => by cases e; rfl
  | d :: ds, _, bs, .cons r s, e => by
    cases d with
    | bl b =>
      have e : (boolsOf ds).map (b :: ·) = some bs := e
      cases q : boolsOf ds with
      | none => rw [q] at e; cases e
      | some cs => rw [q] at e; cases e; rw [bools_V s q, r.bl_of]; rfl
    | _ => cases e
theorem ints_V {K : Fg} {B m : List Addr} {H : Hp} : ∀ {ds : List D} {vs : List V} {bs : List Int}, RelDs K B m H ds vs → intsOf ds = some bs → vs = bs.map V.int
  | _, _, _, .nil, e => by cases e; rfl
  | d :: ds, _, bs, .cons r s, e => by
    cases d with
    | int b =>
      have e : (intsOf ds).map (b :: ·) = some bs := e
      cases q : intsOf ds with
      | none => rw [q] at e; cases e
      | some cs => rw [q] at e; cases e; rw [ints_V s q, r.int_of]; rfl
    | _ => cases e
theorem strs_V {K : Fg} {B m : List Addr} {H : Hp} : ∀ {ds : List D} {vs : List V} {bs : List (List Nat)}, RelDs K B m H ds vs → strsOf ds = some bs → vs = (bs.map SO).map V.str ∧ ∀ z ∈ bs, okS z = true
  | _, _, _, .nil, e => by cases e; exact ⟨rfl, fun _ h => by cases h⟩
  | d :: ds, _, bs, .cons r s, e => by
    cases d with
    | str b =>
      have e : (strsOf ds).map (b :: ·) = some bs := e
      cases q : strsOf ds with
      | none => rw [q] at e; cases e
      | some cs =>
        rw [q] at e
        cases e
        obtain ⟨e1, e2⟩ := strs_V s q
        refine ⟨by rw [e1, r.str_of]; rfl, fun z hz => ?_⟩
        rcases List.mem_cons.mp hz with e3 | e3
        · rw [e3]; exact r.str_ok
        · exact e2 z e3
    | _ => cases e
theorem blt_all (hc : X.calm = true) : CallR X (.builtin "all") (rBlt X.K .all) := by
  refine CallR.imp' (cr_all hc) ?_
  rintro xs H Q ⟨B, m, S, as, H0, d, t, r, hn, e, Z, W, h⟩
  unfold bltD at e
  split at e <;> try contradiction
  obtain ⟨v, rfl, rv⟩ := r.one
  split at e
  · rename_i ys q
    cases q2 : boolsOf ys with
    | none => rw [q2] at e; cases e
    | some bs =>
      rw [q2] at e
      cases e
      obtain ⟨p, vs, rfl, hq, rs⟩ := rv.lst_of t q
      rw [bools_V rs q2] at hq
      exact ⟨p, bs, rfl, hq, fin_plain t h (.bl _) fun _ e => nomatch e⟩
  · cases e
theorem blt_any (hc : X.calm = true) : CallR X (.builtin "any") (rBlt X.K .any) := by
  refine CallR.imp' (cr_any hc) ?_
  rintro xs H Q ⟨B, m, S, as, H0, d, t, r, hn, e, Z, W, h⟩
  unfold bltD at e
  split at e <;> try contradiction
  obtain ⟨v, rfl, rv⟩ := r.one
  split at e
  · rename_i ys q
    cases q2 : boolsOf ys with
    | none => rw [q2] at e; cases e
    | some bs =>
      rw [q2] at e
      cases e
      obtain ⟨p, vs, rfl, hq, rs⟩ := rv.lst_of t q
      rw [bools_V rs q2] at hq
      exact ⟨p, bs, rfl, hq, fin_plain t h (.bl _) fun _ e => nomatch e⟩
  · cases e
theorem blt_sum (hc : X.calm = true) : CallR X (.builtin "sum") (rBlt X.K .sum) := by
  refine CallR.imp' (cr_sum hc) ?_
  rintro xs H Q ⟨B, m, S, as, H0, d, t, r, hn, e, Z, W, h⟩
  unfold bltD at e
  split at e <;> try contradiction
  obtain ⟨v, rfl, rv⟩ := r.one
  split at e
  · rename_i ys q
    cases q2 : intsOf ys with
    | none => rw [q2] at e; cases e
    | some bs =>
      rw [q2] at e
      cases e
      obtain ⟨p, vs, rfl, hq, rs⟩ := rv.lst_of t q
      rw [ints_V rs q2] at hq
      exact ⟨p, bs, rfl, hq, fin_plain t h (.int _) fun _ e => nomatch e⟩
  · cases e
end
end Fb
set_option Elab.async false
set_option linter.all false
set_option maxRecDepth 100000
set_option maxHeartbeats 1000000
/-! Fbt: methods of texts over lists of signs. -/
namespace Fb
open PySem PySem.Spec PyProof.Rows L2
theorem tl_SO (x : List Nat) : TL.tl (SO x) = x := by simp [TL.tl, SO]
theorem SO_tl' (x : Str) : SO (TL.tl x) = x := TL.mk_tl x
theorem spl_one (c : Nat) : ∀ (l acc : List Nat), TL.spl [c] 0 acc l = splitD c acc l
  | [], acc => by cases acc <;> rfl
  | x :: r, acc => by
    by_cases h : x = c
    · subst h
      rw [TL.spl_hit (by simp [TL.pre])]
      show acc :: TL.spl [x] 0 [] r = _
      rw [spl_one x r []]
      simp [splitD]
    · rw [TL.spl_miss (by simp [TL.pre, h]), spl_one c r]
      simp [splitD, h]
theorem split_SO {x : List Nat} {c : Nat} (hc : c < 256) : Txt.split (SO x) (SO [c]) = (splitD c [] x).map SO := by
  have h := TL.split_spl (SO x) (SO [c]) (by rw [tl_SO]; simp) (TL.kind_ok (by simp [SO, hc]))
  rw [tl_SO, tl_SO, spl_one] at h
  apply TL.map_tl_inj
  rw [h, List.map_map]
  conv => lhs; rw [← List.map_id (splitD c [] x)]
  exact List.map_congr_left fun z _ => (tl_SO z).symm
theorem starts_SO (x y : List Nat) : Txt.startswith (SO x) (SO y) = (x.take y.length == y) := by
  unfold Txt.startswith
  rw [StrLaws.subAt_eq, SO_len, SO_len]
  show (decide (0 + y.length ≤ x.length) && ((x.drop 0).take y.length == y)) = _
  rw [List.drop_zero]
  by_cases h : y.length ≤ x.length
  · rw [decide_eq_true (by omega), Bool.true_and]
  · have h2 : (x.take y.length == y) = false := by
      rw [beq_eq_false_iff_ne]
      intro e
      have := congrArg List.length e
      rw [List.length_take] at this
      omega
    rw [h2, Bool.and_false]
theorem sub_one (x : List Nat) (c i : Nat) : Builtin.Str.subAt (SO x) (SO [c]) i = decide (x[i]? = some c) := by
  rw [StrLaws.subAt_eq]
  show ((x.drop i).take 1 == [c]) = _
  cases h : x[i]? with
  | none =>
    rw [List.getElem?_eq_none_iff] at h
    rw [List.drop_eq_nil_of_le h]; rfl
  | some d =>
    obtain ⟨hl, e⟩ := List.getElem?_eq_some_iff.mp h
    rw [List.drop_eq_getElem_cons hl, e, Bool.eq_iff_iff]
    simp
theorem occ_count (x : List Nat) (c lim : Nat) : ∀ (k i : Nat) (st : Array Nat × Nat), st.2 ≤ i → st.1.size + k ≤ lim → i + k = x.length + 1 →
    (forIn (List.range' i k) st (StrLaws.occBody (SO x) (SO [c]) x.length lim)).run.1.size = st.1.size + countD c (x.drop i)
  | 0, i, st, _, _, h => by
    rw [List.range'_zero, List.forIn_nil, List.drop_eq_nil_of_le (by omega)]
    rfl
  | k + 1, i, st, h1, h2, h3 => by
    rw [List.range'_succ, List.forIn_cons]
    unfold StrLaws.occBody
    rw [sub_one]
    by_cases hi : i < x.length
    · have e : x[i]? = some x[i] := List.getElem?_eq_getElem hi
      have ed : x.drop i = x[i] :: x.drop (i + 1) := List.drop_eq_getElem_cons hi
      by_cases hc : x[i] = c
      · rw [if_pos ⟨⟨⟨by omega, h1⟩, by show i + 1 ≤ x.length; omega⟩, by rw [e, hc]; simp⟩]
        have q := occ_count x c lim k (i + 1) (st.1.push i, i + 1) (Nat.le_refl _) (by rw [Array.size_push]; omega) (by omega)
        rw [Array.size_push] at q
        refine Eq.trans q ?_
        rw [ed]
        show _ = _ + ((if x[i] = c then 1 else 0) + _)
        rw [if_pos hc]; omega
      · rw [if_neg (fun z => hc (by have := z.2; rw [e] at this; simpa using this))]
        have q := occ_count x c lim k (i + 1) st (by omega) (by omega) (by omega)
        refine Eq.trans q ?_
        rw [ed]
        show _ = _ + ((if x[i] = c then 1 else 0) + _)
        rw [if_neg hc]; omega
    · rw [if_neg (fun z => by have := z.1.2; change i + 1 ≤ x.length at this; omega)]
      have q := occ_count x c lim k (i + 1) st (by omega) (by omega) (by omega)
      refine Eq.trans q ?_
      rw [List.drop_eq_nil_of_le (show x.length ≤ i by omega), List.drop_eq_nil_of_le (show x.length ≤ i + 1 by omega)]
theorem count_SO (x : List Nat) (c : Nat) : Txt.count (SO x) (SO [c]) = (countD c x : Int) := by
  unfold Txt.count
  rw [StrLaws.occ_eq, SO_len]
  have h := occ_count x c (x.length + 1) (x.length + 1) 0 (#[], 0) (Nat.le_refl _) (by simp) (by omega)
  rw [List.drop_zero] at h
  have h2 : (forIn (List.range' 0 (x.length + 1 - 0)) ((#[], 0) : Array Nat × Nat) (StrLaws.occBody (SO x) (SO [c]) x.length (x.length + 1))).run.1.toList.length = countD c x := by
    rw [Array.length_toList, Nat.sub_zero]
    refine h.trans ?_
    simp
  exact congrArg Int.ofNat h2
theorem flat_one (f : Nat → Nat) : ∀ x : List Nat, ((x.map fun c => #[f c]).toArray).flatten.toList = x.map f
  | [] => rfl
  | c :: r => by
    have h := flat_one f r
    simp only [List.map_cons]
    rw [Array.toList_flatten] at h ⊢
    simp only [List.map_toArray, List.map_cons, List.flatten_cons] at h ⊢
    simpa using h
theorem up_one : ∀ c, c < 128 → Unicode.upperOf c = [upC c] := by decide +kernel
theorem upper_SO {x : List Nat} (h : x.all (fun c => decide (c < 128)) = true) : Txt.upper (SO x) = SO (x.map upC) := by
  unfold Txt.upper placed
  refine Str.ext' ?_
  have e : (SO x).cps.mapIdx (fun _ c => (Unicode.upperOf c).toArray) = (x.map fun c => #[upC c]).toArray := by
    apply Array.ext'
    simp only [Array.toList_mapIdx]
    show x.mapIdx (fun _ c => (Unicode.upperOf c).toArray) = x.map fun c => #[upC c]
    rw [List.mapIdx_eq_zipIdx_map]
    have : ∀ (k : Nat) (l : List Nat), (∀ c ∈ l, c < 128) → (l.zipIdx k).map (fun p => (Unicode.upperOf p.1).toArray) = l.map fun c => #[upC c] := by
      intro k l
      induction l generalizing k with
      | nil => intro _; rfl
      | cons c r ih =>
        intro hl
        rw [List.zipIdx_cons, List.map_cons, List.map_cons, ih (k + 1) fun c hc => hl c (List.mem_cons_of_mem _ hc), up_one c (hl c List.mem_cons_self)]
    exact this 0 x fun c hc => of_decide_eq_true (List.all_eq_true.mp h c hc)
  apply Array.ext'
  show (Array.flatten _).toList = _
  rw [e, flat_one]
end Fb
set_option Elab.async false
set_option linter.all false
set_option maxRecDepth 100000
set_option maxHeartbeats 2000000
/-! Fb5b: str(), isinstance, methods of lists and texts by values. -/
namespace Fb
open PySem PySem.Spec PyProof.Rows L2 TL
theorem SO_tl (x : Str) : SO (tl x) = x := mk_tl x
theorem repr_neg (n : Nat) : toString (Int.negSucc n) = "-" ++ toString (n + 1) := rfl
theorem int_text (i : Int) : Str.ofString (toString i) = SO (intText i) := by
  rw [← SO_tl (Str.ofString (toString i))]
  refine congrArg SO ?_
  cases i with
  | ofNat n =>
    rw [show tl (Str.ofString (toString (Int.ofNat n))) = numL n from tl_num n]
    rfl
  | negSucc n =>
    rw [repr_neg, tl_ofString, String.toList_append, List.map_append]
    have e : (toString (n + 1)).toList.map Char.toNat = numL (n + 1) := by
      have h := tl_num (n + 1)
      rw [tl_ofString] at h
      exact h
    rw [e]
    unfold intText
    rw [if_pos (Int.negSucc_lt_zero n)]
    have e2 : List.map Char.toNat "-".toList = [45] := by decide
    rw [e2]
    rfl
theorem digits_ok (n : Nat) : okS (numL n) = true := List.all_eq_true.mpr fun c hc => by
  have h := numL_digits n
  have h2 : 48 ≤ c ∧ c ≤ 57 := by
    by_cases h3 : c < 48 ∨ 57 < c
    · exact absurd hc (numL_free h3)
    · omega
  exact decide_eq_true (by omega)
theorem intText_ok (i : Int) : okS (intText i) = true := by
  unfold intText
  split
  · show okS ([45] ++ digitsOf i.natAbs) = true
    exact okS_app rfl (digits_ok i.natAbs)
  · exact digits_ok i.natAbs
section
variable {X : Cx}
theorem blt_str : CallR X (.type "str") (rBlt X.K .str) := by
  have h1 : CallR X (.type "str") _ := CallR.or call_str_int SkE.call_str_str
  refine CallR.imp' h1 ?_
  rintro xs H Q ⟨B, m, S, as, H0, d, t, r, hn, e, Z, W, h⟩
  unfold bltD at e
  split at e <;> try contradiction
  · split at e
    · cases e
      obtain ⟨v, rfl, rv⟩ := r.one
      refine .inl ⟨_, by rw [rv.int_of], by assumption, ?_⟩
      rw [int_text]
      exact fin_plain t h (.str _ (intText_ok _)) fun _ e => nomatch e
    · cases e
  · cases e
    obtain ⟨v, rfl, rv⟩ := r.one
    exact .inr ⟨_, by rw [rv.str_of], by rw [← rv.str_of]; exact fin_plain t h rv fun _ e => nomatch e⟩
end
/-! ### isinstance -/
def tyN : D → String
  | .non => "NoneType" | .bl _ => "bool" | .int _ => "int" | .str _ => "str" | .tup _ => "tuple" | .lst _ => "list" | .ro _ => "list" | .cell _ => "list"
def tyS : Ty → String
  | .str => "str" | .int => "int" | .bool => "bool" | .tup => "tuple" | .lst => "list"
def D.isT : D → Ty → Bool
  | .str _, .str => true
  | .int _, .int => true
  | .bl _, .int => true
  | .bl _, .bool => true
  | .tup _, .tup => true
  | .lst _, .lst => true
  | .ro _, .lst => true
  | .cell _, .lst => true
  | _, _ => false
section
variable {K : Fg} {B m : List Addr} {H : Hp} {S : Store}
theorem RelD.tyx (t : At K B m S H) {d : D} {v : V} (r : RelD K B m H d v) : TyX K H v (.type (tyN d)) := by
  cases r with
  | non => exact .base .non
  | bl b => exact .base (.bl b)
  | int i => exact .base (.int i)
  | str x h => exact .base (.str _)
  | tup q _ =>
    rcases q with ⟨h | ⟨o, h⟩, _⟩ | ⟨o, its, n, h, c, _⟩
    · exact .base (.tup h)
    · exact .fTuple h
    · exact .kTuple h c
  | lst q _ => exact .base (.lst q.1)
  | ro q _ =>
    rcases q with ⟨h | ⟨o, h⟩, _⟩ | ⟨o, its, n, h, c, _⟩
    · exact .base (.lst h)
    · exact .base (.frz h)
    · exact .kList h c
  | cell e =>
    obtain ⟨vs, h⟩ := t.mlive (List.mem_of_getElem? e)
    exact .base (.lst h)
theorem isT_isTy (t : At K B m S H) {d : D} {v : V} (r : RelD K B m H d v) (y : Ty) : D.isTy S d y = D.isT d y := by
  cases r with
  | @cell n a e =>
    cases y <;> first | rfl | skip
    have hn : n < S.length := by rw [t.len]; exact (List.getElem?_eq_some_iff.mp e).1
    show (ownOf S (.cell n)).isSome = true
    show (match S[n]? with
      | some (.lst xs) => some xs
      | none => none).isSome = true
    rw [List.getElem?_eq_getElem hn]
    cases S[n] with
    | lst xs => rfl
  | _ => cases y <;> rfl
end
theorem kit_eq (K : Fg) (d : D) (y : Ty) : PySem.W.kitOne K (.type (tyN d)) (.type (tyS y)) = some (D.isT d y) := by
  cases d <;> cases y <;> first | rfl | kernel_rfl
theorem kit_any (K : Fg) (d : D) : ∀ ys : List Ty, PySem.W.kitAny K (.type (tyN d)) (ys.map fun y => .type (tyS y)) = some (ys.any (D.isT d))
  | [] => rfl
  | y :: ys => by
    rw [List.map_cons, List.any_cons]
    unfold PySem.W.kitAny
    rw [kit_eq]
    cases D.isT d y with
    | true => rfl
    | false => exact kit_any K d ys

section
variable {X : Cx}
/-- isinstance(x, T) -/
theorem isi_one : CallR X (.builtin "isinstance") (fun xs H Q => ∃ B m S a v y, At X.K B m S H ∧ RelD X.K B m H a v ∧ xs = [v, .ty (tyS y)] ∧ Q (.bl (D.isTy S a y)) H) := by
  refine CallR.imp' call_isi ?_
  rintro xs H Q ⟨B, m, S, a, v, y, t, r, rfl, q⟩
  rw [isT_isTy t r] at q
  exact ⟨v, _, _, _, _, rfl, .ty _, r.tyx t, kit_eq _ _ _, q⟩
theorem paired_ty : ∀ ys : List Ty, Paired ClsV (ys.map fun y => V.ty (tyS y)) (ys.map fun y => Value.type (tyS y))
  | [] => .nil
  | y :: ys => .cons (.ty _) (paired_ty ys)
theorem isi_any : CallR X (.builtin "isinstance") (fun xs H Q => ∃ B m S a v p, ∃ ys : List Ty, At X.K B m S H ∧ RelD X.K B m H a v ∧ xs = [v, .ref p] ∧ H p = some (.tup (ys.map fun y => V.ty (tyS y))) ∧ Q (.bl (ys.any (D.isTy S a))) H) := by
  refine CallR.imp' call_isiT ?_
  rintro xs H Q ⟨B, m, S, a, v, p, ys, t, r, rfl, hp, q⟩
  have e : ys.any (D.isTy S a) = ys.any (D.isT a) := by
    congr 1
    funext y
    exact isT_isTy t r y
  rw [e] at q
  exact ⟨v, p, _, _, _, _, rfl, hp, paired_ty ys, r.tyx t, kit_any _ _ _, q⟩
/-! ### methods -/
def mtT : Mt → String
  | .append => "list" | .pop => "list" | .popAt => "list" | .extend => "list" | .index => "list" | _ => "str"
def mtN : Mt → Str
  | .append => "append" | .pop => "pop" | .popAt => "pop" | .extend => "extend" | .join => "join" | .split => "split" | .startswith => "startswith" | .upper => "upper" | .index => "index" | .count => "count"
/-- methods that hand back a new list -/
def frM : Mt → Bool
  | .split => true
  | _ => false
/-- a method by values -/
def rMth (K : Fg) (mt : Mt) : V → List V → Hp → VK → Prop := fun x xs H Q => ∃ B m S a as H0 d S', At K B m S H ∧ RelD K B m H a x ∧ RelDs K B m H as xs ∧ (∀ p, H p = none → H0 p = none) ∧
  mthD S mt a as = some (d, S') ∧ ∃ Z W, FinG K Z B m H W (.ok d S') (PD K B H0 (frM mt) Q)
theorem MtR.imp' {id : String} {r r' : V → List V → Hp → VK → Prop} (h : MtR X id r) (i : ∀ x xs H Q, r' x xs H Q → r x xs H Q) : MtR X id r' :=
  fun pins s σ H x xs v us Q I rx rv q => h pins s σ H x xs v us Q I rx rv (i _ _ _ _ q)
theorem MtM.imp' {id : String} {r r' : V → List V → Hp → VK → Prop} (h : MtM X id r) (i : ∀ x xs H Q, r' x xs H Q → r x xs H Q) : MtR X id r' :=
  fun pins s σ H x xs v us Q I rx rv q => h pins s σ H x xs v us Q I rx rv (i _ _ _ _ q)
theorem cell_at {K : Fg} {B m : List Addr} {H : Hp} {S : Store} {n : Nat} {ys : List D} {p : Addr} (t : At K B m S H) (e : S[n]? = some (.lst ys)) (hp : m[n]? = some p) : ∃ vs, H p = some (.lst vs) ∧ RelDs K B m H ys vs := t.cells n _ p e hp
theorem mt_append' : MtR X "list.append" (rMth X.K .append) := by
  refine MtM.imp' mt_append ?_
  rintro x xs H Q ⟨B, m, S, a, as, H0, d, S', t, ra, rs, hn, e, Z, W, h⟩
  unfold mthD at e
  split at e <;> try contradiction
  obtain ⟨p, rfl, hp⟩ := ra.cell_of
  obtain ⟨y, rfl, ry⟩ := rs.one
  split at e
  · split at e
    · rename_i q hz
      cases e
      obtain ⟨vs, h1, r1⟩ := cell_at t q hp
      exact ⟨p, vs, y, rfl, rfl, h1, by rw [← r1.len, ← SL_eq]; exact hz, fin_put t hp (r1.app (.cons ry .nil)) h .non (fun e => nomatch e)⟩
    · cases e
  · cases e
theorem mt_extend' : MtR X "list.extend" (rMth X.K .extend) := by
  refine MtM.imp' mt_extend ?_
  rintro x xs H Q ⟨B, m, S, a, as, H0, d, S', t, ra, rs, hn, e, Z, W, h⟩
  unfold mthD at e
  split at e <;> try contradiction
  obtain ⟨p, rfl, hp⟩ := ra.cell_of
  obtain ⟨y, rfl, ry⟩ := rs.one
  split at e
  · split at e
    · rename_i q1 q2 hz
      cases e
      obtain ⟨vs, h1, r1⟩ := cell_at t q1 hp
      obtain ⟨b, us, rfl, h2, r2⟩ := ry.own_of t q2
      exact ⟨p, b, vs, us, rfl, rfl, h1, h2, by rw [← r1.len, ← r2.len, ← SL_eq]; exact hz, fin_put t hp (r1.app r2) h .non (fun e => nomatch e)⟩
    · cases e
  · cases e
theorem mt_pop' : MtR X "list.pop" (rMth X.K .pop) := by
  refine MtM.imp' mt_pop ?_
  rintro x xs H Q ⟨B, m, S, a, as, H0, d, S', t, ra, rs, hn, e, Z, W, h⟩
  unfold mthD at e
  split at e <;> try contradiction
  obtain ⟨p, rfl, hp⟩ := ra.cell_of
  cases rs
  split at e
  · rename_i ys q
    cases q2 : ys[ys.length - 1]? with
    | none => rw [q2] at e; cases e
    | some y =>
      rw [q2] at e
      cases e
      obtain ⟨vs, h1, r1⟩ := cell_at t q hp
      obtain ⟨v, h2, r2⟩ := r1.get q2
      exact ⟨p, vs, v, rfl, rfl, h1, by rw [← r1.len]; exact h2, fin_put t hp r1.dropLast h r2 (fun e => nomatch e)⟩
  · cases e
theorem mt_popAt' : MtR X "list.pop" (rMth X.K .popAt) := by
  refine MtM.imp' mt_popAt ?_
  rintro x xs H Q ⟨B, m, S, a, as, H0, d, S', t, ra, rs, hn, e, Z, W, h⟩
  unfold mthD at e
  split at e <;> try contradiction
  obtain ⟨p, rfl, hp⟩ := ra.cell_of
  obtain ⟨y, rfl, ry⟩ := rs.one
  split at e
  · rename_i ys q
    split at e
    · rename_i hz
      cases q2 : ys[Int.toNat _]? with
      | none => rw [q2] at e; cases e
      | some y =>
        rw [q2] at e
        cases e
        obtain ⟨vs, h1, r1⟩ := cell_at t q hp
        obtain ⟨v, h2, r2⟩ := r1.get q2
        have hl := r1.len
        have hs : SL = 16777216 := rfl
        refine ⟨p, vs, _, _, v, rfl, by rw [ry.int_of], h1, by omega, by omega, ?_, h2, fin_put t hp (r1.erase _) h r2 (fun e => nomatch e)⟩
        exact (ixN_seq (by unfold ixN; rw [if_pos hz.1, if_pos (by omega)])).1
    · cases e
  · cases e
theorem join_SO (s : List Nat) (zs : List (List Nat)) : Txt.join (SO s) (zs.map SO) = SO (joinD s zs) := by
  rw [join_eq, ← SO_tl (Str.join (SO s) (zs.map SO)), tl_join]
  refine congrArg SO ?_
  have e : (zs.map SO).map tl = zs := by
    rw [List.map_map]
    exact (List.map_congr_left (fun z _ => rfl)).trans (List.map_id zs)
  rw [e]
  show joinL s zs = joinD s zs
  clear e
  induction zs with
  | nil => rfl
  | cons z r ih =>
    cases r with
    | nil => rfl
    | cons y r' =>
      show z ++ (s ++ joinL s (y :: r')) = z ++ s ++ joinD s (y :: r')
      rw [ih, List.append_assoc]
theorem join_ok {s : List Nat} (hs : okS s = true) : ∀ zs : List (List Nat), (∀ z ∈ zs, okS z = true) → okS (joinD s zs) = true
  | [], _ => rfl
  | [z], h => h z List.mem_cons_self
  | z :: y :: r, h => okS_app (okS_app (h z List.mem_cons_self) hs) (join_ok hs (y :: r) fun w hw => h w (List.mem_cons_of_mem _ hw))
theorem mt_join' : MtR X "str.join" (rMth X.K .join) := by
  refine MtR.imp' mt_join ?_
  rintro x xs H Q ⟨B, m, S, a, as, H0, d, S', t, ra, rs, hn, e, Z, W, h⟩
  unfold mthD at e
  split at e <;> try contradiction
  obtain ⟨y, rfl, ry⟩ := rs.one
  split at e
  · rename_i ys q
    split at e
    · rename_i zs q2
      split at e
      · rename_i hz
        cases e
        obtain ⟨p, vs, rfl, hq, r1⟩ := ry.seq_of t q
        obtain ⟨e1, e2⟩ := strs_V r1 q2
        rw [e1] at hq
        refine ⟨_, p, zs.map SO, ra.str_of, rfl, hq, ?_, ?_⟩
        · rw [SO_len, List.length_map, List.map_map]
          have e3 : zs.map ((fun z : Str => z.length) ∘ SO) = zs.map (·.length) := List.map_congr_left fun z _ => SO_len z
          rw [e3]
          exact hz
        · rw [join_SO]
          exact fin_plain t h (.str _ (join_ok ra.str_ok zs e2)) fun _ e => nomatch e
      · cases e
    · cases e
  · cases e
theorem splitD_ok {c : Nat} : ∀ {x acc : List Nat}, okS x = true → okS acc = true → ∀ z ∈ splitD c acc x, okS z = true
  | [], acc, _, ha, z, hz => by
    rw [List.mem_singleton.mp hz]; exact ha
  | a :: r, acc, hx, ha, z, hz => by
    have h2 : okS [a] = true ∧ okS r = true := by
      unfold okS at *
      rw [List.all_cons] at hx
      have := Bool.and_eq_true_iff.mp hx
      exact ⟨by simp [this.1], this.2⟩
    unfold splitD at hz
    split at hz
    · rcases List.mem_cons.mp hz with rfl | hz
      · exact ha
      · exact splitD_ok (x := r) (acc := []) h2.2 rfl z hz
    · exact splitD_ok (x := r) (acc := acc ++ [a]) h2.2 (okS_app ha h2.1) z hz
theorem strs_rel {K : Fg} {B m : List Addr} {H : Hp} : ∀ {zs : List (List Nat)}, (∀ z ∈ zs, okS z = true) → RelDs K B m H (zs.map .str) ((zs.map SO).map V.str)
  | [], _ => .nil
  | z :: r, h => .cons (.str z (h z List.mem_cons_self)) (strs_rel fun y hy => h y (List.mem_cons_of_mem _ hy))
theorem mt_split' : MtR X "str.split" (rMth X.K .split) := by
  refine MtR.imp' mt_split ?_
  rintro x xs H Q ⟨B, m, S, a, as, H0, d, S', t, ra, rs, hn, e, Z, W, h⟩
  unfold mthD at e
  split at e <;> try contradiction
  obtain ⟨y, rfl, ry⟩ := rs.one
  split at e
  · rename_i hz
    cases e
    refine ⟨_, _, ra.str_of, by rw [ry.str_of], rfl, by rw [SO_len, ← SL_eq]; exact hz.1, ?_⟩
    rw [split_SO hz.2]
    exact fun p hp => fin_lst t hn h hp (strs_rel (splitD_ok ra.str_ok rfl))
  · cases e
theorem mt_starts' : MtR X "str.startswith" (rMth X.K .startswith) := by
  refine MtR.imp' mt_startswith ?_
  rintro x xs H Q ⟨B, m, S, a, as, H0, d, S', t, ra, rs, hn, e, Z, W, h⟩
  unfold mthD at e
  split at e <;> try contradiction
  obtain ⟨y, rfl, ry⟩ := rs.one
  cases e
  refine ⟨_, _, ra.str_of, by rw [ry.str_of], ?_⟩
  rw [starts_SO]
  exact fin_plain t h (.bl _) fun _ e => nomatch e
theorem mt_count' : MtR X "str.count" (rMth X.K .count) := by
  refine MtR.imp' mt_count ?_
  rintro x xs H Q ⟨B, m, S, a, as, H0, d, S', t, ra, rs, hn, e, Z, W, h⟩
  unfold mthD at e
  split at e <;> try contradiction
  obtain ⟨y, rfl, ry⟩ := rs.one
  cases e
  refine ⟨_, _, ra.str_of, by rw [ry.str_of], ?_⟩
  rw [count_SO]
  exact fin_plain t h (.int _) fun _ e => nomatch e
theorem up_ok {x : List Nat} (h : x.all (fun c => decide (c < 128)) = true) : okS (x.map upC) = true := List.all_eq_true.mpr fun c hc => by
  obtain ⟨d, hd, rfl⟩ := List.mem_map.mp hc
  have := of_decide_eq_true (List.all_eq_true.mp h d hd)
  unfold upC
  split <;> exact decide_eq_true (by omega)
theorem mt_upper' : MtR X "str.upper" (rMth X.K .upper) := by
  refine MtR.imp' mt_upper ?_
  rintro x xs H Q ⟨B, m, S, a, as, H0, d, S', t, ra, rs, hn, e, Z, W, h⟩
  unfold mthD at e
  split at e <;> try contradiction
  cases rs
  split at e
  · rename_i hz
    cases e
    refine ⟨_, ra.str_of, rfl, by rw [SO_len]; omega, ?_⟩
    rw [upper_SO hz.2]
    exact fin_plain t h (.str _ (up_ok hz.2)) fun _ e => nomatch e
  · cases e
theorem index_V {K : Fg} {B m : List Addr} {H : Hp} {x : D} {v : V} (q : RelD K B m H x v) (g : x.flat = true) : ∀ {ds : List D} {vs : List V} {i k : Nat}, RelDs K B m H ds vs → ds.all D.flat = true → indexD x i ds = some k →
    i ≤ k ∧ (∃ z, vs[k - i]? = some z ∧ eqV z v = true) ∧ ∀ (j : Nat) (z : V), j < k - i → vs[j]? = some z → eqV z v = false
  | [], _, i, k, _, _, e => by cases e
  | d :: ds, _, i, k, .cons r1 rs, f, e => by
    rw [List.all_cons] at f
    obtain ⟨f1, f2⟩ := Bool.and_eq_true_iff.mp f
    have he := eqV_flat r1 q f1 g
    unfold indexD at e
    split at e
    · rename_i c
      cases e
      refine ⟨Nat.le_refl _, ⟨_, by rw [Nat.sub_self]; rfl, he.trans c⟩, fun j z hj => by omega⟩
    · rename_i c
      obtain ⟨h1, ⟨z, h2, h3⟩, h4⟩ := index_V q g rs f2 e
      refine ⟨by omega, ⟨z, ?_, h3⟩, fun j z hj hz => ?_⟩
      · rw [show k - i = (k - (i + 1)) + 1 by omega, List.getElem?_cons_succ]; exact h2
      · cases j with
        | zero => cases hz; rw [he]; simpa using c
        | succ j => exact h4 j z (by omega) (by simpa using hz)
theorem mt_index' : MtR X "list.index" (rMth X.K .index) := by
  refine MtR.imp' mt_index ?_
  rintro x xs H Q ⟨B, m, S, a, as, H0, d, S', t, ra, rs, hn, e, Z, W, h⟩
  have e : ∃ y ys, as = [y] ∧ lstOf S a = some ys ∧ y.flat = true ∧ ys.all D.flat = true ∧ ∃ i, indexD y 0 ys = some i ∧ d = .int (i : Nat) ∧ S' = S := by
    unfold mthD at e
    split at e <;> try contradiction
    split at e
    · rename_i ys q
      split at e
      · rename_i c
        obtain ⟨c1, c2⟩ := Bool.and_eq_true_iff.mp c
        cases q2 : indexD _ 0 ys with
        | none => rw [q2] at e; cases e
        | some i => rw [q2] at e; cases e; exact ⟨_, ys, rfl, q, c1, c2, i, q2, rfl, rfl⟩
      · cases e
    · cases e
  obtain ⟨y, ys, rfl, q, c1, c2, i, q2, rfl, rfl⟩ := e
  obtain ⟨u, rfl, ry⟩ := rs.one
  obtain ⟨p, vs, rfl, hq, r1⟩ := ra.lst_of t q
  obtain ⟨_, ⟨z, h2, h3⟩, h4⟩ := index_V ry c1 r1 c2 q2
  exact ⟨p, vs, u, i, z, rfl, rfl, hq, flat_V ry c1, flats_V r1 c2, h2, h3, h4, fin_plain t h (.int _) fun _ e => nomatch e⟩
end
end Fb
set_option Elab.async false
set_option linter.all false
set_option maxRecDepth 100000
set_option maxHeartbeats 2000000
/-! Fb6: the evaluator's expressions against the layer's, construct by construct. -/
namespace Fb
open PySem PySem.Spec PyProof.Rows L2
/-- expressions whose list, if it is one, was just made -/
def isFresh : IE → Bool
  | .lst _ => true
  | .comp .. => true
  | .bin .. => true
  | .blt b _ => true
  | .sli .. => true
  | .rev _ => true
  | .srt _ => true
  | .stp .. => true
  | .lzip .. => true
  | .mth m _ _ => frM m
  | _ => false
def Te (K : Fg) (Z : Xt) (C : Cf) (W : WX) (e : IE) : TE := fun σ H Q => ∃ B m S δ, At K B m S H ∧ RelE K B m H δ σ ∧ FinG K Z B m H (fun c d h => W c d σ h) (evE C e δ S) (PD K B H (isFresh e) Q)
def PB (Q : Bool → Hp → Prop) (b : Bool) (S' : Store) (m' : List Addr) (H' : Hp) : Prop := Q b H'
def Tb (K : Fg) (Z : Xt) (C : Cf) (W : WX) (e : IE) : TT := fun σ H Q => ∃ B m S δ, At K B m S H ∧ RelE K B m H δ σ ∧ FinG K Z B m H (fun c d h => W c d σ h) (evT C e δ S) (PB Q)
def PAs (K : Fg) (B : List Addr) (Q : List V → Hp → Prop) (ds : List D) (S' : Store) (m' : List Addr) (H' : Hp) : Prop := ∀ vs, RelDs K B m' H' ds vs → Q vs H'
def Ta (K : Fg) (Z : Xt) (C : Cf) (W : WX) (e : IE) : TA := fun σ H Q => ∃ B m S δ, At K B m S H ∧ RelE K B m H δ σ ∧ FinG K Z B m H (fun c d h => W c d σ h) (evA C e δ S) (PAs K B Q)
theorem _root_.L2.PE.imp' {X : Cx} {e : Expr} {t t' : TE} (h : PE X e t) (i : ∀ σ H Q, t' σ H Q → t σ H Q) : PE X e t' := ⟨fun pins s σ H Q I q => h.run pins s σ H Q I (i _ _ _ q)⟩
theorem _root_.L2.PT.imp' {X : Cx} {e : Expr} {t t' : TT} (h : PT X e t) (i : ∀ σ H Q, t' σ H Q → t σ H Q) : PT X e t' := ⟨fun pins s σ H Q I q => h.run pins s σ H Q I (i _ _ _ q)⟩
theorem _root_.L2.PW.imp' {X : Cx} {e : Expr} {t t' : TT} (h : PW X e t) (i : ∀ σ H Q, t' σ H Q → t σ H Q) : PW X e t' := ⟨fun w pins s σ H Q I q => h.run w pins s σ H Q I (i _ _ _ q)⟩
theorem _root_.L2.PA.imp' {X : Cx} {es : List Expr} {t t' : TA} (h : PA X es t) (i : ∀ σ H Q, t' σ H Q → t σ H Q) : PA X es t' := ⟨fun p pins s σ H Q I q => h.run p pins s σ H Q I (i _ _ _ q)⟩
/-- where one stands between two parts: from (m, H), the whole's start, to (m0, H0) -/
structure Mid (K : Fg) (B m m0 : List Addr) (S S0 : Store) (H H0 : Hp) (δ : Ev) (σ : L2.St) : Prop where
  t : At K B m S H
  t0 : At K B m0 S0 H0
  le : Le m m0 H H0
  e : RelE K B m0 H0 δ σ
section
variable {K : Fg} {Z : Xt} {C : Cf} {W : WX} {B m m0 m1 : List Addr} {S S0 S1 : Store} {H H0 H1 : Hp} {δ : Ev} {σ : L2.St} {β : Type} {P : β → Store → List Addr → Hp → Prop}
theorem Mid.start (t : At K B m S H) (e : RelE K B m H δ σ) : Mid K B m m S S H H δ σ := ⟨t, t, Le.refl, e⟩
theorem Mid.go (J : Mid K B m m0 S S0 H H0 δ σ) (l : Le m0 m1 H0 H1) (t1 : At K B m1 S1 H1) : Mid K B m m1 S S1 H H1 δ σ := ⟨J.t, t1, Le.trans J.t J.t0 J.le l, J.e.tr (l.tr J.t0)⟩
theorem Mid.none (J : Mid K B m m0 S S0 H H0 δ σ) {a : Addr} (h : H0 a = none) : H a = none := by
  cases q : H a with
  | none => rfl
  | some o => exact absurd h (J.le.live J.t0 (by rw [q]; exact fun z => by cases z))
theorem Mid.val (J : Mid K B m m0 S S0 H H0 δ σ) (l : Le m0 m1 H0 H1) {d : D} {v : V} (r : RelD K B m0 H0 d v) : RelD K B m1 H1 d v := r.tr (l.tr J.t0)
theorem Mid.vals (J : Mid K B m m0 S S0 H H0 δ σ) (l : Le m0 m1 H0 H1) {d : List D} {v : List V} (r : RelDs K B m0 H0 d v) : RelDs K B m1 H1 d v := r.tr (l.tr J.t0)
/-- the answer of a part, in what it is a part of -/
theorem Mid.part {α : Type} (J : Mid K B m m0 S S0 H H0 δ σ) {V : XK} {f : M α} {g : α → M β} (h : FinG K Z B m H V (M.bind f g S0) P) {R : α → Store → List Addr → Hp → Prop}
    (k : ∀ a S1 m1 H1, Le m0 m1 H0 H1 → At K B m1 S1 H1 → FinG K Z B m H V (g a S1) P → R a S1 m1 H1) : FinG K Z B m0 H0 V (f S0) R := by
  unfold M.bind at h
  cases e : f S0 with
  | ok a S1 =>
    rw [e] at h
    exact fun m1 H1 l t1 => k a S1 m1 H1 l t1 h
  | exc c as S1 =>
    rw [e] at h
    exact fun cls dd m1 H1 l t1 x => h cls dd m1 H1 (Le.trans J.t J.t0 J.le l) t1 x
  | bad => rw [e] at h; exact h
theorem Mid.stepE (J : Mid K B m m0 S S0 H H0 δ σ) {a : IE} {g : D → M β} (h : FinG K Z B m H (fun c d h => W c d σ h) (M.bind (evE C a δ) g S0) P) {R : VK}
    (k : ∀ v d S1 m1 H1, Le m0 m1 H0 H1 → Mid K B m m1 S S1 H H1 δ σ → RelD K B m1 H1 d v → (isFresh a = true → Fresh K B m1 S1 H0 H1 d v) → FinG K Z B m H (fun c d h => W c d σ h) (g d S1) P → R v H1) : Te K Z C W a σ H0 R :=
  ⟨B, m0, S0, δ, J.t0, J.e, J.part h fun d S1 m1 H1 l t1 h1 v r fr => k v d S1 m1 H1 l (J.go l t1) r fr h1⟩
theorem Mid.stepT (J : Mid K B m m0 S S0 H H0 δ σ) {a : IE} {g : Bool → M β} (h : FinG K Z B m H (fun c d h => W c d σ h) (M.bind (evT C a δ) g S0) P) {R : Bool → Hp → Prop}
    (k : ∀ b S1 m1 H1, Le m0 m1 H0 H1 → Mid K B m m1 S S1 H H1 δ σ → FinG K Z B m H (fun c d h => W c d σ h) (g b S1) P → R b H1) : Tb K Z C W a σ H0 R :=
  ⟨B, m0, S0, δ, J.t0, J.e, J.part h fun b S1 m1 H1 l t1 h1 => k b S1 m1 H1 l (J.go l t1) h1⟩
theorem Mid.stepA (J : Mid K B m m0 S S0 H H0 δ σ) {a : IE} {g : List D → M β} (h : FinG K Z B m H (fun c d h => W c d σ h) (M.bind (evA C a δ) g S0) P) {R : List V → Hp → Prop}
    (k : ∀ vs ds S1 m1 H1, Le m0 m1 H0 H1 → Mid K B m m1 S S1 H H1 δ σ → RelDs K B m1 H1 ds vs → FinG K Z B m H (fun c d h => W c d σ h) (g ds S1) P → R vs H1) : Ta K Z C W a σ H0 R :=
  ⟨B, m0, S0, δ, J.t0, J.e, J.part h fun ds S1 m1 H1 l t1 h1 vs r => k vs ds S1 m1 H1 l (J.go l t1) r h1⟩
/-- a part that is the whole's end -/
theorem Mid.tailE (J : Mid K B m m0 S S0 H H0 δ σ) {a : IE} {fr : Bool} {Q : VK} (hf : isFresh a = true ∨ fr = false) (h : FinG K Z B m H (fun c d h => W c d σ h) (evE C a δ S0) (PD K B H fr Q)) : Te K Z C W a σ H0 Q := by
  refine ⟨B, m0, S0, δ, J.t0, J.e, (h.rebase J.t J.t0 J.le).imp fun d S' m' H' q v r f => q v r fun f2 => ?_⟩
  rcases hf with hf | hf
  · refine ⟨fun xs e => ?_⟩
    obtain ⟨a1, vs, H2, h1, h2, h3⟩ := (f hf).of xs e
    exact ⟨a1, vs, H2, h1, J.none h2, h3⟩
  · rw [hf] at f2; cases f2
theorem Mid.tailT (J : Mid K B m m0 S S0 H H0 δ σ) {a : IE} {Q : Bool → Hp → Prop} (h : FinG K Z B m H (fun c d h => W c d σ h) (evT C a δ S0) (PB Q)) : Tb K Z C W a σ H0 Q :=
  ⟨B, m0, S0, δ, J.t0, J.e, h.rebase J.t J.t0 J.le⟩
/-- at the place where one stands -/
theorem Mid.here {α : Type} {V : XK} {r : Res α} {P : α → Store → List Addr → Hp → Prop} (J : Mid K B m m0 S S0 H H0 δ σ) (h : FinG K Z B m H V r P) : FinG K Z B m0 H0 V r P := h.rebase J.t J.t0 J.le
theorem Mid.plain {d : D} {v : V} {fr : Bool} {V : XK} {Q : VK} (J : Mid K B m m0 S S0 H H0 δ σ) (h : FinG K Z B m H V (.ok d S0) (PD K B H fr Q)) (r : RelD K B m0 H0 d v) (n : ∀ xs, d ≠ .lst xs) : Q v H0 := fin_plain J.t0 (J.here h) r n
end
section
variable {X : Cx} {K : Fg} {Z : Xt} {C : Cf} {W : WX} {a b c : Expr} {ia ib ic : IE} {pos : Pos}
theorem s_int {i : Int} {j : Nat} : PE X (.Constant (.int i) j pos) (Te K Z C W (.lit (.int i))) := pe_int.imp' fun σ H Q ⟨B, m, S, δ, t, e, h⟩ => (Mid.start t e).plain h (.int i) fun _ e => nomatch e
theorem s_bool {i : Bool} {j : Nat} : PE X (.Constant (.bool i) j pos) (Te K Z C W (.lit (.bl i))) := pe_bl.imp' fun σ H Q ⟨B, m, S, δ, t, e, h⟩ => (Mid.start t e).plain h (.bl i) fun _ e => nomatch e
theorem s_none {j : Nat} : PE X (.Constant .none j pos) (Te K Z C W (.lit .non)) := pe_non.imp' fun σ H Q ⟨B, m, S, δ, t, e, h⟩ => (Mid.start t e).plain h .non fun _ e => nomatch e
theorem s_str {x : List Nat} {j : Nat} (hx : okS x = true) : PE X (.Constant (.str (SO x)) j pos) (Te K Z C W (.lit (.str x))) := pe_str.imp' fun σ H Q ⟨B, m, S, δ, t, e, h⟩ => (Mid.start t e).plain h (.str x hx) fun _ e => nomatch e
theorem FinG.ret {K : Fg} {Z : Xt} {B m : List Addr} {H : Hp} {V : XK} {α : Type} {a : α} {S : Store} {P : α → Store → List Addr → Hp → Prop} (h : FinG K Z B m H V (M.ret a S) P) : FinG K Z B m H V (.ok a S) P := h
theorem s_var {i : Nat} {x : Str} (hN : X.N[i]? = some x) (hv : Vis X.env.scope x) (hd : (x == ("__debug__" : Str)) = false) (hcd : (x == ("__classdict__" : Str)) = false) : PE X (.Name x pos) (Te K Z C W (.var i)) :=
  (pe_var hN hv hd hcd).imp' fun σ H Q ⟨B, m, S, δ, t, e, h⟩ => by
    obtain ⟨d, h1, h2⟩ := FinG.opt (show FinG K Z B m H _ (M.opt (δ[i]?.join) S) _ from h)
    obtain ⟨v, hv, r⟩ := e.2 i d (join_some h1)
    exact ⟨v, hv, h2.now t v r fun f => nomatch (show false = true from f)⟩
theorem s_glo {y : List Nat} {x : Str} {d : D} {v : V} {u : Value} (hg : Gl X x) (hm : X.mg x = some u) (r : RelV v u) (q : ∀ B m H, (∀ a ∈ m, H a ≠ none) → RelD K B m H d v) (hd : (x == ("__debug__" : Str)) = false) : PE X (.Name x pos) (Te K Z C W (.glo y d)) :=
  (pe_glob hg hm r hd).imp' fun σ H Q ⟨B, m, S, δ, t, e, h⟩ => (FinG.ret h).now t v (q B m H fun a ha => by obtain ⟨vs, z⟩ := t.mlive ha; rw [z]; exact fun w => by cases w) fun f => nomatch (show false = true from f)
theorem s_bin {o : Bo} (ha : PE X a (Te X.K Z C W ia)) (hb : PE X b (Te X.K Z C W ib)) : PE X (.BinOp a (boOf o) b pos) (Te X.K Z C W (.bin o ia ib)) :=
  (pe_op (boOp o) ha hb).imp' fun σ H Q ⟨B, m, S, δ, t, e, h⟩ => by
    refine (Mid.start t e).stepE h fun v d S1 m1 H1 l1 M1 r1 _ h1 => ?_
    refine M1.stepE h1 fun u d2 S2 m2 H2 l2 M2 r2 _ h2 => ?_
    obtain ⟨d3, e3, h3⟩ := FinG.opt (show FinG X.K Z B m H _ (M.opt (binD S2 o d d2) S2) _ from h2)
    exact ⟨B, m2, S2, d, d2, H, d3, M2.t0, M1.val l2 r1, r2, fun p hp => M2.none hp, e3, Z, _, M2.here h3⟩
theorem s_neg (ha : PE X a (Te X.K Z C W ia)) : PE X (.UnaryOp .USub a pos) (Te X.K Z C W (.neg ia)) :=
  (pe_un un_neg ha).imp' fun σ H Q ⟨B, m, S, δ, t, e, h⟩ => by
    refine (Mid.start t e).stepE h fun v d S1 m1 H1 l1 M1 r1 _ h1 => ?_
    cases d with
    | int i => exact ⟨i, r1.int_of, M1.plain h1 (.int _) fun _ e => nomatch e⟩
    | _ => exact False.elim h1
theorem truth_part {K : Fg} {B m m0 : List Addr} {S S0 : Store} {H H0 : Hp} {δ : Ev} {σ : L2.St} {β : Type} {P : β → Store → List Addr → Hp → Prop} {V' : XK} {d : D} {g : Bool → M β} (J : Mid K B m m0 S S0 H H0 δ σ) (h : FinG K Z B m H V' (M.bind (truthM d) g S0) P) :
    ∃ b, truthD S0 d = some b ∧ FinG K Z B m H V' (g b S0) P := by
  unfold M.bind truthM at h
  cases e : truthD S0 d with
  | none => rw [e] at h; exact False.elim h
  | some b => rw [e] at h; exact ⟨b, rfl, h⟩
theorem bind_bind {α β γ : Type} (f : M α) (g : α → M β) (k : β → M γ) (S : Store) : M.bind (M.bind f g) k S = M.bind f (fun a => M.bind (g a) k) S := by
  unfold M.bind
  cases f S <;> rfl
theorem bind_ret {α β : Type} (a : α) (g : α → M β) (S : Store) : M.bind (M.ret a) g S = g a S := rfl
theorem s_not (ha : PE X a (Te X.K Z C W ia)) : PE X (.UnaryOp .Not a pos) (Te X.K Z C W (.not ia)) :=
  (pe_notT ha).imp' fun σ H Q ⟨B, m, S, δ, t, e, h⟩ => by
    have h : FinG X.K Z B m H _ (M.bind (M.bind (evE C ia δ) truthM) (fun b => M.ret (D.bl !b)) S) (PD X.K B H _ Q) := h
    rw [bind_bind] at h
    refine (Mid.start t e).stepE h fun v d S1 m1 H1 l1 M1 r1 _ h1 => ?_
    obtain ⟨b, e1, h2⟩ := truth_part M1 h1
    exact ⟨b, r1.truth M1.t0 e1, M1.plain h2 (.bl _) fun _ e => nomatch e⟩
theorem s_and {rest : List Expr} (ha : PE X a (Te X.K Z C W ia)) (hb : PE X (.BoolOp .And (b :: rest) pos) (Te X.K Z C W ib)) : PE X (.BoolOp .And (a :: b :: rest) pos) (Te X.K Z C W (.and ia ib)) :=
  (pe_andT ha hb).imp' fun σ H Q ⟨B, m, S, δ, t, e, h⟩ => by
    refine (Mid.start t e).stepE h fun v d S1 m1 H1 l1 M1 r1 _ h1 => ?_
    obtain ⟨k, e1, h2⟩ := truth_part M1 h1
    refine ⟨k, r1.truth M1.t0 e1, ?_⟩
    cases k with
    | true => exact M1.tailE (.inr rfl) h2
    | false => exact (FinG.ret (M1.here h2)).now M1.t0 v r1 fun f => nomatch (show false = true from f)
theorem s_or {rest : List Expr} (ha : PE X a (Te X.K Z C W ia)) (hb : PE X (.BoolOp .Or (b :: rest) pos) (Te X.K Z C W ib)) : PE X (.BoolOp .Or (a :: b :: rest) pos) (Te X.K Z C W (.or ia ib)) :=
  (pe_orT ha hb).imp' fun σ H Q ⟨B, m, S, δ, t, e, h⟩ => by
    refine (Mid.start t e).stepE h fun v d S1 m1 H1 l1 M1 r1 _ h1 => ?_
    obtain ⟨k, e1, h2⟩ := truth_part M1 h1
    refine ⟨k, r1.truth M1.t0 e1, ?_⟩
    cases k with
    | false => exact M1.tailE (.inr rfl) h2
    | true => exact (FinG.ret (M1.here h2)).now M1.t0 v r1 fun f => nomatch (show false = true from f)
theorem s_ite (hc : PT X c (Tb X.K Z C W ic)) (ha : PE X a (Te X.K Z C W ia)) (hb : PE X b (Te X.K Z C W ib)) : PE X (.IfExp c a b pos) (Te X.K Z C W (.ite ic ia ib)) :=
  (pe_ifExp hc ha hb).imp' fun σ H Q ⟨B, m, S, δ, t, e, h⟩ => by
    refine (Mid.start t e).stepT (show FinG X.K Z B m H _ (M.bind (evT C ic δ) (fun t => if t then evE C ia δ else evE C ib δ) S) _ from h) fun k S1 m1 H1 l1 M1 h1 => ?_
    cases k with
    | true => exact M1.tailE (.inr rfl) h1
    | false => exact M1.tailE (.inr rfl) h1
theorem s_cmp {o : Co} (hu : X.A.units + 65 < cLine) (ha : PE X a (Te X.K Z C W ia)) (hb : PE X b (Te X.K Z C W ib)) (hm : behindInMarks (coOf o) b = false) : PE X (.Compare a [coOf o] [b] pos) (Te X.K Z C W (.cmp o ia ib)) :=
  (pe_cmpR (coOp hu o) ha hb hm).imp' fun σ H Q ⟨B, m, S, δ, t, e, h⟩ => by
    refine (Mid.start t e).stepE h fun v d S1 m1 H1 l1 M1 r1 _ h1 => ?_
    refine M1.stepE h1 fun u d2 S2 m2 H2 l2 M2 r2 _ h2 => ?_
    unfold M.bind cmpM at h2
    cases q : cmpD S2 o d d2 with
    | none => rw [q] at h2; exact False.elim h2
    | some z =>
      rw [q] at h2
      exact ⟨B, m2, S2, d, d2, z, M2.t0, M1.val l2 r1, r2, q, M2.plain h2 (.bl z) fun _ e => nomatch e⟩
theorem s_chn {o o' : Co} (hu : X.A.units + 65 < cLine) (ha : PE X a (Te X.K Z C W ia)) (hb : PE X b (Te X.K Z C W ib)) (hc : PE X c (Te X.K Z C W ic)) (hm : lastMarks [coOf o, coOf o'] [b, c] = false) :
    PE X (.Compare a [coOf o, coOf o'] [b, c] pos) (Te X.K Z C W (.chn o o' ia ib ic)) :=
  (pe_chain (coOp hu o) (coOp hu o') ha hb hc hm).imp' fun σ H Q ⟨B, m, S, δ, t, e, h⟩ => by
    refine (Mid.start t e).stepE h fun v d S1 m1 H1 l1 M1 r1 _ h1 => ?_
    refine M1.stepE h1 fun u d2 S2 m2 H2 l2 M2 r2 _ h2 => ?_
    unfold M.bind cmpM at h2
    cases q : cmpD S2 o d d2 with
    | none => rw [q] at h2; exact False.elim h2
    | some z =>
      rw [q] at h2
      refine ⟨B, m2, S2, d, d2, z, M2.t0, M1.val l2 r1, r2, q, z, rfl, ?_⟩
      cases z with
      | false => exact M2.plain h2 (.bl false) fun _ e => nomatch e
      | true =>
        rw [if_pos rfl]
        have h2 : FinG X.K Z B m H (fun c d h => W c d σ h) (M.bind (evE C ic δ) (fun z => M.bind (cmpM o' d2 z) fun t' => M.ret (.bl t')) S2) (PD X.K B H _ Q) := h2
        refine M2.stepE h2 fun x3 d3 S3 m3 H3 l3 M3 r3 _ h3 => ?_
        unfold M.bind cmpM at h3
        cases q3 : cmpD S3 o' d2 d3 with
        | none => rw [q3] at h3; exact False.elim h3
        | some z3 =>
          rw [q3] at h3
          exact ⟨B, m3, S3, d2, d3, z3, M3.t0, M2.val l3 r2, r3, q3, M3.plain h3 (.bl z3) fun _ e => nomatch e⟩
end
end Fb
set_option Elab.async false
set_option linter.all false
set_option maxRecDepth 100000
set_option maxHeartbeats 1000000
/-! Fbs: x[lo::k], x[::-1] of lists. -/
namespace Fb
open PySem PySem.Spec PyProof.Rows L2
theorem stepL_skip {α : Type} (k : Nat) : ∀ (j : Nat) (l : List α), stepL k j l = stepL k 0 (l.drop j)
  | 0, l => by rw [List.drop_zero]
  | j + 1, [] => rfl
  | j + 1, x :: r => by
    show stepL k j r = _
    rw [stepL_skip k j r, List.drop_succ_cons]
theorem stepL_cons {α : Type} (k : Nat) (x : α) (r : List α) : stepL k 0 (x :: r) = x :: stepL k 0 (r.drop (k - 1)) := by
  show x :: stepL k (k - 1) r = _
  rw [stepL_skip]
theorem stepL_nil {α : Type} (k j : Nat) : stepL k j ([] : List α) = [] := by cases j <;> rfl
theorem pick_step {α : Type} (xs : List α) {k : Nat} (hk : 1 ≤ k) : ∀ (c a : Nat), xs.length ≤ a + k * c → (c = 0 ∨ a + k * (c - 1) < xs.length) → ((List.range c).map fun i => a + k * i).filterMap (xs[·]?) = stepL k 0 (xs.drop a)
  | 0, a, h, _ => by
    rw [List.drop_eq_nil_of_le (by omega)]
    rfl
  | c + 1, a, h1, h2 => by
    have h2 : a + k * c < xs.length := h2.elim (fun z => nomatch z) fun z => z
    have ha : a < xs.length := Nat.lt_of_le_of_lt (Nat.le_add_right _ _) h2
    rw [List.range_succ_eq_map, List.map_cons, List.filterMap_cons, Nat.mul_zero, Nat.add_zero, List.getElem?_eq_getElem ha]
    have ed : xs.drop a = xs[a] :: xs.drop (a + 1) := List.drop_eq_getElem_cons ha
    rw [ed, stepL_cons, List.drop_drop, show a + 1 + (k - 1) = a + k by omega]
    have ih := pick_step xs hk c (a + k) (by rw [Nat.mul_succ] at h1; omega) (by
      cases c with
      | zero => exact .inl rfl
      | succ c => refine .inr ?_; rw [Nat.mul_succ] at h2; simp; omega)
    rw [← ih, List.map_map]
    have ef : ((fun i => a + k * i) ∘ Nat.succ) = fun i => a + k + k * i := by
      funext i
      show a + k * (i + 1) = a + k + k * i
      rw [Nat.mul_succ]; omega
    rw [ef]
def loO (lo : Nat) (b : Bool) : Option Int := if b then some (lo : Int) else none
theorem slicePick_step (items : Array Value) {lo k : Nat} {b : Bool} (hk : 1 ≤ k) (hb : b = false → lo = 0) : (slicePick items (loO lo b) none (some (k : Int))).toList = stepL k 0 (items.toList.drop lo) := by
  have hk0 : (k : Int) > 0 := by omega
  have e : sliceBounds (loO lo b) none (some (k : Int)) items.size = (((min lo items.size : Nat) : Int), (items.size : Int), (k : Int)) := by
    unfold loO
    cases b with
    | true =>
      simp only [sliceBounds, Option.getD_some, if_true]
      have h1 : ¬ ((lo : Int) < 0) := by omega
      simp only [h1, if_false, hk0, if_true]
      congr 1
      first | omega | (push_cast; omega)
    | false =>
      have := hb rfl
      subst this
      simp only [sliceBounds, Option.getD_some, Bool.false_eq_true, if_false, hk0, if_true]
      first | done | (congr 1; done) | (congr 1; omega) | simp

  unfold slicePick
  rw [e]
  show ((sliceRange ((min lo items.size : Nat) : Int) (items.size : Int) (k : Int)).filterMap (items[·]?)).toArray.toList = _
  have hd : stepL k 0 (items.toList.drop lo) = stepL k 0 (items.toList.drop (min lo items.size)) := by
    by_cases h : lo ≤ items.size
    · rw [Nat.min_eq_left h]
    · rw [List.drop_eq_nil_of_le (by rw [Array.length_toList]; omega), List.drop_eq_nil_of_le (by rw [Array.length_toList]; omega)]
  rw [hd]
  have hm : min lo items.size ≤ items.size := Nat.min_le_right _ _
  generalize min lo items.size = a at hm ⊢
  unfold sliceRange
  simp only [hk0, if_true]
  have key : ∀ c : Nat, items.size ≤ a + k * c → (c = 0 ∨ a + k * (c - 1) < items.size) → (((List.range c).map fun (i : Nat) => ((a : Int) + (k : Int) * (i : Int)).toNat).filterMap (items[·]?)) = stepL k 0 (items.toList.drop a) := fun c h1 h2 => by
    rw [← pick_step items.toList hk c a (by rw [Array.length_toList]; exact h1) (by rw [Array.length_toList]; exact h2)]
    have e1 : ((List.range c).map fun (i : Nat) => ((a : Int) + (k : Int) * (i : Int)).toNat) = (List.range c).map fun i => a + k * i := List.map_congr_left fun i _ => by
      rw [show (a : Int) + (k : Int) * (i : Int) = ((a + k * i : Nat) : Int) by push_cast; rfl, Int.toNat_natCast]
    rw [e1]
    congr 1
    funext j
    exact Array.getElem?_toList.symm
  by_cases h : a < items.size
  · rw [if_pos (by omega)]
    generalize hq : ((items.size : Int) - (a : Int) + (k : Int) - 1) / (k : Int) = q
    have d1 := Int.mul_ediv_add_emod ((items.size : Int) - (a : Int) + (k : Int) - 1) (k : Int)
    have d2 := Int.emod_nonneg ((items.size : Int) - (a : Int) + (k : Int) - 1) (show (k : Int) ≠ 0 by omega)
    have d3 := Int.emod_lt_of_pos ((items.size : Int) - (a : Int) + (k : Int) - 1) hk0
    rw [hq] at d1
    have q0 : 0 < q := by
      rcases Int.lt_or_le 0 q with h | h
      · exact h
      · have : (k : Int) * q ≤ 0 := Int.mul_nonpos_of_nonneg_of_nonpos (by omega) h
        omega
    obtain ⟨c, rfl⟩ : ∃ c : Nat, q = (c : Int) := ⟨q.toNat, by omega⟩
    rw [Int.toNat_natCast]
    have hc : 0 < c := by omega
    refine key c ?_ (.inr ?_)
    · have : (items.size : Int) ≤ a + k * c := by omega
      exact_mod_cast this
    · have e2 : (k : Int) * (c : Int) = (k : Int) * ((c - 1 : Nat) : Int) + k := by
        rw [show (c : Int) = ((c - 1 : Nat) : Int) + 1 by omega, Int.mul_add, Int.mul_one]
      have : (a : Int) + k * ((c - 1 : Nat) : Int) < items.size := by omega
      exact_mod_cast this
  · rw [if_neg (by omega)]
    exact key 0 (by omega) (.inl rfl)
theorem RelDs.step {K : Fg} {B m : List Addr} {H : Hp} (k : Nat) : ∀ {ds : List D} {vs : List V} (j : Nat), RelDs K B m H ds vs → RelDs K B m H (stepL k j ds) (stepL k j vs)
  | _, _, j, .nil => by rw [stepL_nil, stepL_nil]; exact .nil
  | _, _, 0, .cons r s => .cons r (s.step k (k - 1))
  | _, _, j + 1, .cons _ s => s.step k j
theorem vals_step (k : Nat) : ∀ {vs : List V} {us : List Value} (j : Nat), Vals vs us → Vals (stepL k j vs) (stepL k j us)
  | _, _, j, .nil => by rw [stepL_nil, stepL_nil]; exact .nil
  | _, _, 0, .cons r s => .cons r (vals_step k (k - 1) s)
  | _, _, j + 1, .cons _ s => vals_step k j s
theorem step_len {α : Type} (k : Nat) : ∀ (j : Nat) (l : List α), (stepL k j l).length ≤ l.length
  | j, [] => by rw [stepL_nil]; exact Nat.le_refl _
  | 0, x :: r => by have := step_len k (k - 1) r; show _ + 1 ≤ _ + 1; omega
  | j + 1, x :: r => by have := step_len k j r; show (stepL k j r).length ≤ _ + 1; omega
/-- x[lo::k], lo written or not -/
def loE (lo : Nat) (p : Pos) (j : Nat) : Bool → Option Expr
  | true => some (.Constant (.int lo) j p)
  | false => none
def tStp (K : PySem.W.Frag) (lo k : Nat) (te : TE) : TE := fun σ H Q => te σ H fun x H1 => ∃ a xs, x = .ref a ∧ SqL K H1 a xs ∧ ∀ p, H1 p = none → Q (.ref p) (upd H1 p (.lst (stepL k 0 (xs.drop lo))))
section
variable {X : Cx}
theorem pe_stp {e : Expr} {te : TE} {j i lo k : Nat} {b : Bool} {p1 p2 p3 pos : Pos} (hk : 1 ≤ k) (hb : b = false → lo = 0) (he : PE X e te) : PE X (.Subscript e (.Slice (loE lo p1 j b) none (some (.Constant (.int k) i p2)) p3) pos) (tStp X.K lo k te) := by
  refine ⟨fun pins s σ H Q I h => ?_⟩
  refine Subscript_ (thn (he.run pins s σ H _ I h) fun v s1 ⟨x, H1, I1, r1, q1⟩ => ?_)
  obtain ⟨a, xs, ex, hx, q⟩ := q1
  subst ex
  cases r1
  have hlo : wpAny (model X.prog X.w) X.A (evalPart (loE lo p1 j b) X.env) (fun vl s2 => ∃ o H2, Inv X pins σ H2 s2 ∧ IsPart vl o ∧ o = loO lo b ∧ H2 = H1) X.xe s1 := by
    cases b with
    | true => exact (po_some pe_int : PO X (some (.Constant (.int (lo : Int)) j p1)) (tPart (tC (.int lo)))).run pins s1 σ H1 (fun o H2 => o = loO lo true ∧ H2 = H1) I1 ⟨_, rfl, rfl, rfl⟩
    | false => exact po_none.run pins s1 σ H1 (fun o H2 => o = loO lo false ∧ H2 = H1) I1 ⟨rfl, rfl⟩
  have hst : PO X (some (.Constant (.int (k : Int)) i p2)) (tPart (tC (.int k))) := po_some pe_int
  refine wpAny_Slice (thn hlo fun vl s2 ⟨l, H2, I2, pl, el, e2⟩ => ?_)
  subst el e2
  refine thn (po_none.run pins s2 σ H2 (fun o H3 => o = none ∧ H3 = H2) I2 ⟨rfl, rfl⟩) fun vu s3 ⟨u, H3, I3, pu, eu, e3⟩ => ?_
  subst eu e3
  refine thn (hst.run pins s3 σ H3 (fun o H4 => o = some (k : Int) ∧ H4 = H3) I3 ⟨_, rfl, rfl, rfl⟩) fun vs s4 ⟨o, H4, I4, ps, eo, e4⟩ => ?_
  subst eo e4
  have I5 : Inv X pins σ H4 { s4 with heap := s4.heap.push { cls := .type "slice", data := .fields #[vl, vu, vs] } } := I4.kept (t' := s4.toks) fun b ob q => Heap.get?_push_of_some _ q
  obtain ⟨its, r, ht, hz⟩ := I5.list hx
  have hlen := r.length
  show wpAny (model X.prog X.w) X.A (subscriptTail e (.Slice (loE lo p1 j b) none (some (.Constant (.int k) i p2)) p3) (.ref a) (.ref s4.heap.objs.size)) (EP X pins σ Q) X.xe { s4 with heap := s4.heap.push { cls := .type "slice", data := .fields #[vl, vu, vs] } }
  refine tail_any (ops := [.ref a, .ref s4.heap.objs.size]) ht.isList.typeIs (PySem.slot_list_getitem.lookup) ?_ (by with_unfolding_all rfl)
  refine wpAny_getItem_list_slice ht.isList (Heap.IsSliceOf.new _ vl vu vs) pl pu ps (by simp; omega) ?_ (by rw [List.size_toArray]; omega)
  have hp := slicePick_step its.toArray (lo := lo) hk hb
  generalize slicePick its.toArray (loO lo b) none (some (k : Int)) = pk at hp ⊢
  have rs : Vals (stepL k 0 (xs.drop lo)) pk.toList := by
    rw [hp]
    exact vals_step k 0 (r.drop lo)
  refine ⟨.ref _, _, I5.laid (t' := s4.toks) (o := .lst (stepL k 0 (xs.drop lo))) (fun b ob q => Heap.get?_push_of_some _ q) (Nat.le_refl _) ?_, rfl, q _ (I5.hok.fresh (Nat.le_refl _))⟩
  exact ⟨by have := step_len k 0 (xs.drop lo); rw [List.length_drop] at this; omega, _, 0, rs, Heap.get?_push_size _ rfl⟩
variable {Z : Xt} {C : Cf} {W : WX} {e : Expr} {ie : IE}
theorem s_stp {j i lo k : Nat} {b : Bool} {p1 p2 p3 pos : Pos} (hk : 1 ≤ k) (hb : b = false → lo = 0) (he : PE X e (Te X.K Z C W ie)) : PE X (.Subscript e (.Slice (loE lo p1 j b) none (some (.Constant (.int k) i p2)) p3) pos) (Te X.K Z C W (.stp ie lo k)) :=
  (pe_stp hk hb he).imp' fun σ H Q ⟨B, m, S, δ, t, e, h⟩ => (Mid.start t e).stepE h fun v d S1 m1 H1 l1 M1 r1 _ h1 => by
    have h1 : FinG X.K Z B m H (fun c d h => W c d σ h) (M.opt (stpD S1 d lo k) S1) (PD X.K B H true Q) := h1
    obtain ⟨d2, e2, h2⟩ := h1.opt
    unfold stpD at e2
    cases q : lstOf S1 d with
    | none => rw [q] at e2; cases e2
    | some xs =>
      rw [q] at e2
      cases e2
      obtain ⟨a, vs, rfl, hq, rs⟩ := r1.lst_of M1.t0 q
      exact ⟨a, vs, rfl, hq, fun p hp => fin_lst M1.t0 (fun _ z => M1.none z) (M1.here h2) hp (RelDs.step k 0 (rs.drop lo))⟩
/-- x[::-1] of a list -/
def isLst : IE → Bool := fun _ => true
theorem s_rev {i : Nat} {p1 p2 p3 pos : Pos} (he : PE X e (Te X.K Z C W ie)) : PE X (.Subscript e (.Slice none none (some (.UnaryOp .USub (.Constant (.int 1) i p1) p2)) p3) pos) (Te X.K Z C W (.rev ie)) :=
  (pe_rev2 he).imp' fun σ H Q ⟨B, m, S, δ, t, e, h⟩ => (Mid.start t e).stepE h fun v d S1 m1 H1 l1 M1 r1 _ h1 => by
    have h1 : FinG X.K Z B m H (fun c d h => W c d σ h) (M.opt (revD S1 d) S1) (PD X.K B H true Q) := h1
    obtain ⟨d2, e2, h2⟩ := h1.opt
    unfold revD at e2
    split at e2
    · rename_i xs
      cases e2
      cases r1 with
      | tup q rs => exact ⟨_, _, rfl, .inr ⟨q.sq, fun p hp => fin_tup M1.t0 (M1.here h2) hp rs.rev⟩⟩
    · cases q : lstOf S1 d with
      | none => rw [q] at e2; cases e2
      | some xs =>
        rw [q] at e2
        cases e2
        obtain ⟨a, vs, rfl, hq, rs⟩ := r1.lst_of M1.t0 q
        exact ⟨a, vs, rfl, .inl ⟨hq, fun p hp => fin_lst M1.t0 (fun _ z => M1.none z) (M1.here h2) hp rs.rev⟩⟩
end
end Fb
set_option Elab.async false
set_option linter.all false
set_option maxRecDepth 100000
set_option maxHeartbeats 2000000
/-! Fb7: argument lists, displays, subscripts, slices, calls. -/
namespace Fb
open PySem PySem.Spec PyProof.Rows L2
def notStar : Expr → Bool
  | .Starred _ _ => false
  | _ => true
theorem star_cons {e : Expr} {es : List Expr} {env : Env} (h : notStar e = true) : starEach (e :: es) env = (false, eval e env) :: starEach es env := by
  cases e <;> first | rfl | exact absurd h Bool.false_ne_true
def noStars (es : List Expr) : Bool := es.all notStar
theorem plain_args {pos : Pos} {env : Env} : ∀ {es : List Expr}, noStars es = true → (backTo pos (starEach es env)).any (·.1) = false
  | [], _ => rfl
  | e :: es, h => by
    have h2 := Bool.and_eq_true_iff.mp (show (notStar e && es.all notStar) = true from h)
    rw [star_cons h2.1]
    have ih := plain_args (pos := pos) (env := env) (es := es) h2.2
    cases es with
    | nil => rfl
    | cons a r =>
      have h3 := Bool.and_eq_true_iff.mp (show (notStar a && r.all notStar) = true from h2.2)
      rw [star_cons h3.1] at ih ⊢
      exact ih
section
variable {X : Cx} {Z : Xt} {C : Cf} {W : WX} {a b c e : Expr} {es : List Expr} {ia ib ic ie ies : IE} {pos : Pos}
theorem s_nil : PA X [] (Ta X.K Z C W .nil) := pa_nil.imp' fun σ H Q ⟨B, m, S, δ, t, e, h⟩ => (FinG.ret h).now t [] .nil
theorem s_cons (hs : notStar e = true) (ha : PE X e (Te X.K Z C W ie)) (hr : PA X es (Ta X.K Z C W ies)) : PA X (e :: es) (Ta X.K Z C W (.cons ie ies)) :=
  (pa_cons ha hr (star_cons hs)).imp' fun σ H Q ⟨B, m, S, δ, t, e, h⟩ => by
    refine (Mid.start t e).stepE h fun v d S1 m1 H1 l1 M1 r1 _ h1 => ?_
    refine M1.stepA h1 fun vs ds S2 m2 H2 l2 M2 r2 h2 => ?_
    exact (FinG.ret (M2.here h2)).now M2.t0 (v :: vs) (.cons (M1.val l2 r1) r2)
theorem s_tup {k : Nat} (ha : PA X es (Ta X.K Z C W ies)) : PE X (.Tuple es k pos) (Te X.K Z C W (.tup ies)) :=
  (pe_tup ha).imp' fun σ H Q ⟨B, m, S, δ, t, e, h⟩ => by
    refine (Mid.start t e).stepA h fun vs ds S1 m1 H1 l1 M1 r1 h1 => ?_
    by_cases hz : ds.length ≤ SL
    · rw [if_pos hz] at h1
      exact ⟨by rw [← r1.len, ← SL_eq]; exact hz, fun p hp => fin_tup M1.t0 (M1.here (FinG.ret h1)) hp r1⟩
    · rw [if_neg hz] at h1; exact False.elim h1
theorem s_lst (ha : PA X es (Ta X.K Z C W ies)) : PE X (.List es pos) (Te X.K Z C W (.lst ies)) :=
  (pe_lst ha).imp' fun σ H Q ⟨B, m, S, δ, t, e, h⟩ => by
    refine (Mid.start t e).stepA h fun vs ds S1 m1 H1 l1 M1 r1 h1 => ?_
    by_cases hz : ds.length ≤ SL
    · rw [if_pos hz] at h1
      exact ⟨by rw [← r1.len, ← SL_eq]; exact hz, fun p hp => fin_lst M1.t0 (fun a ha => M1.none ha) (M1.here (FinG.ret h1)) hp r1⟩
    · rw [if_neg hz] at h1; exact False.elim h1
theorem s_idx (hb : PlainIx b) (ha : PE X a (Te X.K Z C W ia)) (hi : PE X b (Te X.K Z C W ib)) : PE X (.Subscript a b pos) (Te X.K Z C W (.idx ia ib)) :=
  (pe_ix op_idx ha hi hb).imp' fun σ H Q ⟨B, m, S, δ, t, e, h⟩ => by
    refine (Mid.start t e).stepE h fun v d S1 m1 H1 l1 M1 r1 _ h1 => ?_
    refine M1.stepE h1 fun u d2 S2 m2 H2 l2 M2 r2 _ h2 => ?_
    cases q : idxM d d2 S2 with
    | bad => rw [q] at h2; exact False.elim h2
    | exc cc as S3 => unfold idxM at q; split at q <;> (try split at q) <;> (try (unfold M.opt at q; split at q)) <;> cases q
    | ok d3 S3 =>
      rw [q] at h2
      obtain ⟨e3, _⟩ := idx_cases q
      subst e3
      exact ⟨B, m2, _, d, d2, d3, M2.t0, M1.val l2 r1, r2, ⟨_, q⟩, fun v3 r3 => (M2.here h2).now M2.t0 v3 r3 fun f => nomatch (show false = true from f)⟩
/-- a slice's part -/
def PP (Q : Option Int → Hp → Prop) (o : Option Int) (S' : Store) (m' : List Addr) (H' : Hp) : Prop := Q o H'
def Tp (K : Fg) (Z : Xt) (C : Cf) (W : WX) (e : IE) : TO := fun σ H Q => ∃ B m S δ, At K B m S H ∧ RelE K B m H δ σ ∧ FinG K Z B m H (fun c d h => W c d σ h) (evP C e δ S) (PP Q)
theorem _root_.L2.PO.imp' {o : Option Expr} {t t' : TO} (h : PO X o t) (i : ∀ σ H Q, t' σ H Q → t σ H Q) : PO X o t' := ⟨fun pins s σ H Q I q => h.run pins s σ H Q I (i _ _ _ q)⟩
theorem s_pnone : PO X none (Tp X.K Z C W .nil) := po_none.imp' fun σ H Q ⟨B, m, S, δ, t, e, h⟩ => (FinG.ret h).now t
theorem s_psome {r : IE} (ha : PE X e (Te X.K Z C W ie)) : PO X (some e) (Tp X.K Z C W (.cons ie r)) :=
  (po_some ha).imp' fun σ H Q ⟨B, m, S, δ, t, e, h⟩ => by
    refine (Mid.start t e).stepE h fun v d S1 m1 H1 l1 M1 r1 _ h1 => ?_
    cases d with
    | int i => exact ⟨i, r1.int_of, (FinG.ret (M1.here h1)).now M1.t0⟩
    | _ => exact False.elim h1
theorem Mid.stepP {K : Fg} {B m m0 : List Addr} {S S0 : Store} {H H0 : Hp} {δ : Ev} {σ : L2.St} {β : Type} {P : β → Store → List Addr → Hp → Prop} (J : Mid K B m m0 S S0 H H0 δ σ) {a : IE} {g : Option Int → M β}
    (h : FinG K Z B m H (fun c d h => W c d σ h) (M.bind (evP C a δ) g S0) P) {R : Option Int → Hp → Prop}
    (k : ∀ o S1 m1 H1, Le m0 m1 H0 H1 → Mid K B m m1 S S1 H H1 δ σ → FinG K Z B m H (fun c d h => W c d σ h) (g o S1) P → R o H1) : Tp K Z C W a σ H0 R :=
  ⟨B, m0, S0, δ, J.t0, J.e, J.part h fun o S1 m1 H1 l t1 h1 => k o S1 m1 H1 l (J.go l t1) h1⟩
theorem s_sli {lo hi : Option Expr} {il ih : IE} {p2 : Pos} (ha : PE X a (Te X.K Z C W ia)) (hl : PO X lo (Tp X.K Z C W il)) (hh : PO X hi (Tp X.K Z C W ih)) : PE X (.Subscript a (.Slice lo hi none p2) pos) (Te X.K Z C W (.sli ia il ih)) :=
  (pe_slice op_cut ha hl hh).imp' fun σ H Q ⟨B, m, S, δ, t, e, h⟩ => by
    refine (Mid.start t e).stepE h fun v d S1 m1 H1 l1 M1 r1 _ h1 => ?_
    refine M1.stepP h1 fun lo S2 m2 H2 l2 M2 h2 => ?_
    refine M2.stepP h2 fun hi S3 m3 H3 l3 M3 h3 => ?_
    obtain ⟨d3, e3, h4⟩ := FinG.opt (show FinG X.K Z B m H _ (M.opt (cutD S3 d lo hi) S3) _ from h3)
    exact ⟨B, m3, S3, d, H, d3, M3.t0, M2.val l3 (M1.val l2 r1), fun p hp => M3.none hp, e3, Z, _, M3.here h4⟩
/-- a def's promise, as the evaluator tells it -/
def spF (K : Fg) (Z : Xt) (f : List D → M D) : Sp := fun vs H Q E => ∃ B m S ds, At K B m S H ∧ RelDs K B m H ds vs ∧ FinG K Z B m H E (f ds S) fun d S' m' H' => ∀ v, RelD K B m' H' d v → Q v H'
theorem call_step {f : Nat} {σ : L2.St} {H : Hp} {Q : VK} (h : Te X.K Z C W (.call f ies) σ H Q) : tCallSD (spF X.K Z (C.call f)) [] (fun σ cls d H => W cls d σ H) (Ta X.K Z C W ies) σ H Q := by
  obtain ⟨B, m, S, δ, t, e, h⟩ := h
  refine (Mid.start t e).stepA h fun vs ds S1 m1 H1 l1 M1 r1 h1 => ?_
  rw [List.append_nil]
  exact ⟨B, m1, S1, ds, M1.t0, r1, (M1.here h1).imp fun d S' m' H' q v r => q v r fun f => nomatch (show false = true from f)⟩
theorem s_call {f : Nat} {x : Str} {p : Pos} {k : Nat} {fa : Addr} {fd : FuncData} {ps : List Str} (F : FnOk X.prog X.w X.K X.mg X.base (L2.CX X.prog X.w) k fa fd ps (spF X.K Z (C.call f))) (hr : Room k X.A) (hg : Gl X x) (hm : X.mg x = some (.ref fa))
    (hk : PySem.W.keepIn X.K (.ref fa) = true) (hb : Binds X.K fd ps []) (hx : ∀ σ, PassesAt (L2.CX X.prog X.w) X σ (fun cls d H => W cls d σ H)) (ha : PA X (e :: es) (Ta X.K Z C W ies)) (hdb : (x == ("__debug__" : Str)) = false)
    (hs : noStars (e :: es) = true) : PE X (.Call (.Name x p) (e :: es) [] pos) (Te X.K Z C W (.call f ies)) := by
  have h2 := Bool.and_eq_true_iff.mp (show (notStar e && es.all notStar) = true from hs)
  exact (pe_callSD F hr hg hm hk hb .nil hx ha hdb (star_cons h2.1) (plain_args h2.2)).imp' fun σ H Q h => call_step h
theorem s_call0 {f : Nat} {x : Str} {p : Pos} {k : Nat} {fa : Addr} {fd : FuncData} {ps : List Str} (F : FnOk X.prog X.w X.K X.mg X.base (L2.CX X.prog X.w) k fa fd ps (spF X.K Z (C.call f))) (hr : Room k X.A) (hg : Gl X x) (hm : X.mg x = some (.ref fa))
    (hk : PySem.W.keepIn X.K (.ref fa) = true) (hb : Binds X.K fd ps []) (hx : ∀ σ, PassesAt (L2.CX X.prog X.w) X σ (fun cls d H => W cls d σ H)) (hdb : (x == ("__debug__" : Str)) = false) :
    PE X (.Call (.Name x p) [] [] pos) (Te X.K Z C W (.call f .nil)) := by
  refine ⟨fun pins s σ H Q J h => wpAny_Call_Name_kw (ld_glob J hg hm ?_ hdb)⟩
  obtain ⟨B, m, S, δ, t, e, h⟩ := h
  have h : FinG X.K Z B m H _ (C.call f [] S) _ := h
  refine PySem.W.callWith_K0 J.kIn hk (run_fnSD (us := []) (vs := []) (E := fun σ cls d H => W cls d σ H) F hr hb .nil (hx σ) J .nil ?_)
  exact ⟨B, m, S, [], t, .nil, h.imp fun d S' m' H' q v r => q v r fun f => nomatch (show false = true from f)⟩
/-! ### built-ins by name -/
def bltN : Bt → Str
  | .len => "len" | .int => "int" | .str => "str" | .tuple => "tuple" | .list => "list" | .min => "min" | .max => "max" | .abs => "abs" | .all => "all" | .any => "any" | .sum => "sum"
theorem blt_step {bt : Bt} {σ : L2.St} {H : Hp} {Q : VK} (h : Te X.K Z C W (.blt bt ies) σ H Q) : tCB (rBlt X.K bt) (Ta X.K Z C W ies) σ H Q := by
  obtain ⟨B, m, S, δ, t, e, h⟩ := h
  refine (Mid.start t e).stepA h fun vs ds S1 m1 H1 l1 M1 r1 h1 => ?_
  obtain ⟨d3, e3, h3⟩ := FinG.opt (show FinG X.K Z B m H _ (M.opt (bltD S1 bt ds) S1) _ from h1)
  exact ⟨B, m1, S1, ds, H, d3, M1.t0, r1, fun p hp => M1.none hp, e3, Z, _, M1.here h3⟩
theorem s_blt (bt : Bt) {p : Pos} (hc : X.calm = true) (hg : Gl X (bltN bt)) (hm : X.mg (bltN bt) = none) (ha : PA X (e :: es) (Ta X.K Z C W ies)) (hs : noStars (e :: es) = true) : PE X (.Call (.Name (bltN bt) p) (e :: es) [] pos) (Te X.K Z C W (.blt bt ies)) := by
  have h2 := Bool.and_eq_true_iff.mp (show (notStar e && es.all notStar) = true from hs)
  have s1 := star_cons (env := X.env) (es := es) h2.1
  have s2 := plain_args (pos := pos) (env := X.env) h2.2
  cases bt with
  | len => exact (pe_callB blt_len hg hm PySem.boot_len ha (by decide) (by decide) s1 s2).imp' fun σ H Q h => blt_step h
  | int => exact (pe_callTy blt_int hg hm PyProof.Rows.boot_int ha (by decide) (by decide) s1 s2).imp' fun σ H Q h => blt_step h
  | str => exact (pe_callTy blt_str hg hm PyProof.Rows.boot_str ha (by decide) (by decide) s1 s2).imp' fun σ H Q h => blt_step h
  | tuple => exact (pe_callTy blt_tuple hg hm PyProof.Rows.boot_tuple ha (by decide) (by decide) s1 s2).imp' fun σ H Q h => blt_step h
  | list => exact (pe_callTy blt_list hg hm PyProof.Rows.boot_list ha (by decide) (by decide) s1 s2).imp' fun σ H Q h => blt_step h
  | min => exact (pe_callB (blt_min hc) hg hm PyProof.Rows.boot_min ha (by decide) (by decide) s1 s2).imp' fun σ H Q h => blt_step h
  | max => exact (pe_callB (blt_max hc) hg hm PyProof.Rows.boot_max ha (by decide) (by decide) s1 s2).imp' fun σ H Q h => blt_step h
  | abs => exact (pe_callB blt_abs hg hm (by decide +kernel) ha (by decide) (by decide) s1 s2).imp' fun σ H Q h => blt_step h
  | all => exact (pe_callB (blt_all hc) hg hm PyProof.Rows.boot_all ha (by decide) (by decide) s1 s2).imp' fun σ H Q h => blt_step h
  | any => exact (pe_callB (blt_any hc) hg hm PyProof.Rows.boot_any ha (by decide) (by decide) s1 s2).imp' fun σ H Q h => blt_step h
  | sum => exact (pe_callB (blt_sum hc) hg hm PyProof.Rows.boot_sum ha (by decide) (by decide) s1 s2).imp' fun σ H Q h => blt_step h
end
end Fb
set_option Elab.async false
set_option linter.all false
set_option maxRecDepth 100000
set_option maxHeartbeats 1000000
/-! Fbk: calls with defaults, with keywords. -/
namespace Fb
open PySem PySem.Spec PyProof.Rows L2
section
variable {X : Cx} {Z : Xt} {C : Cf} {W : WX} {e : Expr} {es : List Expr} {ie ies : IE} {pos : Pos}
/-! ### defaults, keywords -/
/-- constants of the text that are no objects -/
def flatV' : D → Option V
  | .non => some .non
  | .bl b => some (.bl b)
  | .int i => some (.int i)
  | .str x => if okS x then some (.str (SO x)) else none
  | _ => none
theorem flatV_rel {K : Fg} {B m : List Addr} {H : Hp} {d : D} {v : V} (h : flatV' d = some v) : RelD K B m H d v := by
  unfold flatV' at h
  split at h
  · cases h; exact .non
  · cases h; exact .bl _
  · cases h; exact .int _
  · split at h
    · cases h; exact .str _ (by assumption)
    · cases h
  · cases h
inductive FlatVs : List D → List V → Prop
  | nil : FlatVs [] []
  | cons {d : D} {v : V} {ds : List D} {vs : List V} : flatV' d = some v → FlatVs ds vs → FlatVs (d :: ds) (v :: vs)
theorem FlatVs.rel {K : Fg} {B m : List Addr} {H : Hp} : ∀ {ds : List D} {vs : List V}, FlatVs ds vs → RelDs K B m H ds vs
  | _, _, .nil => .nil
  | _, _, .cons h r => .cons (flatV_rel h) r.rel
theorem s_calld {f : Nat} {x : Str} {p : Pos} {k : Nat} {fa : Addr} {fd : FuncData} {ps : List Str} {ds : List D} {dvs : List V} {dus : List Value} (F : FnOk X.prog X.w X.K X.mg X.base (L2.CX X.prog X.w) k fa fd ps (spF X.K Z (C.call f))) (hr : Room k X.A) (hg : Gl X x) (hm : X.mg x = some (.ref fa))
    (hk : PySem.W.keepIn X.K (.ref fa) = true) (hb : Binds X.K fd ps dus) (hd : Vals dvs dus) (hv : FlatVs ds dvs) (hx : ∀ σ, PassesAt (L2.CX X.prog X.w) X σ (fun cls d H => W cls d σ H)) (ha : PA X (e :: es) (Ta X.K Z C W ies)) (hdb : (x == ("__debug__" : Str)) = false)
    (hs : noStars (e :: es) = true) : PE X (.Call (.Name x p) (e :: es) [] pos) (Te X.K Z C W (.calld f ies ds)) := by
  have h2 := Bool.and_eq_true_iff.mp (show (notStar e && es.all notStar) = true from hs)
  refine (pe_callSD F hr hg hm hk hb hd hx ha hdb (star_cons h2.1) (plain_args h2.2)).imp' fun σ H Q ⟨B, m, S, δ, t, e, h⟩ => ?_
  refine (Mid.start t e).stepA h fun vs xs S1 m1 H1 l1 M1 r1 h1 => ?_
  exact ⟨B, m1, S1, xs ++ ds, M1.t0, r1.app hv.rel, (M1.here h1).imp fun d S' m' H' q v r => q v r fun f => nomatch (show false = true from f)⟩
/-- keywords: perm puts the positional and the keywords' values in the parameters' order -/
def KBn (K : Fg) (fd : FuncData) (ps ks : List Str) (n : Nat) (perm : List Nat) : Prop :=
  ∀ (s : Shared) (us ws zs : List Value), K.In s.heap → us.length = n → ws.length = ks.length → pickL perm (us ++ ws) = some zs → BindsTo s fd ⟨us, ks.zip ws⟩ (ps.zip zs)
theorem pickL_rel {K : Fg} {B m : List Addr} {H : Hp} {ds : List D} {vs : List V} (r : RelDs K B m H ds vs) : ∀ {perm : List Nat} {ds' : List D}, pickL perm ds = some ds' → ∃ vs', pickL perm vs = some vs' ∧ RelDs K B m H ds' vs'
  | [], _, h => by cases h; exact ⟨[], rfl, .nil⟩
  | i :: is, ds', h => by
    unfold pickL at h
    cases h1 : ds[i]? with
    | none => rw [h1] at h; cases h
    | some x =>
      cases h2 : pickL is ds with
      | none => rw [h1, h2] at h; cases h
      | some xs =>
        rw [h1, h2] at h
        cases h
        obtain ⟨v, e1, r1⟩ := r.get h1
        obtain ⟨ws, e2, r2⟩ := pickL_rel r h2
        exact ⟨v :: ws, by unfold pickL; rw [e1, e2], .cons r1 r2⟩
theorem pickL_vals {vs : List V} {us : List Value} (r : Vals vs us) : ∀ {perm : List Nat} {vs' : List V}, pickL perm vs = some vs' → ∃ us', pickL perm us = some us' ∧ Vals vs' us'
  | [], _, h => by cases h; exact ⟨[], rfl, .nil⟩
  | i :: is, vs', h => by
    unfold pickL at h
    cases h1 : vs[i]? with
    | none => rw [h1] at h; cases h
    | some x =>
      cases h2 : pickL is vs with
      | none => rw [h1, h2] at h; cases h
      | some xs =>
        rw [h1, h2] at h
        cases h
        obtain ⟨v, e1, r1⟩ := r.get h1
        obtain ⟨ws, e2, r2⟩ := pickL_vals r h2
        exact ⟨v :: ws, by unfold pickL; rw [e1, e2], .cons r1 r2⟩
theorem run_fnKSD {E : L2.St → XK} {pins : List (Addr × Obj)} {σ : L2.St} {H : Hp} {s : Shared} {Q : VK} {fa : Addr} {fd : FuncData} {ps ks : List Str} {k n : Nat} {sp : Sp} {perm : List Nat} {us ws : List Value} {vs zs ys : List V} (F : FnOk X.prog X.w X.K X.mg X.base (L2.CX X.prog X.w) k fa fd ps sp) (hr : Room k X.A) (hb : KBn X.K fd ps ks n perm)
    (hx : PassesAt (L2.CX X.prog X.w) X σ (E σ)) (I : Inv X pins σ H s) (r : Vals vs us) (rz : Vals zs ws) (hn : us.length = n) (hz : ws.length = ks.length) (hp : pickL perm (vs ++ zs) = some ys) (h : sp ys H Q (E σ)) : wpAny (model X.prog X.w) X.A (call (.ref fa) us (ks.zip ws)) (EP X pins σ Q) X.xe s := by
  obtain ⟨qs, e1, r2⟩ := pickL_vals (r.append rz) hp
  have hl : qs.length = ps.length := by rw [← r2.length]; exact F.len _ _ _ _ h
  refine wpAny_call (codeAny_mono (F.run X.A X.stack s H ⟨us, ks.zip ws⟩ qs ys Q (E σ) hr I.env0 (hb s us ws qs I.kIn hn hz e1) r2 h) fun r s' hq => ?_)
  cases r with
  | error e => exact hx pins H s e s' I hq
  | ok fl =>
    cases fl with
    | ret u => exact I.after hq
    | next => exact False.elim hq
    | brk => exact False.elim hq
    | cont => exact False.elim hq
theorem _root_.L2.PK.imp' {X : Cx} {es : List Keyword} {t t' : TA} (h : PK X es t) (i : ∀ σ H Q, t' σ H Q → t σ H Q) : PK X es t' := ⟨fun p pins s σ H Q I q => h.run p pins s σ H Q I (i _ _ _ q)⟩
theorem s_knil : PK X [] (Ta X.K Z C W .nil) := pk_nil.imp' fun σ H Q ⟨B, m, S, δ, t, e, h⟩ => (FinG.ret h).now t [] .nil
theorem s_kcons {nm : Option Str} {kpos : Pos} {kws : List Keyword} (ha : PE X e (Te X.K Z C W ie)) (hr : PK X kws (Ta X.K Z C W ies)) : PK X (⟨nm, e, kpos⟩ :: kws) (Ta X.K Z C W (.cons ie ies)) :=
  (pk_cons ha hr).imp' fun σ H Q ⟨B, m, S, δ, t, e, h⟩ => (Mid.start t e).stepE h fun v d S1 m1 H1 l1 M1 r1 _ h1 => M1.stepA h1 fun vs ds S2 m2 H2 l2 M2 r2 h2 => (M2.here (FinG.ret h2)).now M2.t0 _ (.cons (M1.val l2 r1) r2)
/-- the names of keywords, if all have one -/
def kwNames : List Keyword → Option (List Str)
  | [] => some []
  | ⟨some x, _, _⟩ :: r => (kwNames r).map (x :: ·)
  | _ => none
theorem kw_eval {pos : Pos} {env : Env} : ∀ {l : List Keyword} {ks : List Str}, kwNames l = some ks → (backToKw pos (keywordEach l env)).all (·.1.isSome) = true ∧ (backToKw pos (keywordEach l env)).filterMap (·.1) = ks ∧ (backToKw pos (keywordEach l env)).any (·.1.isNone) = false
  | [], ks, h => by cases h; exact ⟨rfl, rfl, rfl⟩
  | ⟨none, e, p⟩ :: r, ks, h => by cases h
  | ⟨some x, e, p⟩ :: r, ks, h => by
    have h : (kwNames r).map (x :: ·) = some ks := h
    cases q : kwNames r with
    | none => rw [q] at h; cases h
    | some ks' =>
      rw [q] at h
      cases h
      obtain ⟨h1, h2, h3⟩ := kw_eval (pos := pos) (env := env) q
      refine ⟨?_, ?_, ?_⟩
      · show (true && (backToKw pos (keywordEach r env)).all (·.1.isSome)) = true
        rw [h1]; rfl
      · show x :: (backToKw pos (keywordEach r env)).filterMap (·.1) = x :: ks'
        rw [h2]
      · show (false || (backToKw pos (keywordEach r env)).any (·.1.isNone)) = false
        rw [h3]; rfl
section
variable {f n m k : Nat} {x : Str} {p : Pos} {fa : Addr} {fd : FuncData} {ps ks : List Str} {perm : List Nat} {ia ik : IE} {kws : List Keyword}
theorem callk_step {σ : L2.St} {H : Hp} {Q : VK} (h : Te X.K Z C W (.callk f n m ia ik perm) σ H Q) : Ta X.K Z C W ia σ H fun vs H1 => Ta X.K Z C W ik σ H1 fun ws H2 => vs.length = n ∧ ws.length = m ∧ ∃ ys, pickL perm (vs ++ ws) = some ys ∧ spF X.K Z (C.call f) ys H2 Q fun cls d H => W cls d σ H := by
  obtain ⟨B, mm, S, δ, t, e, h⟩ := h
  refine (Mid.start t e).stepA h fun vs ds S1 m1 H1 l1 M1 r1 h1 => M1.stepA h1 fun ws ds2 S2 m2 H2 l2 M2 r2 h2 => ?_
  by_cases c : ds.length = n ∧ ds2.length = m
  · rw [if_pos c] at h2
    cases q : pickL perm (ds ++ ds2) with
    | none => rw [q] at h2; exact False.elim h2
    | some zs =>
      rw [q] at h2
      obtain ⟨ys, e1, r3⟩ := pickL_rel ((M1.vals l2 r1).app r2) q
      refine ⟨by rw [← r1.len]; exact c.1, by rw [← r2.len]; exact c.2, ys, e1, B, m2, S2, zs, M2.t0, r3, ?_⟩
      exact (M2.here h2).imp fun d S' m' H' q v r => q v r fun f => nomatch (show false = true from f)
  · rw [if_neg c] at h2; exact False.elim h2
theorem s_callk (F : FnOk X.prog X.w X.K X.mg X.base (L2.CX X.prog X.w) k fa fd ps (spF X.K Z (C.call f))) (hr : Room k X.A) (hg : Gl X x) (hm : X.mg x = some (.ref fa))
    (hk : PySem.W.keepIn X.K (.ref fa) = true) (hb : KBn X.K fd ps ks n perm) (hx : ∀ σ, PassesAt (L2.CX X.prog X.w) X σ (fun cls d H => W cls d σ H)) (ha : PA X (e :: es) (Ta X.K Z C W ia)) (hkw : PK X kws (Ta X.K Z C W ik)) (hks : kwNames kws = some ks) (hn : ks.length = m) (hdb : (x == ("__debug__" : Str)) = false)
    (hs : noStars (e :: es) = true) : PE X (.Call (.Name x p) (e :: es) kws pos) (Te X.K Z C W (.callk f n m ia ik perm)) := by
  obtain ⟨k1, k2, k3⟩ := kw_eval (pos := pos) (env := X.env) hks
  have h2 := Bool.and_eq_true_iff.mp (show (notStar e && es.all notStar) = true from hs)
  refine ⟨fun pins s σ H Q I h => ?_⟩
  refine wpAny_Call_Name_kw (ld_glob I hg hm ?_ hdb)
  refine PySem.W.callWith_KW (h₀ := X.base) I.ok.mod.kin hk k1 (thn (ha.run pos pins s σ H _ I (callk_step h)) fun us s1 ⟨vs, H1, I1, r, q⟩ => ?_) (by rw [plain_args hs, k3]; rfl) (star_cons h2.1)
  refine thn (hkw.run pos pins s1 σ H1 _ I1 q) fun ws s2 ⟨zs, H2, I2, rz, l1, l2, ys, e1, q2⟩ => ⟨I2.kIn, ?_⟩
  rw [k2]
  exact run_fnKSD (us := us) (E := fun σ cls d H => W cls d σ H) F hr hb (hx σ) I2 r rz (by rw [← Paired.length r]; exact l1) (by rw [← Paired.length rz, hn]; exact l2) e1 q2
theorem s_callk0 (F : FnOk X.prog X.w X.K X.mg X.base (L2.CX X.prog X.w) k fa fd ps (spF X.K Z (C.call f))) (hr : Room k X.A) (hg : Gl X x) (hm : X.mg x = some (.ref fa))
    (hk : PySem.W.keepIn X.K (.ref fa) = true) (hb : KBn X.K fd ps ks n perm) (hx : ∀ σ, PassesAt (L2.CX X.prog X.w) X σ (fun cls d H => W cls d σ H)) (hkw : PK X kws (Ta X.K Z C W ik)) (hks : kwNames kws = some ks) (hn : ks.length = m) (hdb : (x == ("__debug__" : Str)) = false) :
    PE X (.Call (.Name x p) [] kws pos) (Te X.K Z C W (.callk f n m .nil ik perm)) := by
  obtain ⟨k1, k2, k3⟩ := kw_eval (pos := pos) (env := X.env) hks
  refine ⟨fun pins s σ H Q I h => ?_⟩
  refine wpAny_Call_Name_kw (ld_glob I hg hm ?_ hdb)
  obtain ⟨B, mm, S, δ, t, e, h⟩ := callk_step h
  have q := (FinG.ret (show FinG X.K Z B mm H _ (M.ret [] S) _ from h)).now t [] .nil
  refine PySem.W.callWith_KW0 (h₀ := X.base) I.ok.mod.kin hk k1 ?_ (by rw [k3]; rfl)
  refine thn (hkw.run pos pins s σ H _ I q) fun ws s2 ⟨zs, H2, I2, rz, l1, l2, ys, e1, q2⟩ => ⟨I2.kIn, ?_⟩
  rw [k2]
  exact run_fnKSD (us := []) (vs := []) (E := fun σ cls d H => W cls d σ H) F hr hb (hx σ) I2 .nil rz l1 (by rw [← Paired.length rz, hn]; exact l2) e1 q2
end
end
end Fb
set_option Elab.async false
set_option linter.all false
set_option maxRecDepth 100000
set_option maxHeartbeats 2000000
/-! Fb8: isinstance, methods, fresh cells, tests, targets, what is walked. -/
namespace Fb
open PySem PySem.Spec PyProof.Rows L2
section
variable {X : Cx} {Z : Xt} {C : Cf} {W : WX} {a b c e : Expr} {es : List Expr} {ia ib ic ie ies : IE} {pos : Pos}
/-! ### isinstance -/
theorem boot_ty (y : Ty) : bootBuiltins (Str.ofString (tyS y)) = some (.type (tyS y)) := by cases y <;> decide +kernel
theorem s_isi1 {y : Ty} {p p2 : Pos} (hg : Gl X "isinstance") (hm : X.mg "isinstance" = none) (hg2 : Gl X (Str.ofString (tyS y))) (hm2 : X.mg (Str.ofString (tyS y)) = none) (ha : PE X a (Te X.K Z C W ia)) (hs : notStar a = true) :
    PE X (.Call (.Name "isinstance" p) [a, .Name (Str.ofString (tyS y)) p2] [] pos) (Te X.K Z C W (.isi ia [y])) := by
  have e1 : PE X (.Name (Str.ofString (tyS y)) p2) (tC (.ty (tyS y))) := pe_bltn hg2 hm2 (boot_ty y) rfl (by cases y <;> decide) (by cases y <;> decide)
  refine (pe_callB isi_one hg hm PyProof.Rows.boot_isinstance (pa_cons ha (pa_cons e1 pa_nil) (star_cons hs)) (by decide) (by decide) (star_cons hs) rfl).imp' fun σ H Q ⟨B, m, S, δ, t, e, h⟩ => ?_
  refine (Mid.start t e).stepE h fun v d S1 m1 H1 l1 M1 r1 _ h1 => ?_
  have h2 : FinG X.K Z B m H (fun c d h => W c d σ h) (.ok (.bl ([y].any (D.isTy S1 d))) S1) (PD X.K B H _ Q) := h1
  rw [show [y].any (D.isTy S1 d) = D.isTy S1 d y by simp] at h2
  exact ⟨B, m1, S1, d, v, y, M1.t0, r1, rfl, M1.plain h2 (.bl _) fun _ e => nomatch e⟩
/-- the names of the types, one behind another -/
def tyNames : List (Ty × Pos) → List Expr
  | [] => []
  | (y, p) :: r => .Name (Str.ofString (tyS y)) p :: tyNames r
theorem pa_tys : ∀ ys : List (Ty × Pos), (∀ q ∈ ys, Gl X (Str.ofString (tyS q.1)) ∧ X.mg (Str.ofString (tyS q.1)) = none) → PA X (tyNames ys) (fun _ H Q => Q (ys.map fun q => V.ty (tyS q.1)) H)
  | [], _ => pa_nil
  | (y, p) :: r, h => by
    obtain ⟨h1, h2⟩ := h (y, p) List.mem_cons_self
    have e1 : PE X (.Name (Str.ofString (tyS y)) p) (tC (.ty (tyS y))) := pe_bltn h1 h2 (boot_ty y) rfl (by cases y <;> decide) (by cases y <;> decide)
    exact pa_cons e1 (pa_tys r fun q hq => h q (List.mem_cons_of_mem _ hq)) (star_cons rfl)
theorem s_isiN {ys : List (Ty × Pos)} {k : Nat} {p p2 : Pos} (hg : Gl X "isinstance") (hm : X.mg "isinstance" = none) (hq : ∀ q ∈ ys, Gl X (Str.ofString (tyS q.1)) ∧ X.mg (Str.ofString (tyS q.1)) = none) (hl : ys.length ≤ 100)
    (ha : PE X a (Te X.K Z C W ia)) (hs : notStar a = true) : PE X (.Call (.Name "isinstance" p) [a, .Tuple (tyNames ys) k p2] [] pos) (Te X.K Z C W (.isi ia (ys.map (·.1)))) := by
  refine (pe_callB isi_any hg hm PyProof.Rows.boot_isinstance (pa_cons ha (pa_cons (pe_tup (pa_tys ys hq)) pa_nil) (star_cons hs)) (by decide) (by decide) (star_cons hs) rfl).imp' fun σ H Q ⟨B, m, S, δ, t, e, h⟩ => ?_
  refine (Mid.start t e).stepE h fun v d S1 m1 H1 l1 M1 r1 _ h1 => ?_
  have hle : Le m1 m1 H1 H1 := Le.refl
  refine ⟨by rw [List.length_map, ← SL_eq]; have : SL = 16777216 := rfl; omega, fun q hq => ?_⟩
  have h2 : FinG X.K Z B m H (fun c d h => W c d σ h) (.ok (.bl ((ys.map (·.1)).any (D.isTy S1 d))) S1) (PD X.K B H _ Q) := h1
  have t2 := M1.t0.new (o := .tup (ys.map fun q => V.ty (tyS q.1))) hq
  have l2 := Le.new M1.t0 (o := .tup (ys.map fun q => V.ty (tyS q.1))) hq
  refine ⟨B, m1, S1, d, v, q, ys.map (·.1), t2, r1.tr (l2.tr M1.t0), rfl, ?_, ?_⟩
  · rw [upd_same, List.map_map]; rfl
  · exact (M1.go l2 t2).plain h2 (.bl _) fun _ e => nomatch e
/-! ### methods -/
def baseOk : Expr → Bool
  | .Name _ _ => true
  | .Constant _ _ _ => true
  | .Subscript _ _ _ => true
  | .Attribute _ _ _ => true
  | .BinOp _ _ _ _ => true
  | _ => false
theorem base_eq {o : Expr} {x : Str} {env : Env} (h : baseOk o = true) : attributeBase o x env (eval o env) = eval o env := by
  cases o <;> first | rfl | exact absurd h Bool.false_ne_true
theorem few_ok {es : List Expr} {e : Expr} {env : Env} {pos : Pos} (h : noStars (e :: es) = true) (hl : decide (es.length < 28) = true) :
    ((backTo pos (starEach (e :: es) env)).all (fun x => !x.1) && (backToKw pos (keywordEach [] env)).all (fun x => x.1.isSome) && decide ((e :: es).length + ([] : List Keyword).length + (if ([] : List Keyword).isEmpty then 0 else 1) < 30)) = true := by
  have h1 : (backTo pos (starEach (e :: es) env)).all (fun x => !x.1) = true := by
    have q := plain_args (pos := pos) (env := env) h
    rw [List.any_eq_false] at q
    rw [List.all_eq_true]
    intro x hx
    have := q x hx
    cases hb : x.1 with
    | true => exact absurd hb this
    | false => rfl
  have h3 := of_decide_eq_true hl
  rw [h1]
  show (true && true && decide (es.length + 1 + 0 + 0 < 30)) = true
  rw [decide_eq_true (by omega)]
  rfl
theorem tyV_of {K : Fg} {B m : List Addr} {H : Hp} {S : Store} {mt : Mt} {d : D} {v : V} (t : At K B m S H) (q : RelD K B m H d v) (e : recvOk mt d = true) : tyV K (mtT mt) v H := by
  unfold recvOk at e
  split at e <;> try contradiction
  all_goals first
    | (obtain ⟨a, vs, rfl, h1, _⟩ := q.lst_of t (xs := _) rfl
       exact .inl ⟨rfl, vs, h1⟩)
    | (obtain ⟨p, rfl, hp⟩ := q.cell_of
       obtain ⟨vs, h⟩ := t.mlive (List.mem_of_getElem? hp)
       exact .inl ⟨rfl, vs, SqL.of h⟩)
    | (rw [q.str_of]; rfl)
theorem mth_step {mt : Mt} {σ : L2.St} {H : Hp} {Q : VK} (h : Te X.K Z C W (.mth mt ia ies) σ H Q) : tBM X.K (mtT mt) (rMth X.K mt) (Te X.K Z C W ia) (Ta X.K Z C W ies) σ H Q := by
  obtain ⟨B, m, S, δ, t, e, h⟩ := h
  refine (Mid.start t e).stepE h fun v d S1 m1 H1 l1 M1 r1 _ h1 => ?_
  by_cases hr : recvOk mt d = true
  · rw [if_pos hr] at h1
    refine ⟨tyV_of M1.t0 r1 hr, ?_⟩
    refine M1.stepA h1 fun vs ds S2 m2 H2 l2 M2 r2 h2 => ?_
    cases q : mthD S2 mt d ds with
    | none => rw [q] at h2; exact False.elim h2
    | some r =>
      obtain ⟨d3, S3⟩ := r
      rw [q] at h2
      exact ⟨B, m2, S2, d, ds, H, d3, S3, M2.t0, M1.val l2 r1, r2, fun p hp => M2.none hp, q, Z, _, M2.here h2⟩
  · rw [if_neg hr] at h1; exact False.elim h1
theorem mth_step0 {mt : Mt} {σ : L2.St} {H : Hp} {Q : VK} (h : Te X.K Z C W (.mth mt ia .nil) σ H Q) : tBM0 X.K (mtT mt) (rMth X.K mt) (Te X.K Z C W ia) σ H Q := by
  obtain ⟨B, m, S, δ, t, e, h⟩ := h
  refine (Mid.start t e).stepE h fun v d S1 m1 H1 l1 M1 r1 _ h1 => ?_
  by_cases hr : recvOk mt d = true
  · rw [if_pos hr] at h1
    refine ⟨tyV_of M1.t0 r1 hr, ?_⟩
    have h2 : FinG X.K Z B m H (fun c d h => W c d σ h) (match mthD S1 mt d [] with
      | some (d, S') => .ok d S'
      | none => .bad) (PD X.K B H _ Q) := h1
    cases q : mthD S1 mt d [] with
    | none => rw [q] at h2; exact False.elim h2
    | some r =>
      obtain ⟨d3, S3⟩ := r
      rw [q] at h2
      exact ⟨B, m1, S1, d, [], H, d3, S3, M1.t0, r1, .nil, fun p hp => M1.none hp, q, Z, _, M1.here h2⟩
  · rw [if_neg hr] at h1; exact False.elim h1
/-- which methods are told with arguments, which without -/
def mtArgs : Mt → Bool
  | .append => true | .extend => true | .popAt => true | .join => true | .split => true | .startswith => true | .count => true | .index => true | _ => false
theorem s_mth {mt : Mt} {apos : Pos} (h1 : mtArgs mt = true) (hb : baseOk a = true) (hl : (apos.endLine == pos.line) = true) (hn : decide (es.length < 28) = true) (hs : noStars (e :: es) = true) (ho : PE X a (Te X.K Z C W ia)) (ha : PA X (e :: es) (Ta X.K Z C W ies)) :
    PE X (.Call (.Attribute a (mtN mt) apos) (e :: es) [] pos) (Te X.K Z C W (.mth mt ia ies)) := by
  have h2 := Bool.and_eq_true_iff.mp (show (notStar e && es.all notStar) = true from hs)
  have s1 := star_cons (env := X.env) (es := es) h2.1
  have s2 := plain_args (pos := pos) (env := X.env) h2.2
  cases mt with
  | append => exact (pe_bm PySem.F.plainAttrs_list PySem.F.slot_list_append PySem.F.type_list_append mt_append' ho ha (base_eq hb) (few_ok hs hn) hl s1 s2).imp' fun σ H Q h => mth_step h
  | extend => exact (pe_bm PySem.F.plainAttrs_list PySem.F.slot_list_extend PySem.F.type_list_extend mt_extend' ho ha (base_eq hb) (few_ok hs hn) hl s1 s2).imp' fun σ H Q h => mth_step h
  | popAt => exact (pe_bm PySem.F.plainAttrs_list PySem.F.slot_list_pop PySem.F.type_list_pop mt_popAt' ho ha (base_eq hb) (few_ok hs hn) hl s1 s2).imp' fun σ H Q h => mth_step h
  | split => exact (pe_bm PySem.F.plainAttrs_str PySem.F.slot_str_split PySem.F.type_str_split mt_split' ho ha (base_eq hb) (few_ok hs hn) hl s1 s2).imp' fun σ H Q h => mth_step h
  | startswith => exact (pe_bm PySem.F.plainAttrs_str PySem.F.slot_str_startswith PySem.F.type_str_startswith mt_starts' ho ha (base_eq hb) (few_ok hs hn) hl s1 s2).imp' fun σ H Q h => mth_step h
  | count => exact (pe_bm PySem.F.plainAttrs_str PySem.F.slot_str_count PySem.F.type_str_count mt_count' ho ha (base_eq hb) (few_ok hs hn) hl s1 s2).imp' fun σ H Q h => mth_step h
  | index => exact (pe_bm PySem.F.plainAttrs_list PySem.F.slot_list_index PySem.F.type_list_index mt_index' ho ha (base_eq hb) (few_ok hs hn) hl s1 s2).imp' fun σ H Q h => mth_step h
  | join => exact (pe_bm PySem.F.plainAttrs_str PySem.F.slot_str_join PySem.F.type_str_join mt_join' ho ha (base_eq hb) (few_ok hs hn) hl s1 s2).imp' fun σ H Q h => mth_step h
  | _ => cases h1
def mtArgs0 : Mt → Bool
  | .pop => true | .upper => true | _ => false
theorem s_mth0 {mt : Mt} {apos : Pos} (h1 : mtArgs0 mt = true) (hb : baseOk a = true) (hl : (apos.endLine == pos.line) = true) (ho : PE X a (Te X.K Z C W ia)) :
    PE X (.Call (.Attribute a (mtN mt) apos) [] [] pos) (Te X.K Z C W (.mth mt ia .nil)) := by
  cases mt with
  | upper => exact (pe_bm0 PySem.F.plainAttrs_str PySem.F.slot_str_upper PySem.F.type_str_upper mt_upper' ho (base_eq hb) hl).imp' fun σ H Q h => mth_step0 h
  | pop => exact (pe_bm0 PySem.F.plainAttrs_list PySem.F.slot_list_pop PySem.F.type_list_pop mt_pop' ho (base_eq hb) hl).imp' fun σ H Q h => mth_step0 h
  | _ => cases h1
/-! ### a new list as a cell -/
theorem alloc_step {σ : L2.St} {H : Hp} {Q : VK} (hf : isFresh ia = true) (h : Te X.K Z C W (.alloc ia) σ H Q) : Te X.K Z C W ia σ H Q := by
  obtain ⟨B, m, S, δ, t, e, h⟩ := h
  refine (Mid.start t e).stepE h fun v d S1 m1 H1 l1 M1 r1 fr h1 => ?_
  have plain : (∀ xs, d ≠ .lst xs) → FinG X.K Z B m H (fun c d h => W c d σ h) (.ok d S1) (PD X.K B H false Q) → Q v H1 := fun n h2 => M1.plain h2 r1 n
  cases d with
  | lst xs =>
    obtain ⟨a1, vs, H2, rfl, h2, h3, rfl, t2, rs⟩ := (fr hf).of xs rfl
    have h1 : FinG X.K Z B m H (fun c d h => W c d σ h) (.ok (.cell S1.length) (S1 ++ [.lst xs])) (PD X.K B H false Q) := h1
    obtain ⟨r, er, hr⟩ := l1.pre
    refine h1 (m1 ++ [a1]) (upd H2 a1 (.lst vs)) ⟨⟨r ++ [a1], by rw [er, List.append_assoc], fun x hx => ?_⟩, l1.keep⟩ (t2.grow h3 rs) (.ref a1) (.cell ?_) fun f => nomatch f
    · rcases List.mem_append.mp hx with hx | hx
      · exact hr x hx
      · rw [List.mem_singleton.mp hx]; exact h2
    · rw [t2.len, List.getElem?_append_right (Nat.le_refl _)]
      simp
  | non => exact plain (fun _ e => nomatch e) h1
  | bl b => exact plain (fun _ e => nomatch e) h1
  | int b => exact plain (fun _ e => nomatch e) h1
  | str b => exact plain (fun _ e => nomatch e) h1
  | tup b => exact plain (fun _ e => nomatch e) h1
  | ro b => exact plain (fun _ e => nomatch e) h1
  | cell b => exact plain (fun _ e => nomatch e) h1
theorem s_alloc (hf : isFresh ia = true) (ha : PE X a (Te X.K Z C W ia)) : PE X a (Te X.K Z C W (.alloc ia)) := ha.imp' fun σ H Q h => alloc_step hf h
/-! ### tests -/
theorem s_truth (he : ∀ whole, isTrue a X.env whole = (do let v ← whole; standAt a.pos; holding [v] (truthy v))) (ha : PE X a (Te X.K Z C W ia)) : PT X a (Tb X.K Z C W ia) :=
  (pt_truth ha he).imp' fun σ H Q ⟨B, m, S, δ, t, e, h⟩ => by
    refine (Mid.start t e).stepE (show FinG X.K Z B m H _ (M.bind (evE C ia δ) truthM S) _ from h) fun v d S1 m1 H1 l1 M1 r1 _ h1 => ?_
    obtain ⟨k, e1, h2⟩ := FinG.opt (show FinG X.K Z B m H _ (M.opt (truthD S1 d) S1) _ from h1)
    exact ⟨k, r1.truth M1.t0 e1, (M1.here h2).now M1.t0⟩
theorem truth_bl (b : Bool) (S : Store) : truthM (.bl b) S = .ok b S := rfl
theorem evT_not (C : Cf) (a : IE) (δ : Ev) (S : Store) : evT C (.not a) δ S = M.bind (evT C a δ) (fun b => M.ret !b) S := by
  show M.bind (M.bind (M.bind (evE C a δ) truthM) fun b => M.ret (D.bl !b)) truthM S = M.bind (M.bind (evE C a δ) truthM) (fun b => M.ret !b) S
  rw [bind_bind]
  rfl
theorem evT_cmp (C : Cf) (o : Co) (a b : IE) (δ : Ev) (S : Store) : evT C (.cmp o a b) δ S = M.bind (evE C a δ) (fun x => M.bind (evE C b δ) fun y => cmpM o x y) S := by
  show M.bind (M.bind (evE C a δ) fun x => M.bind (evE C b δ) fun y => M.bind (cmpM o x y) fun t => M.ret (D.bl t)) truthM S = _
  unfold M.bind
  cases evE C a δ S with
  | ok x S1 =>
    simp only
    cases evE C b δ S1 with
    | ok y S2 =>
      simp only
      unfold cmpM M.opt
      cases cmpD S2 o x y <;> rfl
    | exc _ _ _ => rfl
    | bad => rfl
  | exc _ _ _ => rfl
  | bad => rfl
theorem evT_and (C : Cf) (a b : IE) (δ : Ev) (S : Store) : evT C (.and a b) δ S = M.bind (evT C a δ) (fun t => if t then evT C b δ else M.ret false) S := by
  show M.bind (M.bind (evE C a δ) fun x => M.bind (truthM x) fun t => if t then evE C b δ else M.ret x) truthM S = M.bind (M.bind (evE C a δ) truthM) (fun t => if t then evT C b δ else M.ret false) S
  rw [bind_bind, bind_bind]
  unfold M.bind
  cases evE C a δ S with
  | ok x S1 =>
    simp only
    unfold truthM M.opt
    cases q : truthD S1 x with
    | none => rfl
    | some t =>
      cases t with
      | true => rfl
      | false =>
        simp only [Bool.false_eq_true, if_false]
        unfold M.ret
        simp only [q]
  | exc _ _ _ => rfl
  | bad => rfl
theorem evT_or (C : Cf) (a b : IE) (δ : Ev) (S : Store) : evT C (.or a b) δ S = M.bind (evT C a δ) (fun t => if t then M.ret true else evT C b δ) S := by
  show M.bind (M.bind (evE C a δ) fun x => M.bind (truthM x) fun t => if t then M.ret x else evE C b δ) truthM S = M.bind (M.bind (evE C a δ) truthM) (fun t => if t then M.ret true else evT C b δ) S
  rw [bind_bind, bind_bind]
  unfold M.bind
  cases evE C a δ S with
  | ok x S1 =>
    simp only
    unfold truthM M.opt
    cases q : truthD S1 x with
    | none => rfl
    | some t =>
      cases t with
      | false => rfl
      | true =>
        simp only [if_true]
        unfold M.ret
        simp only [q]
  | exc _ _ _ => rfl
  | bad => rfl
theorem t_not (ha : PT X a (Tb X.K Z C W ia)) : PT X (.UnaryOp .Not a pos) (Tb X.K Z C W (.not ia)) :=
  (pt_not ha).imp' fun σ H Q ⟨B, m, S, δ, t, e, h⟩ => by
    rw [evT_not] at h
    refine (Mid.start t e).stepT h fun b S1 m1 H1 l1 M1 h1 => (FinG.ret (M1.here h1)).now M1.t0
theorem t_and {rest : List Expr} (ha : PT X a (Tb X.K Z C W ia)) (hb : PW X (.BoolOp .And (b :: rest) pos) (Tb X.K Z C W ib)) : PW X (.BoolOp .And (a :: b :: rest) pos) (Tb X.K Z C W (.and ia ib)) :=
  (pw_and ha hb).imp' fun σ H Q ⟨B, m, S, δ, t, e, h⟩ => by
    rw [evT_and] at h
    refine (Mid.start t e).stepT h fun k S1 m1 H1 l1 M1 h1 => ?_
    cases k with
    | true => exact M1.tailT h1
    | false => exact (FinG.ret (M1.here h1)).now M1.t0
theorem t_or {rest : List Expr} (ha : PT X a (Tb X.K Z C W ia)) (hb : PW X (.BoolOp .Or (b :: rest) pos) (Tb X.K Z C W ib)) : PW X (.BoolOp .Or (a :: b :: rest) pos) (Tb X.K Z C W (.or ia ib)) :=
  (pw_or ha hb).imp' fun σ H Q ⟨B, m, S, δ, t, e, h⟩ => by
    rw [evT_or] at h
    refine (Mid.start t e).stepT h fun k S1 m1 H1 l1 M1 h1 => ?_
    cases k with
    | false => exact M1.tailT h1
    | true => exact (FinG.ret (M1.here h1)).now M1.t0
theorem t_cmp {o : Co} (hu : X.A.units + 65 < cLine) (ha : PE X a (Te X.K Z C W ia)) (hb : PE X b (Te X.K Z C W ib)) (hm : behindInMarks (coOf o) b = false) : PT X (.Compare a [coOf o] [b] pos) (Tb X.K Z C W (.cmp o ia ib)) :=
  (pt_cmpR (coOp hu o) ha hb hm).imp' fun σ H Q ⟨B, m, S, δ, t, e, h⟩ => by
    rw [evT_cmp] at h
    refine (Mid.start t e).stepE h fun v d S1 m1 H1 l1 M1 r1 _ h1 => ?_
    refine M1.stepE h1 fun u d2 S2 m2 H2 l2 M2 r2 _ h2 => ?_
    obtain ⟨z, q, h3⟩ := FinG.opt (show FinG X.K Z B m H _ (M.opt (cmpD S2 o d d2) S2) _ from h2)
    exact ⟨B, m2, S2, d, d2, z, M2.t0, M1.val l2 r1, r2, q, z, rfl, (M2.here h3).now M2.t0⟩
/-- a comparison of another form, by its value -/
theorem t_val (ha : PE X a (Te X.K Z C W ia)) (hp : ∀ {te : TE}, PE X a te → PT X a (tTest te)) (hb : ∀ δ S d S', evE C ia δ S = .ok d S' → ∃ k, d = .bl k) : PT X a (Tb X.K Z C W ia) :=
  (hp ha).imp' fun σ H Q ⟨B, m, S, δ, t, e, h⟩ => by
    refine ⟨B, m, S, δ, t, e, ?_⟩
    have h : FinG X.K Z B m H (fun c d h => W c d σ h) (M.bind (evE C ia δ) truthM S) (PB Q) := h
    unfold M.bind at h
    cases q : evE C ia δ S with
    | ok d S1 =>
      obtain ⟨k, rfl⟩ := hb _ _ _ _ q
      rw [q] at h
      exact fun m' H' l t' v r _ => ⟨k, r.bl_of, h m' H' l t'⟩
    | exc c as S1 => rw [q] at h; exact h
    | bad => rw [q] at h; exact h
end
end Fb
set_option Elab.async false
set_option linter.all false
set_option maxRecDepth 100000
set_option maxHeartbeats 2000000
/-! Fb9: what is walked, targets, list comprehensions. -/
namespace Fb
open PySem PySem.Spec PyProof.Rows L2
/-- an iterator that yields these data, whatever the heap grows to -/
def JW (K : Fg) (B m : List Addr) (H : Hp) (J : It) (xs : List D) : Prop := ∀ B1 m1 S1 H1, Tr K B m B1 m1 H H1 → At K B1 m1 S1 H1 → ∀ i : Nat,
  (∀ x, xs[i]? = some x → J.go i H1 ∧ ∀ v H2, J.yld i H1 v H2 → Le m1 m1 H1 H2 ∧ At K B1 m1 S1 H2 ∧ RelD K B1 m1 H2 x v) ∧ (xs[i]? = none → J.stop i H1)
def PSrc (K : Fg) (B : List Addr) (R : It → Hp → Prop) (s : Src) (S' : Store) (m' : List Addr) (H' : Hp) : Prop := match s with
  | .xs xs => ∀ J, JW K B m' H' J xs → R J H'
  | .cl n => ∀ a, m'[n]? = some a → R (Itl K a) H'
def Ti (K : Fg) (Z : Xt) (C : Cf) (W : WX) (e : IE) : TI := fun σ H R => ∃ B m S δ, At K B m S H ∧ RelE K B m H δ σ ∧ FinG K Z B m H (fun c d h => W c d σ h) (evI C e δ S) (PSrc K B R)
theorem _root_.L2.PI.imp' {X : Cx} {tg e : Expr} {t t' : TI} (h : PI X tg e t) (i : ∀ σ H R, t' σ H R → t σ H R) : PI X tg e t' := ⟨fun pins s σ H R I q => h.run pins s σ H R I (i _ _ _ q)⟩
theorem _root_.L2.PI.or' {X : Cx} {tg e : Expr} {t t' : TI} (h : PI X tg e t) (h' : PI X tg e t') : PI X tg e (fun σ H R => t σ H R ∨ t' σ H R) := ⟨fun pins s σ H R I q => q.elim (h.run pins s σ H R I) (h'.run pins s σ H R I)⟩
section
variable {K : Fg} {B m : List Addr} {H : Hp}
theorem Tr.sqt {B1 m1 : List Addr} {H1 : Hp} {a : Addr} {vs : List V} (t : Tr K B m B1 m1 H H1) (q : QT K m H a vs) : SqT K H1 a vs := q.imp (fun h => (t.tup _ _ h.1 h.2).1) id
theorem jw_tup {a : Addr} {vs : List V} {xs : List D} (q : QT K m H a vs) (r : RelDs K B m H xs vs) : JW K B m H (Itt K a) xs := fun B1 m1 S1 H1 t t1 i => by
  have hs := t.sqt q
  refine ⟨fun x hx => ?_, fun hn => ?_⟩
  · obtain ⟨v, hv, rv⟩ := r.get hx
    refine ⟨⟨vs, v, hs, hv⟩, fun u H2 hy => ?_⟩
    obtain ⟨rfl, hy⟩ := hy
    have e := hy vs hs
    rw [hv] at e
    cases e
    exact ⟨Le.refl, t1, rv.tr t⟩
  · exact ⟨vs, hs, by rw [← r.len]; exact List.getElem?_eq_none_iff.mp hn⟩
theorem jw_lst {a : Addr} {vs : List V} {xs : List D} (q : ∀ B1 m1 H1, Tr K B m B1 m1 H H1 → SqL K H1 a vs) (r : RelDs K B m H xs vs) : JW K B m H (Itl K a) xs := fun B1 m1 S1 H1 t t1 i => by
  have hs := q _ _ _ t
  refine ⟨fun x hx => ?_, fun hn => ?_⟩
  · obtain ⟨v, hv, rv⟩ := r.get hx
    refine ⟨⟨vs, v, hs, hv⟩, fun u H2 hy => ?_⟩
    obtain ⟨rfl, hy⟩ := hy
    have e := hy vs hs
    rw [hv] at e
    cases e
    exact ⟨Le.refl, t1, rv.tr t⟩
  · exact ⟨vs, hs, by rw [← r.len]; exact List.getElem?_eq_none_iff.mp hn⟩
theorem jw_str {x : List Nat} (hx : okS x = true) : JW K B m H (Its (SO x)) (x.map fun c => .str [c]) := fun B1 m1 S1 H1 t t1 i => by
  have hsz : (SO x).cps.size = x.length := by simp [SO]
  refine ⟨fun d hd => ?_, fun hn => ?_⟩
  · rw [List.getElem?_map] at hd
    cases q : x[i]? with
    | none => rw [q] at hd; cases hd
    | some c =>
      rw [q] at hd
      cases hd
      have hi : i < x.length := (List.getElem?_eq_some_iff.mp q).1
      refine ⟨show i < (SO x).cps.size by rw [hsz]; exact hi, fun v H2 hy => ?_⟩
      obtain ⟨rfl, c2, e2, rfl⟩ := hy
      have e3 : x.toArray[i]? = some c2 := e2
      rw [List.getElem?_toArray, q] at e3
      cases e3
      exact ⟨Le.refl, t1, .str [c] (okS_sub hx fun k hk => by rw [List.mem_singleton.mp hk]; exact List.mem_of_getElem? q)⟩
  · rw [List.getElem?_map, Option.map_eq_none_iff, List.getElem?_eq_none_iff] at hn
    exact show (SO x).cps.size ≤ i by rw [hsz]; exact hn
theorem rng_get (lo : Int) (n i : Nat) : (rngD lo n)[i]? = if i < n then some (.int (lo + i)) else none := by
  unfold rngD
  rw [List.getElem?_map]
  by_cases h : i < n
  · rw [if_pos h, List.getElem?_range h]; rfl
  · rw [if_neg h, List.getElem?_eq_none (by simpa using h)]; rfl
theorem jw_rng (lo : Int) (n : Nat) : JW K B m H (Itr lo n) (rngD lo n) := fun B1 m1 S1 H1 t t1 i => by
  rw [rng_get]
  by_cases h : i < n
  · rw [if_pos h]
    refine ⟨fun x hx => ?_, fun e => nomatch e⟩
    cases hx
    refine ⟨h, fun v H2 hy => ?_⟩
    obtain ⟨rfl, rfl⟩ := hy
    exact ⟨Le.refl, t1, .int _⟩
  · rw [if_neg h]
    exact ⟨fun x hx => (nomatch hx), fun _ => Nat.le_of_not_lt h⟩
/-- a cell walked as it stands -/
theorem jc_at {S : Store} {n : Nat} {a : Addr} {ys : List D} (t : At K B m S H) (ha : m[n]? = some a) (e : lstOf S (.cell n) = some ys) (i : Nat) :
    (∀ x, ys[i]? = some x → (Itl K a).go i H ∧ ∀ v H2, (Itl K a).yld i H v H2 → H2 = H ∧ RelD K B m H x v) ∧ (ys[i]? = none → (Itl K a).stop i H) := by
  obtain ⟨p, vs, e1, hs, r⟩ := RelD.lst_of t (RelD.cell ha) e
  cases e1
  refine ⟨fun x hx => ?_, fun hn => ?_⟩
  · obtain ⟨v, hv, rv⟩ := r.get hx
    refine ⟨⟨vs, v, hs, hv⟩, fun u H2 hy => ?_⟩
    obtain ⟨rfl, hy⟩ := hy
    have e := hy vs hs
    rw [hv] at e
    cases e
    exact ⟨rfl, rv⟩
  · exact ⟨vs, hs, by rw [← r.len]; exact List.getElem?_eq_none_iff.mp hn⟩
end
section
variable {X : Cx} {Z : Xt} {C : Cf} {W : WX} {a b e tg : Expr} {ia ib ie : IE} {pos p : Pos}
theorem i_val (ha : PE X e (Te X.K Z C W ie)) {r : IE} : PI X tg e (Ti X.K Z C W (.cons ie r)) := by
  refine (PI.or' (pi_tup ha) (PI.or' (pi_list ha) (pi_str ha))).imp' fun σ H R ⟨B, m, S, δ, t, e, h⟩ => ?_
  have h : FinG X.K Z B m H (fun c d h => W c d σ h) (M.bind (evE C ie δ) (fun x => M.opt (srcD x)) S) (PSrc X.K B R) := h
  unfold M.bind at h
  cases q : evE C ie δ S with
  | bad => rw [q] at h; exact False.elim h
  | exc c as S1 =>
    rw [q] at h
    exact .inl ⟨B, m, S, δ, t, e, by rw [q]; exact h⟩
  | ok d S1 =>
    rw [q] at h
    cases d with
    | tup xs =>
      refine .inl ⟨B, m, S, δ, t, e, ?_⟩
      rw [q]
      intro m' H' l t' v rv _
      cases rv with
      | tup hq rs => exact ⟨_, rfl, ⟨_, hq.sq⟩, h m' H' l t' _ (jw_tup hq rs)⟩
    | lst xs =>
      refine .inr (.inl ⟨B, m, S, δ, t, e, ?_⟩)
      rw [q]
      intro m' H' l t' v rv _
      cases rv with
      | lst hq rs => exact ⟨_, rfl, ⟨_, hq.sq (K := X.K)⟩, h m' H' l t' _ (jw_lst (fun _ _ _ tr => SqL.of (tr.obj _ _ hq.1 hq.2.1 hq.2.2).1) rs)⟩
    | ro xs =>
      refine .inr (.inl ⟨B, m, S, δ, t, e, ?_⟩)
      rw [q]
      intro m' H' l t' v rv _
      cases rv with
      | ro hq rs => exact ⟨_, rfl, ⟨_, hq.sq⟩, h m' H' l t' _ (jw_lst (fun _ _ _ tr => hq.imp (fun z => (tr.rd z.1 z.2.1 z.2.2).1) id) rs)⟩
    | str x =>
      refine .inr (.inr ⟨B, m, S, δ, t, e, ?_⟩)
      rw [q]
      intro m' H' l t' v rv _
      exact ⟨_, rv.str_of, h m' H' l t' _ (jw_str rv.str_ok)⟩
    | cell n =>
      refine .inr (.inl ⟨B, m, S, δ, t, e, ?_⟩)
      rw [q]
      intro m' H' l t' v rv _
      obtain ⟨a, rfl, ha⟩ := rv.cell_of
      obtain ⟨vs, hv⟩ := t'.mlive (List.mem_of_getElem? ha)
      exact ⟨a, rfl, ⟨vs, SqL.of hv⟩, h m' H' l t' a ha⟩
    | non => exact False.elim h
    | bl _ => exact False.elim h
    | int _ => exact False.elim h
theorem big62_eq : big62 = 2 ^ 62 := by decide
theorem i_rng1 (hg : Gl X "range") (hm : X.mg "range" = none) (hs : notStar a = true) (ha : PE X a (Te X.K Z C W ia)) : PI X tg (.Call (.Name "range" p) [a] [] pos) (Ti X.K Z C W (.rng1 ia)) :=
  (pi_range1 hg hm (pa_cons ha pa_nil (star_cons hs)) (star_cons hs)).imp' fun σ H R ⟨B, m, S, δ, t, e, h⟩ => by
    refine (Mid.start t e).stepE h fun v d S1 m1 H1 l1 M1 r1 _ h1 => ?_
    cases d with
    | int j =>
      have h1 : FinG X.K Z B m H (fun c d h => W c d σ h) ((if -big62 ≤ j ∧ j < big62 then M.ret (.xs (rngD 0 j.toNat)) else M.bad : M Src) S1) (PSrc X.K B R) := h1
      by_cases hz : -big62 ≤ j ∧ j < big62
      · rw [if_pos hz] at h1
        rw [big62_eq] at hz
        exact ⟨j, by rw [r1.int_of], hz.1, hz.2, (FinG.ret (M1.here h1)).now M1.t0 _ (jw_rng 0 j.toNat)⟩
      · rw [if_neg hz] at h1; exact False.elim h1
    | _ => exact False.elim h1
theorem i_rng2 (hg : Gl X "range") (hm : X.mg "range" = none) (hs : notStar a = true) (hs2 : notStar b = true) (ha : PE X a (Te X.K Z C W ia)) (hb : PE X b (Te X.K Z C W ib)) : PI X tg (.Call (.Name "range" p) [a, b] [] pos) (Ti X.K Z C W (.rng2 ia ib)) :=
  (pi_range2 hg hm (pa_cons ha (pa_cons hb pa_nil (star_cons hs2)) (star_cons hs)) (by rw [star_cons hs, star_cons hs2]; rfl) (star_cons hs2)).imp' fun σ H R ⟨B, m, S, δ, t, e, h⟩ => by
    refine (Mid.start t e).stepE h fun v d S1 m1 H1 l1 M1 r1 _ h1 => ?_
    refine M1.stepE h1 fun u d2 S2 m2 H2 l2 M2 r2 _ h2 => ?_
    cases d with
    | int i =>
      cases d2 with
      | int j =>
        have h2 : FinG X.K Z B m H (fun c d h => W c d σ h) ((if -big62 ≤ i ∧ i < big62 ∧ -big62 ≤ j ∧ j < big62 then M.ret (.xs (rngD i (j - i).toNat)) else M.bad : M Src) S2) (PSrc X.K B R) := h2
        by_cases hz : -big62 ≤ i ∧ i < big62 ∧ -big62 ≤ j ∧ j < big62
        · rw [if_pos hz] at h2
          rw [big62_eq] at hz
          exact ⟨i, j, by rw [r1.int_of, r2.int_of], hz, (FinG.ret (M2.here h2)).now M2.t0 _ (jw_rng i (j - i).toNat)⟩
        · rw [if_neg hz] at h2; exact False.elim h2
      | _ => exact False.elim h2
    | _ => exact False.elim h2
/-! ### targets -/
/-- a target's reading: from the evaluator's slots -/
def Tg (K : Fg) (p : Pat) : TG := fun v σ H Q => ∃ B m S δ d δ', At K B m S H ∧ RelE K B m H δ σ ∧ RelD K B m H d v ∧ patE p d S δ = some δ' ∧ ∀ σ', RelE K B m H δ' σ' → wipe σ' (match p with
  | .nm i => [i]
  | .tp is => is) = wipe σ (match p with
  | .nm i => [i]
  | .tp is => is) → Q σ' H
theorem wipe_set {i : Nat} {v : V} : ∀ (vs : List Nat) (σ : L2.St), i ∈ vs → wipe (σ.set i (some v)) vs = wipe σ vs
  | [], _, h => by cases h
  | j :: vs, σ, h => by
    show (wipe (σ.set i (some v)) vs).set j none = (wipe σ vs).set j none
    by_cases hm : i ∈ vs
    · rw [wipe_set vs σ hm]
    · have e : i = j := (List.mem_cons.mp h).resolve_right hm
      subst e
      have comm : ∀ (ws : List Nat) (τ : L2.St), i ∉ ws → wipe (τ.set i (some v)) ws = (wipe τ ws).set i (some v) := by
        intro ws
        induction ws with
        | nil => intro τ _; rfl
        | cons k ws ih =>
          intro τ hn
          show (wipe (τ.set i (some v)) ws).set k none = ((wipe τ ws).set k none).set i (some v)
          rw [ih τ (fun z => hn (List.mem_cons_of_mem _ z)), List.set_comm _ _ (fun z => hn (by rw [z]; exact List.mem_cons_self))]
      rw [comm vs σ hm, List.set_set]
theorem g_name {i : Nat} {x : Str} (hN : X.N.Nodup) (hi : X.N[i]? = some x) (hx : Loc X.env.scope x) (hf : X.fn x = true ∨ X.env.scope.names.lookup x = some .local) : PG X (.Name x pos) (Tg X.K (.nm i)) := by
  have h0 := pg_name (X := X) (pos := pos) hN hi hx hf
  refine ⟨fun pins s σ H v u Q I r h => h0.run pins s σ H v u Q I r ?_⟩
  obtain ⟨B, m, S, δ, d, δ', t, e, rd, hp, q⟩ := h
  cases hp
  exact q _ (e.set rd i) (wipe_set [i] σ (List.mem_singleton_self i))
/-- names one behind another -/
def nmEs : List (Str × Pos) → List Expr
  | [] => []
  | (x, p) :: r => .Name x p :: nmEs r
theorem each_names (env : Env) : ∀ xs : List (Str × Pos), (assignEach (nmEs xs) env).length = xs.length ∧ (assignEach (nmEs xs) env).findIdx? (·.1) = none
  | [] => ⟨rfl, rfl⟩
  | (x, p) :: r => by
    obtain ⟨h1, h2⟩ := each_names env r
    refine ⟨by show (assignEach (nmEs r) env).length + 1 = _; rw [h1]; rfl, ?_⟩
    show List.findIdx? (·.1) ((false, assign (.Name x p) env) :: assignEach (nmEs r) env) = none
    rw [List.findIdx?_cons, h2]
    rfl
def gSetAll (is : List Nat) : TGs := fun vs σ H Q => vs.length = is.length ∧ Q ((is.zip vs).foldl (fun τ p => τ.set p.1 (some p.2)) σ) H
theorem pgs_names (hN : X.N.Nodup) : ∀ (xs : List (Str × Pos)) (is : List Nat), xs.length = is.length → (∀ q ∈ is.zip xs, X.N[q.1]? = some q.2.1 ∧ Loc X.env.scope q.2.1 ∧ (X.fn q.2.1 = true ∨ X.env.scope.names.lookup q.2.1 = some .local)) → PGs X (nmEs xs) (gSetAll is)
  | [], [], _, _ => ⟨fun pins s σ H vs us Q I r h => pgs_nil.run pins s σ H vs us Q I r ⟨List.eq_nil_of_length_eq_zero h.1, by have e := List.eq_nil_of_length_eq_zero h.1; subst e; exact h.2⟩⟩
  | (x, p) :: r, i :: is, hl, h => by
    obtain ⟨h1, h2, h3⟩ := h (i, (x, p)) (by simp)
    have h0 := pgs_cons (pg_name (pos := p) hN h1 h2 h3) (pgs_names hN r is (by simpa using hl) fun q hq => h q (by simp [hq]))
    refine ⟨fun pins s σ H vs us Q I rv q => h0.run pins s σ H vs us Q I rv ?_⟩
    obtain ⟨q1, q2⟩ := q
    cases vs with
    | nil => simp at q1
    | cons v vr => exact ⟨v, vr, rfl, by simpa using q1, q2⟩
theorem setAll_rel {K : Fg} {B m : List Addr} {H : Hp} : ∀ {is : List Nat} {ds : List D} {vs : List V} {δ δ' : Ev} {σ : L2.St}, RelE K B m H δ σ → RelDs K B m H ds vs → setAll is ds δ = some δ' →
    vs.length = is.length ∧ RelE K B m H δ' ((is.zip vs).foldl (fun τ p => τ.set p.1 (some p.2)) σ)
  | [], [], _, δ, δ', σ, e, .nil, h => by cases h; exact ⟨rfl, e⟩
  | [], _ :: _, _, _, _, _, _, _, h => by cases h
  | _ :: _, [], _, _, _, _, _, _, h => by cases h
  | i :: is, d :: ds, _, δ, δ', σ, e, .cons r s, h => by
    obtain ⟨h1, h2⟩ := setAll_rel (e.set r i) s (show setAll is ds (δ.set i (some d)) = some δ' from h)
    exact ⟨by simp [h1], h2⟩
theorem wipe_all (vs : List Nat) : ∀ (is : List Nat) (us : List V) (σ : L2.St), (∀ i ∈ is, i ∈ vs) → wipe ((is.zip us).foldl (fun τ p => τ.set p.1 (some p.2)) σ) vs = wipe σ vs
  | [], _, _, _ => rfl
  | _ :: _, [], _, _ => rfl
  | i :: is, u :: us, σ, h => by
    show wipe ((is.zip us).foldl _ (σ.set i (some u))) vs = _
    rw [wipe_all vs is us _ fun j hj => h j (List.mem_cons_of_mem _ hj), wipe_set vs σ (h i List.mem_cons_self)]
theorem g_tup {xs : List (Str × Pos)} {is : List Nat} {k : Nat} (hc : X.calm = true) (hN : X.N.Nodup) (hl : xs.length = is.length) (h : ∀ q ∈ is.zip xs, X.N[q.1]? = some q.2.1 ∧ Loc X.env.scope q.2.1 ∧ (X.fn q.2.1 = true ∨ X.env.scope.names.lookup q.2.1 = some .local)) :
    PG X (.Tuple (nmEs xs) k pos) (Tg X.K (.tp is)) := by
  obtain ⟨e1, e2⟩ := each_names X.env xs
  have h0 := pg_tup (pos := pos) (k := k) hc (pgs_names hN xs is hl h) e1 e2
  have h1 := pg_lst (pos := pos) (k := k) hc (pgs_names hN xs is hl h) e1 e2
  refine ⟨fun pins s σ H v u Q I r q => ?_⟩
  obtain ⟨B, m, S, δ, d, δ', t, e, rd, hp, q⟩ := q
  unfold patE at hp
  cases hs : seqOf S d with
  | none => rw [hs] at hp; cases hp
  | some ds =>
    simp only [hs] at hp
    obtain ⟨a, vs, rfl, hsq, rs⟩ := rd.seq_of t hs
    obtain ⟨g1, g2⟩ := setAll_rel e rs hp
    rcases hsq with hq | hq
    · exact h1.run pins s σ H _ u Q I r ⟨a, vs, rfl, hq, by rw [g1, hl], g1, q _ g2 (wipe_all is is vs σ fun i hi => hi)⟩
    · exact h0.run pins s σ H _ u Q I r ⟨a, vs, rfl, hq, by rw [g1, hl], g1, q _ g2 (wipe_all is is vs σ fun i hi => hi)⟩
end
end Fb
set_option Elab.async false
set_option linter.all false
set_option maxRecDepth 100000
set_option maxHeartbeats 1000000
/-! Fx7: sorted(x, key=len). -/
namespace Fb
open PySem PySem.Spec PyProof.Rows L2 SrtO
section
variable {α β : Type} (k : α → Nat)
theorem insBy_perm (x : α) : ∀ l : List α, (insBy k x l).Perm (x :: l)
  | [] => .refl _
  | y :: r => by
    unfold insBy
    by_cases h : k x ≤ k y
    · rw [if_pos h]
    · rw [if_neg h]
      exact ((insBy_perm x r).cons y).trans (List.Perm.swap x y r)
theorem sortBy_perm : ∀ l : List α, (sortBy k l).Perm l
  | [] => .refl _
  | x :: r => (insBy_perm k x _).trans ((sortBy_perm r).cons x)
theorem insBy_sorted (x : α) : ∀ l : List α, l.Pairwise (fun p q => k p ≤ k q) → (insBy k x l).Pairwise (fun p q => k p ≤ k q)
  | [], _ => List.pairwise_singleton _ _
  | y :: r, h => by
    have h2 := List.pairwise_cons.mp h
    unfold insBy
    by_cases z : k x ≤ k y
    · rw [if_pos z]
      refine List.pairwise_cons.mpr ⟨fun q hq => ?_, h⟩
      rcases List.mem_cons.mp hq with rfl | hq
      · exact z
      · exact Nat.le_trans z (h2.1 q hq)
    · rw [if_neg z]
      refine List.pairwise_cons.mpr ⟨fun q hq => ?_, insBy_sorted x r h2.2⟩
      rcases List.mem_cons.mp ((insBy_perm k x r).mem_iff.mp hq) with rfl | hq
      · omega
      · exact h2.1 q hq
theorem sortBy_sorted : ∀ l : List α, (sortBy k l).Pairwise (fun p q => k p ≤ k q)
  | [] => .nil
  | x :: r => insBy_sorted k x _ (sortBy_sorted r)
theorem insBy_filter (x : α) (c : Nat) : ∀ l : List α, (insBy k x l).filter (fun p => k p == c) = (x :: l).filter (fun p => k p == c)
  | [] => rfl
  | y :: r => by
    unfold insBy
    by_cases z : k x ≤ k y
    · rw [if_pos z]
    · rw [if_neg z, List.filter_cons, insBy_filter x c r, List.filter_cons, List.filter_cons, List.filter_cons]
      by_cases e1 : k y = c
      · have e2 : k x ≠ c := by omega
        simp [e1, e2]
      · simp [e1]
theorem sortBy_filter (c : Nat) : ∀ l : List α, (sortBy k l).filter (fun p => k p == c) = l.filter (fun p => k p == c)
  | [] => rfl
  | x :: r => by
    show (insBy k x (sortBy k r)).filter _ = _
    rw [insBy_filter, List.filter_cons, List.filter_cons, sortBy_filter c r]
theorem insBy_map (f : β → α) (x : β) : ∀ l : List β, (insBy (k ∘ f) x l).map f = insBy k (f x) (l.map f)
  | [] => rfl
  | y :: r => by
    unfold insBy
    rw [List.map_cons]
    by_cases z : k (f x) ≤ k (f y)
    · rw [if_pos (show (k ∘ f) x ≤ (k ∘ f) y from z)]
      dsimp only
      rw [if_pos z]; rfl
    · rw [if_neg (show ¬ (k ∘ f) x ≤ (k ∘ f) y from z)]
      dsimp only
      rw [if_neg z, List.map_cons, insBy_map f x r]
theorem sortBy_map (f : β → α) : ∀ l : List β, (sortBy (k ∘ f) l).map f = sortBy k (l.map f)
  | [] => rfl
  | x :: r => by
    show (insBy (k ∘ f) x (sortBy (k ∘ f) r)).map f = _
    rw [insBy_map, sortBy_map f r]; rfl
end
def ltI (p q : Int × Value) : Bool := decide (p.1 < q.1)
theorem ltI_swo : Swo ltI := ⟨fun x y h => by simp [ltI] at h ⊢; omega, fun x y z h1 h2 => by simp [ltI] at h1 h2 ⊢; omega⟩
/-- the one stable sort -/
theorem sort_one {α : Type} (k : α → Nat) (g : α → Int × Value) (hg : ∀ a, (g a).1 = (k a : Int)) {l : List α} {ps : List (Int × Value)} (hp : ps.Perm (l.map g)) (hs : ps.Pairwise (fun p q => p.1 ≤ q.1))
    (hf : ∀ c, ps.filter (fun p => p.1 == c) = (l.map g).filter (fun p => p.1 == c)) : ps = (sortBy k l).map g := by
  refine stb_uniq ltI_swo (hs.imp fun {a b} h => by simp [ltI]; omega) (List.pairwise_map.mpr ((sortBy_sorted k l).imp fun {a b} h => by simp [ltI, hg]; omega)) ⟨hp.trans ((sortBy_perm k l).map g).symm, fun x => ?_⟩
  have e : (fun y : Int × Value => eqv ltI x y) = fun y => y.1 == x.1 := by
    funext y
    unfold eqv ltI
    by_cases h : y.1 = x.1
    · simp [h]
    · have : (y.1 == x.1) = false := by simpa using h
      rw [this]
      by_cases h2 : x.1 < y.1
      · simp [h2]
      · have : y.1 < x.1 := by omega
        simp [this]
  show ps.filter (fun y => eqv ltI x y) = ((sortBy k l).map g).filter (fun y => eqv ltI x y)
  rw [e, hf, List.filter_map, List.filter_map]
  by_cases hx : 0 ≤ x.1
  · have e2 : ((fun p : Int × Value => p.1 == x.1) ∘ g) = fun a => k a == x.1.toNat := by
      funext a
      show ((g a).1 == x.1) = _
      rw [hg]
      by_cases z : (k a : Int) = x.1
      · have : k a = x.1.toNat := by omega
        have z2 : ((k a : Int) == x.1) = true := by simpa using z
        rw [z2]; simp [this]
      · have : k a ≠ x.1.toNat := by omega
        have z2 : ((k a : Int) == x.1) = false := by simpa using z
        rw [z2]; simp [this]
    rw [e2, sortBy_filter]
  · have e2 : ∀ m : List α, m.filter ((fun p : Int × Value => p.1 == x.1) ∘ g) = [] := fun m => List.filter_eq_nil_iff.mpr fun a _ => by
      show ¬ ((g a).1 == x.1) = true
      rw [hg]; simp; omega
    rw [e2, e2]
/-- a sort by a built-in key, where the new list stands told -/
theorem sorted_at {prog : Program} {w : World} {A : Around} {E : Value → Shared → Prop} {s : Shared} {h₀ : Heap} {L l : Addr} {m : Str → Option Value} {news : List (Addr × Obj)} {vs : List Value} {Q : Value → Shared → Prop} {kz : List Int} {f : Value} {kw : List (Str × Value)}
    (F : Fr h₀ L s.heap m) (N : News h₀ L s.heap news) (hl : s.heap.IsList l vs.toArray) (hlen : kz.length = vs.length) (hZ : vs.length ≤ sizeLine)
    (ha1 : argsOk "sorted" ⟨[.ref l], kw⟩) (ha2 : ∀ x, argsOk "list.sort" ⟨[.ref x], kw⟩) (ht : ∀ x, Builtin.«list.sort» ⟨[.ref x], kw⟩ = ksk_tree x f false)
    (turn : ∀ (i : Nat) (v : Value) (k : Int), vs[i]? = some v → kz[i]? = some k → ∀ (h : Heap) (tk : Nat) (own : List (Addr × Obj)), Fr h₀ L h m → News h₀ L h (news ++ own) →
      wpAny (model prog w) A.in1.in1 (call f [v]) (KskEnd h₀ L m (news ++ own) k { s with heap := h, toks := tk }) (fun _ _ => False) { s with heap := h, toks := tk })
    (h : ∀ D h' tk out c, Fr h₀ L h' m → News h₀ L h' ((D, seqObj "list" out c) :: news) → s.heap.objs.size ≤ D → KskOutSt false kz vs out.toList → Q (.ref D) { s with heap := h', toks := tk }) :
    wpAny (model prog w) A (call (.builtin "sorted") [.ref l] kw) Q E s := by
  refine call_function_entry_kw kind_sorted plain_sorted entry_sorted ha1 ?_
  unfold Builtin.«sorted»
  refine wpAny_bind (m := checkCount "sorted" 1 1 _) (wpAny_pure (wpAny_bind (collect_list hl (wpAny_bind (wpAny_newList ?_ (by simpa using hZ))) (by simpa using hZ))))
  generalize hg : ((s.heap.push (seqObj "list" #[] 0)).update s.heap.objs.size (Obj.mapSeq (· ++ vs.toArray))) = g
  have hz : g.objs.size = s.heap.objs.size + 1 := by rw [← hg, Heap.size_update, size_push']
  have ho : (g.push (seqObj "list" vs.toArray 0)).get? (s.heap.objs.size + 1) = some (seqObj "list" vs.toArray 0) := by rw [← hz]; exact Heap.get?_push_size _ rfl
  have keep : ∀ b o, s.heap.get? b = some o → (g.push (seqObj "list" vs.toArray 0)).get? b = some o := fun b o q => by
    have hlt : b < s.heap.objs.size := Heap.lt_size q
    rw [Heap.get?_push_ne _ _ _ (by rw [hz]; exact Nat.ne_of_lt (Nat.lt_succ_of_lt hlt)), ← hg, Heap.get?_update_ne _ _ _ _ (Nat.ne_of_lt hlt), Heap.get?_push_ne _ _ _ (Nat.ne_of_lt hlt)]
    exact q
  have hL : L < s.heap.objs.size := F.ns.lt
  show wpAny _ _ _ _ _ { s with heap := g.push (seqObj "list" vs.toArray 0) }
  rw [hz]
  refine wpAny_bind (wpAny_holding (wpAny_call_entry_kw slot_list_sort ⟨_, ho, rfl⟩ entry_list_sort ?body (ha2 _)))
  show wpAny (model prog w) A.in1.in1 (Builtin.«list.sort» ⟨[.ref (s.heap.objs.size + 1)], kw⟩) _ _ _
  rw [ht]
  exact ksk_sortSt (s := { s with heap := g.push (seqObj "list" vs.toArray 0) }) (F.kept keep) (N.grown keep) ho (Nat.ne_of_gt (Nat.lt_succ_of_lt hL)) (Heap.get?_none_of_le (Nat.le_trans F.above (Nat.le_succ_of_le (Nat.le_of_lt hL)))) (fun p hp => Nat.ne_of_lt (Nat.lt_succ_of_lt (Heap.lt_size (N p hp).1))) hlen hZ turn
    fun h' tk out c F' N' k' => ⟨_, rfl, wpAny_pure ⟨_, rfl, h _ h' tk out c F' N' (Nat.le_succ _) k'⟩⟩
/-- all that the heap holds but for L -/
def allBut (h : Heap) (L : Addr) : List (Addr × Obj) := (List.range h.objs.size).filterMap fun b => if b = L then none else (h.get? b).map fun o => (b, o)
theorem mem_allBut {h : Heap} {L b : Addr} {o : Obj} (hb : b ≠ L) (e : h.get? b = some o) : (b, o) ∈ allBut h L :=
  List.mem_filterMap.mpr ⟨b, List.mem_range.mpr (Heap.lt_size e), by rw [if_neg hb, e]; rfl⟩
theorem of_allBut {h : Heap} {L : Addr} {p : Addr × Obj} (m : p ∈ allBut h L) : h.get? p.1 = some p.2 ∧ p.1 ≠ L := by
  obtain ⟨b, _, e⟩ := List.mem_filterMap.mp m
  by_cases hb : b = L
  · rw [if_pos hb] at e; cases e
  · rw [if_neg hb] at e
    cases q : h.get? b with
    | none => rw [q] at e; cases e
    | some o => rw [q] at e; cases e; exact ⟨q, hb⟩
def SrtQ (K : PySem.W.Frag) (Q : VK) (x : V) (H1 : Hp) : Prop := ∃ (a : Addr) (ss : List Str), x = .ref a ∧ SqL K H1 a (ss.map V.str) ∧ (∀ z ∈ ss, z.length ≤ sizeLine) ∧ ∀ p, H1 p = none → Q (.ref p) (upd H1 p (.lst ((sortBy Str.length ss).map V.str)))
def tSrt (K : PySem.W.Frag) (te : TE) : TE := fun σ H Q => te σ H (SrtQ K Q)
section
variable {X : Cx} {pins : List (Addr × Obj)} {σ : L2.St} {H : Hp} {s : Shared} {h' : Heap}
/-- a new object laid, the frame's own object kept but for its order -/
theorem inv_laidL {a : Addr} {o : HO} {t' : Nat} (I : Inv X pins σ H s) (k : ∀ b u, b ≠ X.env.locals → s.heap.get? b = some u → h'.get? b = some u) (ns : ∀ m, s.heap.Ns X.env.locals m → h'.Ns X.env.locals m) (hp : s.heap.objs.size ≤ a) (new : ObjOk X.prog X.w (upd H a o) h' a o) :
    Inv X pins σ (upd H a o) { s with heap := h', toks := t' } := by
  have hn := I.hok.fresh hp
  have ne : ∀ {b : Addr} {u : Obj}, s.heap.get? b = some u → b ≠ a := fun {b u} e => Nat.ne_of_lt (Nat.lt_of_lt_of_le (Heap.lt_size e) hp)
  have hL : ∃ u, h'.get? X.env.locals = some u := by
    obtain ⟨m, hm, _⟩ := I.loc
    obtain ⟨o', _, _, ho, _⟩ := ns m hm
    exact ⟨o', ho⟩
  refine I.step (g' := s.gens) (d' := s.drawn) (ch := []) (fun _ z => nomatch z) (fun b o hb _ _ e n => k b o hb e) (fun b o hb _ _ e n => ⟨o.slots, k b o hb e⟩) (fun b o _ e n => by rw [upd_ne (ne e)]; exact n) (fun b o _ e => ?_) (fun b xs e => by rw [upd_ne (ne_of_none e hn)]; exact e) (fun b o xs e => by rw [upd_ne (ne_of_none e hn)]; exact e) (fun b ps e => ⟨#[], by rw [upd_ne (ne_of_none e hn)]; simpa using e⟩) ns (fun b u e => ?_) I.bare
  · by_cases z : b = X.env.locals
    · rw [z]; exact hL
    · exact ⟨o, k b o z e⟩
  · by_cases hb : b = a
    · subst hb; rw [upd_same] at e; cases e; exact new
    · rw [upd_ne hb] at e
      refine (I.hok b u e).stay (fun c v hc q => k c v ?_ q) (fun c q => by rw [upd_ne (ne_of_none q hn)]; exact q) fun c xs q => by rw [upd_ne (ne_of_none q hn)]; exact q
      rintro rfl
      have f := I.free
      rcases hc with rfl | hc
      · rw [f] at e; cases e
      · rw [f] at hc; cases hc
theorem pe_sort {e : Expr} {te : TE} {p p2 p3 pos : Pos} (hc : X.calm = true) (hg : Gl X "sorted") (hm : X.mg "sorted" = none) (hg2 : Gl X "len") (hm2 : X.mg "len" = none) (he : PE X e te) (hs : notStar e = true) :
    PE X (.Call (.Name "sorted" p) [e] [⟨some "key", .Name "len" p2, p3⟩] pos) (tSrt X.K te) := by
  refine ⟨fun pins s σ H Q I h => ?_⟩
  have ha : PA X [e] (tCons te tNil) := pa_cons he pa_nil (star_cons hs)
  refine wpAny_Call_Name_kw (ld_blt I hg hm (u := .builtin "sorted") (by decide +kernel) ?_ (by decide) (by decide))
  refine PyProof.Rows.callWith_kw (thn (ha.run pos pins s σ H (fun vs H1 => match vs with
    | [x] => SrtQ X.K Q x H1
    | _ => False) I h) fun us s1 ⟨vs, H1, I1, r1, q1⟩ => ?_) (by rw [star_cons hs]; rfl) (by rw [star_cons hs]; rfl) (by rfl) (by rfl)
  show wpAny _ _ (evalAll ((do let v ← eval (.Name "len" p2) X.env; standAt pos; pure v) :: [])) _ _ s1
  refine wpAny_evalAll_cons (wpAny_bind (ld_blt I1 hg2 hm2 (u := .builtin "len") (by decide +kernel) (wpAny_bind (wpAny_standAt (wpAny_pure ?_))) (by decide) (by decide)))
  refine wpAny_evalAll_nil ?_
  show wpAny _ _ (call (.builtin "sorted") us [(Str.ofString "key", .builtin "len")]) _ _ s1
  dsimp only at q1
  split at q1
  · rename_i x
    obtain ⟨a, ss, rfl, hx, hz, q⟩ := q1
    obtain rfl := Vals.ref1 r1
    obtain ⟨its, rv, hl, hsz⟩ := I1.list hx
    obtain ⟨m, hm, _⟩ := I1.loc
    have hln : its.length = ss.length := by rw [← rv.length, List.length_map]
    have toks : ∀ {ss : List Str} {its : List Value}, Vals (ss.map V.str) its → ∀ (i : Nat) (v : Value) (z : Str), its[i]? = some v → ss[i]? = some z → ∃ t, v = .str z t := by
      intro ss its r i v z h1 h2
      obtain ⟨u, hu, ru⟩ := r.get (i := i) (x := .str z) (by rw [List.getElem?_map, h2]; rfl)
      rw [h1] at hu; cases hu
      exact ru
    have FR : Fr ({} : Heap) X.env.locals s1.heap m := ⟨hm, fun b o e => absurd (Heap.lt_size e) (Nat.not_lt_zero _), Nat.zero_le _⟩
    have NW : News ({} : Heap) X.env.locals s1.heap (allBut s1.heap X.env.locals) := fun p hp => ⟨(of_allBut hp).1, (of_allBut hp).2, Heap.get?_none_of_le (Nat.zero_le _)⟩
    refine sorted_at (kz := ss.map fun z => (z.length : Int)) FR NW hl.isList (by rw [List.length_map, hln]) (by rw [hln]; rw [List.length_map] at hsz; exact hsz) (ksk_s1 _ _) (fun x => ksk_l1 _ _) (fun x => ksk_t4 _ _)
      (fun i v k hv hk h tk own F' N' => ?_) fun Dn h' tk out c F' N' nD hk => ?_
    · rw [List.getElem?_map] at hk
      cases e : ss[i]? with
      | none => rw [e] at hk; cases hk
      | some z =>
        rw [e] at hk; cases hk
        obtain ⟨t, rfl⟩ := toks rv i v z hv e
        have hz' := hz z (List.mem_of_getElem? e)
        exact PyProof.Rows.len_str (by rw [sizeLine_eq] at hz'; omega) (KskEnd.intro F' N' fun p hp => hp)
    · obtain ⟨ps, hp, ho, hs2, hf⟩ := hk
      have ez : (ss.map fun z => (z.length : Int)).zip its = (ss.zip its).map fun p => ((p.1.length : Int), p.2) := by rw [List.zip_map_left]; rfl
      rw [ez] at hp hf
      have e2 := sort_one (α := Str × Value) (fun p => p.1.length) (fun p => ((p.1.length : Int), p.2)) (fun _ => rfl) hp (by simpa using hs2) hf
      have e3 : out.toList = (sortBy (Str.length ∘ Prod.fst) (ss.zip its)).map Prod.snd := by rw [ho, e2, List.map_map]; rfl
      have e4 : (sortBy (Str.length ∘ Prod.fst) (ss.zip its)).map Prod.fst = sortBy Str.length ss := by
        rw [sortBy_map, List.map_fst_zip (by omega)]
      have rel : ∀ l : List (Str × Value), (∀ p ∈ l, ∃ t, p.2 = .str p.1 t) → Vals (l.map fun p => V.str p.1) (l.map Prod.snd) := by
        intro l
        induction l with
        | nil => intro _; exact .nil
        | cons p r ih => exact fun h => .cons (h p List.mem_cons_self) (ih fun q hq => h q (List.mem_cons_of_mem _ hq))
      have ro : Vals ((sortBy Str.length ss).map V.str) out.toList := by
        rw [e3, ← e4, List.map_map]
        refine rel _ fun p hp => ?_
        have hp2 := (sortBy_perm _ _).mem_iff.mp hp
        obtain ⟨i, hi, e5⟩ := List.mem_iff_getElem.mp hp2
        rw [List.getElem_zip] at e5
        have hi1 : i < min ss.length its.length := by simpa [List.length_zip] using hi
        have hi2 : i < ss.length ∧ i < its.length := by omega
        rw [← e5]
        exact toks rv i _ _ (List.getElem?_eq_getElem hi2.2) (List.getElem?_eq_getElem hi2.1)
      have new := N' (Dn, seqObj "list" out c) (List.mem_cons_self)
      have lo : ((sortBy Str.length ss).map V.str).length ≤ sizeLine := by
        rw [List.length_map, (sortBy_perm _ _).length_eq]
        rwa [List.length_map] at hsz
      refine ⟨.ref Dn, _, inv_laidL (t' := tk) (o := .lst ((sortBy Str.length ss).map V.str)) I1 (fun b u hb e => (N' (b, u) (List.mem_cons_of_mem _ (mem_allBut hb e))).1) (fun m' hm' => ?_) nD ⟨lo, out.toList, c, ro, by simpa [seqObj] using new.1⟩, rfl, q _ (I1.hok.fresh nD)⟩
      have : m' = m := funext fun x => by
        obtain ⟨o1, es, ep, h1, h2, _, h3⟩ := hm
        obtain ⟨o2, es2, ep2, h4, h5, _, h6⟩ := hm'
        rw [h1] at h4; cases h4
        rw [h2] at h5; cases h5
        rw [← h3, ← h6]
      rw [this]; exact F'.ns
  · exact False.elim q1
end
section
variable {X : Cx} {Z : Xt} {C : Cf} {W : WX} {e : Expr} {ie : IE}
theorem s_srt {p p2 p3 pos : Pos} (hc : X.calm = true) (hg : Gl X "sorted") (hm : X.mg "sorted" = none) (hg2 : Gl X "len") (hm2 : X.mg "len" = none) (he : PE X e (Te X.K Z C W ie)) (hs : notStar e = true) :
    PE X (.Call (.Name "sorted" p) [e] [⟨some "key", .Name "len" p2, p3⟩] pos) (Te X.K Z C W (.srt ie)) :=
  (pe_sort hc hg hm hg2 hm2 he hs).imp' fun σ H Q ⟨B, m, S, δ, t, e, h⟩ => (Mid.start t e).stepE h fun v d S1 m1 H1 l1 M1 r1 _ h1 => by
    have h1 : FinG X.K Z B m H (fun c d h => W c d σ h) (M.opt (srtD S1 d) S1) (PD X.K B H true Q) := h1
    obtain ⟨d2, e2, h2⟩ := h1.opt
    unfold srtD at e2
    cases q : lstOf S1 d with
    | none => rw [q] at e2; cases e2
    | some xs =>
      rw [q] at e2
      dsimp only at e2
      cases q2 : strsOf xs with
      | none => rw [q2] at e2; cases e2
      | some ss =>
        rw [q2] at e2
        dsimp only at e2
        by_cases z : ss.all (fun z => decide (z.length ≤ SL)) = true
        · rw [if_pos z] at e2
          cases e2
          obtain ⟨a, vs, rfl, hq, rs⟩ := r1.lst_of M1.t0 q
          obtain ⟨rfl, ho⟩ := strs_V rs q2
          refine ⟨a, ss.map SO, rfl, hq, fun z hz => ?_, fun p hp => ?_⟩
          · obtain ⟨y, hy, rfl⟩ := List.mem_map.mp hz
            rw [SO_len]
            have := of_decide_eq_true (List.all_eq_true.mp z y hy)
            exact this
          · refine fin_lst M1.t0 (fun _ z => M1.none z) (M1.here h2) hp ?_
            have e3 : sortBy Str.length (ss.map SO) = (sortBy List.length ss).map SO := by
              rw [← sortBy_map]
              have : (Str.length ∘ SO) = List.length := funext fun y => SO_len y
              rw [this]
            rw [e3]
            have rel : ∀ l : List (List Nat), (∀ y ∈ l, okS y = true) → RelDs X.K B m1 H1 (l.map .str) ((l.map SO).map V.str) := by
              intro l
              induction l with
              | nil => exact fun _ => .nil
              | cons y r ih => exact fun h => .cons (.str y (h y List.mem_cons_self)) (ih fun w hw => h w (List.mem_cons_of_mem _ hw))
            exact rel _ fun y hy => ho y ((sortBy_perm _ _).mem_iff.mp hy)
        · rw [if_neg z] at e2; cases e2
end
end Fb
set_option Elab.async false
set_option linter.all false
set_option maxRecDepth 100000
set_option maxHeartbeats 1000000
/-! Fbi: enumerate, zip, range by steps: what is walked. -/
namespace Fb
open PySem PySem.Spec PyProof.Rows L2 RZ
section
variable {K : Fg} {B m : List Addr} {H : Hp}
theorem enum_get : ∀ (xs : List D) (k i : Nat), (enumD k xs)[i]? = (xs[i]?).map fun x => .tup [.int ((k + i : Nat)), x]
  | [], k, i => by simp [enumD]
  | x :: r, k, 0 => by simp [enumD]
  | x :: r, k, i + 1 => by
    have h := enum_get r (k + 1) i
    show (enumD (k + 1) r)[i]? = _
    rw [h, List.getElem?_cons_succ, show k + 1 + i = k + (i + 1) by omega]
theorem zip_get : ∀ (xs ys : List D) (i : Nat), (zipD xs ys)[i]? = match xs[i]?, ys[i]? with
    | some x, some y => some (.tup [x, y])
    | _, _ => none
  | [], ys, i => by simp [zipD]
  | x :: xs, [], i => by
    simp [zipD]
  | x :: xs, y :: ys, 0 => by simp [zipD]
  | x :: xs, y :: ys, i + 1 => by
    have h := zip_get xs ys i
    show (zipD xs ys)[i]? = _
    rw [h, List.getElem?_cons_succ, List.getElem?_cons_succ]
/-- the items of a list that is no cell, whatever the heap grows to -/
theorem RelD.val_of {d : D} {v : V} {xs : List D} (h : RelD K B m H d v) (e : valL d = some xs) : ∃ a vs, v = .ref a ∧ RelDs K B m H xs vs ∧ SqL K H a vs ∧ ∀ B1 m1 H1, Tr K B m B1 m1 H H1 → SqL K H1 a vs := by
  unfold valL at e
  split at e
  · cases e
    cases h with
    | lst q r => exact ⟨_, _, rfl, r, q.sq, fun B1 m1 H1 t => SqL.of (t.obj _ _ q.1 q.2.1 q.2.2).1⟩
  · cases e
    cases h with
    | ro q r => exact ⟨_, _, rfl, r, q.sq, fun B1 m1 H1 t => q.imp (fun h => (t.rd h.1 h.2.1 h.2.2).1) id⟩
  · cases e
theorem new_pair {S1 : Store} {B1 m1 : List Addr} {H1 : Hp} (t1 : At K B1 m1 S1 H1) {T : Addr} {x y : D} {u v : V} (h : H1 T = none) (rx : RelD K B1 m1 H1 x u) (ry : RelD K B1 m1 H1 y v) :
    Le m1 m1 H1 (upd H1 T (.tup [u, v])) ∧ At K B1 m1 S1 (upd H1 T (.tup [u, v])) ∧ RelD K B1 m1 (upd H1 T (.tup [u, v])) (.tup [x, y]) (.ref T) :=
  ⟨Le.new t1 h, t1.new h, RelD.new_tup t1 h (.cons rx (.cons ry .nil))⟩
theorem jw_enum {a : Addr} {vs : List V} {xs : List D} (q : ∀ B1 m1 H1, Tr K B m B1 m1 H H1 → SqL K H1 a vs) (r : RelDs K B m H xs vs) : JW K B m H (Ite K a) (enumD 0 xs) := fun B1 m1 S1 H1 t t1 i => by
  have hs := q _ _ _ t
  rw [enum_get]
  refine ⟨fun x hx => ?_, fun hn => ?_⟩
  · cases e : xs[i]? with
    | none => rw [e] at hx; cases hx
    | some d =>
      rw [e] at hx
      cases hx
      obtain ⟨v, hv, rv⟩ := r.get e
      refine ⟨⟨vs, v, hs, hv⟩, fun u H2 hy => ?_⟩
      obtain ⟨T, z, rfl, hT, rfl, hz⟩ := hy
      have e2 := hz vs hs
      rw [hv] at e2
      cases e2
      obtain ⟨k1, k2, k3⟩ := new_pair t1 hT (RelD.int (i : Nat)) (rv.tr t)
      rw [Nat.zero_add]
      exact ⟨k1, k2, k3⟩
  · cases e : xs[i]? with
    | some d => rw [e] at hn; cases hn
    | none => exact ⟨vs, hs, by rw [← r.len]; exact List.getElem?_eq_none_iff.mp e⟩
theorem jw_enumT {a : Addr} {vs : List V} {xs : List D} (q : QT K m H a vs) (r : RelDs K B m H xs vs) : JW K B m H (IteT K a) (enumD 0 xs) := fun B1 m1 S1 H1 t t1 i => by
  have hs := t.sqt q
  rw [enum_get]
  refine ⟨fun x hx => ?_, fun hn => ?_⟩
  · cases e : xs[i]? with
    | none => rw [e] at hx; cases hx
    | some d =>
      rw [e] at hx
      cases hx
      obtain ⟨v, hv, rv⟩ := r.get e
      refine ⟨⟨vs, v, hs, hv⟩, fun u H2 hy => ?_⟩
      obtain ⟨T, z, rfl, hT, rfl, hz⟩ := hy
      have e2 := hz vs hs
      rw [hv] at e2
      cases e2
      obtain ⟨k1, k2, k3⟩ := new_pair t1 hT (RelD.int (i : Nat)) (rv.tr t)
      rw [Nat.zero_add]
      exact ⟨k1, k2, k3⟩
  · cases e : xs[i]? with
    | some d => rw [e] at hn; cases hn
    | none => exact ⟨vs, hs, by rw [← r.len]; exact List.getElem?_eq_none_iff.mp e⟩
theorem jw_zip {a b : Addr} {vs ws : List V} {xs ys : List D} (q : ∀ B1 m1 H1, Tr K B m B1 m1 H H1 → SqL K H1 a vs) (r : RelDs K B m H xs vs) (q2 : ∀ B1 m1 H1, Tr K B m B1 m1 H H1 → SqL K H1 b ws) (r2 : RelDs K B m H ys ws) : JW K B m H (Itz K a b) (zipD xs ys) := fun B1 m1 S1 H1 t t1 i => by
  have hs := q _ _ _ t
  have hs2 := q2 _ _ _ t
  rw [zip_get]
  refine ⟨fun x hx => ?_, fun hn => ?_⟩
  · cases e : xs[i]? with
    | none => rw [e] at hx; cases hx
    | some d =>
      cases e2 : ys[i]? with
      | none => rw [e, e2] at hx; cases hx
      | some d2 =>
        rw [e, e2] at hx
        cases hx
        obtain ⟨v, hv, rv⟩ := r.get e
        obtain ⟨v2, hv2, rv2⟩ := r2.get e2
        refine ⟨⟨vs, ws, v, v2, hs, hs2, hv, hv2⟩, fun u H2 hy => ?_⟩
        obtain ⟨T, z, z2, rfl, hT, rfl, hz, hz2⟩ := hy
        have e3 := hz vs hs
        have e4 := hz2 ws hs2
        rw [hv] at e3
        rw [hv2] at e4
        cases e3; cases e4
        exact new_pair t1 hT (rv.tr t) (rv2.tr t)
  · refine ⟨vs, ws, hs, hs2, ?_⟩
    rw [← r.len, ← r2.len]
    cases e : xs[i]? with
    | none => exact .inl (List.getElem?_eq_none_iff.mp e)
    | some d =>
      cases e2 : ys[i]? with
      | none => exact .inr (List.getElem?_eq_none_iff.mp e2)
      | some d2 => rw [e, e2] at hn; cases hn
theorem jw_zipT {a b : Addr} {vs ws : List V} {xs ys : List D} (q : QT K m H a vs) (r : RelDs K B m H xs vs) (q2 : QT K m H b ws) (r2 : RelDs K B m H ys ws) : JW K B m H (ItzT K a b) (zipD xs ys) := fun B1 m1 S1 H1 t t1 i => by
  have hs := t.sqt q
  have hs2 := t.sqt q2
  rw [zip_get]
  refine ⟨fun x hx => ?_, fun hn => ?_⟩
  · cases e : xs[i]? with
    | none => rw [e] at hx; cases hx
    | some d =>
      cases e2 : ys[i]? with
      | none => rw [e, e2] at hx; cases hx
      | some d2 =>
        rw [e, e2] at hx
        cases hx
        obtain ⟨v, hv, rv⟩ := r.get e
        obtain ⟨v2, hv2, rv2⟩ := r2.get e2
        refine ⟨⟨vs, ws, v, v2, hs, hs2, hv, hv2⟩, fun u H2 hy => ?_⟩
        obtain ⟨T, z, z2, rfl, hT, rfl, hz, hz2⟩ := hy
        have e3 := hz vs hs
        have e4 := hz2 ws hs2
        rw [hv] at e3
        rw [hv2] at e4
        cases e3; cases e4
        exact new_pair t1 hT (rv.tr t) (rv2.tr t)
  · refine ⟨vs, ws, hs, hs2, ?_⟩
    rw [← r.len, ← r2.len]
    cases e : xs[i]? with
    | none => exact .inl (List.getElem?_eq_none_iff.mp e)
    | some d =>
      cases e2 : ys[i]? with
      | none => exact .inr (List.getElem?_eq_none_iff.mp e2)
      | some d2 => rw [e, e2] at hn; cases hn
theorem rngK_get (lo : Int) (k n i : Nat) : (rngK lo k n)[i]? = if i < n then some (.int (lo + (i : Int) * k)) else none := by
  unfold rngK
  by_cases h : i < n
  · rw [if_pos h, List.getElem?_map, List.getElem?_range h] <;> rfl
  · rw [if_neg h, List.getElem?_map, List.getElem?_eq_none (by simpa using h)] <;> rfl
theorem jw_rngK (lo : Int) (k n : Nat) : JW K B m H (Itc lo (k : Int) n) (rngK lo k n) := fun B1 m1 S1 H1 t t1 i => by
  rw [rngK_get]
  by_cases h : i < n
  · rw [if_pos h]
    refine ⟨fun x hx => ?_, fun e => nomatch e⟩
    cases hx
    refine ⟨h, fun v H2 hy => ?_⟩
    obtain ⟨rfl, rfl⟩ := hy
    exact ⟨Le.refl, t1, .int _⟩
  · rw [if_neg h]
    exact ⟨fun x hx => (nomatch hx), fun _ => Nat.le_of_not_lt h⟩
end
theorem rgc_of {i j : Int} {k : Nat} (h : -big62 ≤ i ∧ i < big62 ∧ -big62 ≤ j ∧ j < big62 ∧ 0 < k ∧ k < 1000000) : RgC i j (k : Int) (rngN i j k) := by
  have hk : (k : Int) > 0 := by omega
  have e : Builtin.Range.rangeSize i j (k : Int) = (rngN i j k : Int) := by
    unfold Builtin.Range.rangeSize rngN
    rw [if_pos hk]
    by_cases c : i < j
    · rw [if_pos c, if_pos c]
      have : 0 ≤ (j - i - 1) / (k : Int) := Int.ediv_nonneg (by omega) (by omega)
      omega
    · rw [if_neg c, if_neg c]; rfl
  have b : (rngN i j k : Int) ≤ 2 ^ 63 - 1 := by
    rw [← e]
    unfold Builtin.Range.rangeSize
    rw [if_pos hk]
    split
    · have : (j - i - 1) / (k : Int) ≤ j - i - 1 := Int.ediv_le_self _ (by omega)
      simp only [big62] at h
      omega
    · omega
  refine ⟨by omega, by omega, ?_, e⟩
  unfold Builtin.Range.small
  rw [e]
  simp only [big62] at h
  simp only [Builtin.Range.rangeFitsLong, Bool.and_eq_true, Bool.or_eq_true, decide_eq_true_eq, beq_iff_eq, hk, if_true]
  omega
section
variable {X : Cx} {Z : Xt} {C : Cf} {W : WX} {a b c e : Expr} {ia ib : IE} {p pos tpos : Pos} {tg : Expr}
theorem i_rng3 {k j : Nat} {p3 : Pos} (hg : Gl X "range") (hm : X.mg "range" = none) (hs : notStar a = true) (hs2 : notStar b = true) (ha : PE X a (Te X.K Z C W ia)) (hb : PE X b (Te X.K Z C W ib)) : PI X tg (.Call (.Name "range" p) [a, b, .Constant (.int (k : Int)) j p3] [] pos) (Ti X.K Z C W (.rng3 ia ib k)) :=
  (pi_range3 hg hm (pa_cons ha (pa_cons hb (pa_cons (pe_int (i := (k : Int))) pa_nil) (star_cons hs2)) (star_cons hs)) (by rw [star_cons hs]) (by rw [star_cons hs2]; rfl)).imp' fun σ H R ⟨B, m, S, δ, t, e, h⟩ => by
    refine (Mid.start t e).stepE h fun v d S1 m1 H1 l1 M1 r1 _ h1 => ?_
    refine M1.stepE h1 fun u d2 S2 m2 H2 l2 M2 r2 _ h2 => ?_
    cases d with
    | int i =>
      cases d2 with
      | int j =>
        have h2 : FinG X.K Z B m H (fun c d h => W c d σ h) ((if -big62 ≤ i ∧ i < big62 ∧ -big62 ≤ j ∧ j < big62 ∧ 0 < k ∧ k < 1000000 then M.ret (.xs (rngK i k (rngN i j k))) else M.bad : M Src) S2) (PSrc X.K B R) := h2
        by_cases hz : -big62 ≤ i ∧ i < big62 ∧ -big62 ≤ j ∧ j < big62 ∧ 0 < k ∧ k < 1000000
        · rw [if_pos hz] at h2
          exact ⟨i, j, k, _, by rw [r1.int_of, r2.int_of], rgc_of hz, (FinG.ret (M2.here h2)).now M2.t0 _ (jw_rngK i k _)⟩
        · rw [if_neg hz] at h2; exact False.elim h2
      | _ => exact False.elim h2
    | _ => exact False.elim h2
theorem i_enum {elts : List Expr} {kk : Nat} (hg : Gl X "enumerate") (hm : X.mg "enumerate" = none) (hs : notStar a = true) (ha : PE X a (Te X.K Z C W ia)) : PI X (.Tuple elts kk tpos) (.Call (.Name "enumerate" p) [a] [] pos) (Ti X.K Z C W (.enum ia)) :=
  (pi_enum2 hg hm (pa_cons ha pa_nil (star_cons hs)) (star_cons hs)).imp' fun σ H R ⟨B, m, S, δ, t, e, h⟩ => by
    refine (Mid.start t e).stepE h fun v d S1 m1 H1 l1 M1 r1 _ h1 => ?_
    cases q : enumV d with
    | none =>
      have h1 : FinG X.K Z B m H (fun c d h => W c d σ h) ((match enumV d with
        | some xs => M.ret (.xs (enumD 0 xs))
        | none => M.bad : M Src) S1) (PSrc X.K B R) := h1
      rw [q] at h1; exact False.elim h1
    | some xs =>
      have h1 : FinG X.K Z B m H (fun c d h => W c d σ h) ((match enumV d with
        | some xs => M.ret (.xs (enumD 0 xs))
        | none => M.bad : M Src) S1) (PSrc X.K B R) := h1
      rw [q] at h1
      unfold enumV at q
      split at q
      · cases q
        cases r1 with
        | tup q rs => exact ⟨_, _, rfl, .inr ⟨q.sq, (FinG.ret (M1.here h1)).now M1.t0 _ (jw_enumT q rs)⟩⟩
      · obtain ⟨l, vs, rfl, rs, hq, hk⟩ := r1.val_of q
        exact ⟨l, vs, rfl, .inl ⟨hq, (FinG.ret (M1.here h1)).now M1.t0 _ (jw_enum hk rs)⟩⟩
theorem i_zip {elts : List Expr} {kk : Nat} (hg : Gl X "zip") (hm : X.mg "zip" = none) (hs : notStar a = true) (hs2 : notStar b = true) (ha : PE X a (Te X.K Z C W ia)) (hb : PE X b (Te X.K Z C W ib)) : PI X (.Tuple elts kk tpos) (.Call (.Name "zip" p) [a, b] [] pos) (Ti X.K Z C W (.zip ia ib)) :=
  (pi_zipA hg hm (pa_cons ha (pa_cons hb pa_nil (star_cons hs2)) (star_cons hs)) (star_cons hs) (by rw [star_cons hs2]; rfl)).imp' fun σ H R ⟨B, m, S, δ, t, e, h⟩ => by
    refine (Mid.start t e).stepE h fun v d S1 m1 H1 l1 M1 r1 _ h1 => ?_
    refine M1.stepE h1 fun u d2 S2 m2 H2 l2 M2 r2 _ h2 => ?_
    obtain ⟨sr, e2, h2⟩ := FinG.opt (show FinG X.K Z B m H (fun c d h => W c d σ h) (M.opt (zipS d d2) S2) (PSrc X.K B R) from h2)
    unfold zipS at e2
    split at e2
    · rename_i xs ys
      cases e2
      have r1' := M1.val l2 r1
      cases r1' with
      | tup q rs =>
        cases r2 with
        | tup q2 rs2 =>
          exact ⟨_, _, _, _, rfl, .inr ⟨q.sq, q2.sq, (M2.here h2).now M2.t0 _ (jw_zipT q rs q2 rs2)⟩⟩
    · split at e2
      · rename_i xs ys e1 e3
        cases e2
        have r1' := M1.val l2 r1
        obtain ⟨l, vs, rfl, rs, hq, hk⟩ := r1'.val_of e1
        obtain ⟨l2, vs2, rfl, rs2, hq2, hk2⟩ := r2.val_of e3
        exact ⟨_, _, _, _, rfl, .inl ⟨hq, hq2, (M2.here h2).now M2.t0 _ (jw_zip hk rs hk2 rs2)⟩⟩
      · cases e2
end
end Fb
set_option Elab.async false
set_option linter.all false
set_option maxRecDepth 100000
set_option maxHeartbeats 4000000
/-! Fb10: list comprehensions. -/
namespace Fb
open PySem PySem.Spec PyProof.Rows L2
section
variable {K : Fg} {B m m1 m' : List Addr} {S S1 : Store} {H H1 H2 H' : Hp} {D : Addr}
/-- a new object that is hidden from then on -/
theorem hide_tr (t : At K B m S H) (l : Le m m' H H') (hD : H D = none) (vs : List V) (hH : H' D = some (.lst vs)) : Tr K B m (D :: B) m' H H' := by
  have x := l.tr t
  refine ⟨x.tup, fun a u h hb hm => ?_, x.cell⟩
  obtain ⟨h1, h2, h3⟩ := x.obj a u h hb hm
  refine ⟨h1, fun z => ?_, h3⟩
  rcases List.mem_cons.mp z with e | z
  · rw [e, hD] at h; cases h
  · exact h2 z
theorem hide_at (t : At K B m S H) (hD : H D = none) (vs : List V) : At K (D :: B) m S (upd H D (.lst vs)) := by
  have t1 := t.new (o := .lst vs) hD
  have f := t.fresh hD
  have tr := hide_tr t (Le.new t (o := .lst vs) hD) hD vs upd_same
  refine ⟨t.len, ?_, fun a ha => ?_, fun i c a hc ha => ?_⟩
  · rw [List.cons_append]
    exact List.nodup_cons.mpr ⟨fun z => (List.mem_append.mp z).elim f.1 f.2, t.nd⟩
  · rcases List.mem_cons.mp ha with e | ha
    · rw [e, upd_same]; exact fun z => by cases z
    · exact t1.live a ha
  · have q := t.cells i c a hc ha
    cases c with
    | lst ds =>
      obtain ⟨us, e, r⟩ := q
      exact ⟨us, by rw [upd_ne (ne_of_none e hD)]; exact e, r.tr tr⟩
/-- the hidden object is written -/
theorem hid_tr {us : List V} (hH : H D = some (.lst us)) (vs : List V) : Tr K (D :: B) m (D :: B) m H (upd H D (.lst vs)) := by
  refine ⟨fun a w h hm => ⟨?_, hm⟩, fun a u h hb hm => ⟨?_, hb, hm⟩, fun _ _ h => h⟩
  · have ne : a ≠ D := fun e => by
      rw [e] at h
      rcases h with h | ⟨o, h⟩ <;> rw [hH] at h <;> cases h
    rcases h with h | ⟨o, h⟩
    · exact .inl (by rw [upd_ne ne]; exact h)
    · exact .inr ⟨o, by rw [upd_ne ne]; exact h⟩
  · rw [upd_ne (fun e => hb (by rw [e]; exact List.mem_cons_self))]
    exact h
theorem At.via (t : At K B m S H) {B2 : List Addr} {H2 : Hp} (tr : Tr K B m B2 m H H2) (nd : (B2 ++ m).Nodup) (lv : ∀ a ∈ B2, H2 a ≠ none) (ce : ∀ a ∈ m, H2 a = H a) : At K B2 m S H2 :=
  ⟨t.len, nd, lv, fun i c a hc ha => by
    have q := t.cells i c a hc ha
    cases c with
    | lst ds =>
      obtain ⟨us, e, r⟩ := q
      exact ⟨us, by rw [ce a (List.mem_of_getElem? ha)]; exact e, r.tr tr⟩⟩
theorem hid_put {us : List V} (t : At K (D :: B) m S H) (hH : H D = some (.lst us)) (vs : List V) : At K (D :: B) m S (upd H D (.lst vs)) := by
  refine t.via (hid_tr hH vs) t.nd (fun a ha => ?_) fun a ha => ?_
  · by_cases e : a = D
    · rw [e, upd_same]; exact fun z => by cases z
    · rw [upd_ne e]; exact t.live a ha
  · rw [upd_ne (fun e => t.apart (show D ∈ D :: B from List.mem_cons_self) (by rw [← e]; exact ha))]
def delH (H : Hp) (a : Addr) : Hp := fun b => if b = a then none else H b
theorem delH_ne {a b : Addr} (h : b ≠ a) : delH H a b = H b := if_neg h
theorem delH_same {a : Addr} : delH H a a = none := if_pos rfl
theorem show_tr : Tr K (D :: B) m B m H H := ⟨fun _ _ h hm => ⟨h, hm⟩, fun _ _ h hb hm => ⟨h, fun z => hb (List.mem_cons_of_mem _ z), hm⟩, fun _ _ h => h⟩
theorem del_tr {us : List V} (hH : H D = some (.lst us)) : Tr K (D :: B) m B m H (delH H D) := by
  refine ⟨fun a w h hm => ⟨?_, hm⟩, fun a u h hb hm => ⟨?_, fun z => hb (List.mem_cons_of_mem _ z), hm⟩, fun _ _ h => h⟩
  · have ne : a ≠ D := fun e => by
      rw [e] at h
      rcases h with h | ⟨o, h⟩ <;> rw [hH] at h <;> cases h
    rcases h with h | ⟨o, h⟩
    · exact .inl (by rw [delH_ne ne]; exact h)
    · exact .inr ⟨o, by rw [delH_ne ne]; exact h⟩
  · rw [delH_ne (fun e => hb (by rw [e]; exact List.mem_cons_self))]
    exact h
theorem At.shown (t : At K (D :: B) m S H) : At K B m S H :=
  t.via show_tr (List.nodup_cons.mp (by rw [← List.cons_append]; exact t.nd)).2 (fun a ha => t.live a (List.mem_cons_of_mem _ ha)) fun _ _ => rfl
theorem At.del {us : List V} (t : At K (D :: B) m S H) (hH : H D = some (.lst us)) : At K B m S (delH H D) := by
  have nd := List.nodup_cons.mp (show (D :: (B ++ m)).Nodup by rw [← List.cons_append]; exact t.nd)
  refine t.via (del_tr hH) nd.2 (fun a ha => ?_) fun a ha => ?_
  · rw [delH_ne (fun e => nd.1 (List.mem_append_left _ (by rw [← e]; exact ha)))]
    exact t.live a (List.mem_cons_of_mem _ ha)
  · exact delH_ne fun e => nd.1 (List.mem_append_right _ (by rw [← e]; exact ha))
/-- the made list, at the end -/
theorem fin_comp {Z : Xt} {V' : XK} {mo : List Addr} {So : Store} {Ho : Hp} {Q : VK} {ds : List Fb.D} {vs : List V} (to : At K B mo So Ho) (lo : Le mo m Ho H) (t : At K (D :: B) m S H) (hD : Ho D = none) (hH : H D = some (.lst vs)) (r : RelDs K (D :: B) m H ds vs)
    (h : FinG K Z B mo Ho V' (.ok (.lst ds) S) (PD K B Ho true Q)) : Q (.ref D) H := by
  have nd := List.nodup_cons.mp (show (D :: (B ++ m)).Nodup by rw [← List.cons_append]; exact t.nd)
  refine h m H lo (t.shown) _ (.lst ⟨hH, fun z => nd.1 (List.mem_append_left _ z), fun z => nd.1 (List.mem_append_right _ z)⟩ (r.tr show_tr)) fun _ => ⟨fun xs e => ?_⟩
  cases e
  refine ⟨D, vs, delH H D, rfl, hD, delH_same, ?_, t.del hH, r.tr (del_tr hH)⟩
  funext b
  by_cases hb : b = D
  · rw [hb, upd_same]; exact hH
  · rw [upd_ne hb, delH_ne hb]
theorem wipe_wipe {vs : List Nat} : ∀ (ps : List Nat) (τ : L2.St), (∀ i ∈ ps, i ∈ vs) → wipe (wipe τ ps) vs = wipe τ vs
  | [], _, _ => rfl
  | p :: ps, τ, h => by
    have one : ∀ (ws : List Nat) (ρ : L2.St), p ∈ ws → wipe (ρ.set p none) ws = wipe ρ ws := by
      intro ws
      induction ws with
      | nil => intro ρ hn; cases hn
      | cons k ws ih =>
        intro ρ hn
        show (wipe (ρ.set p none) ws).set k none = (wipe ρ ws).set k none
        by_cases hm : p ∈ ws
        · rw [ih ρ hm]
        · have e : p = k := (List.mem_cons.mp hn).resolve_right hm
          subst e
          have comm : ∀ (us : List Nat) (ξ : L2.St), p ∉ us → wipe (ξ.set p none) us = (wipe ξ us).set p none := by
            intro us
            induction us with
            | nil => intro ξ _; rfl
            | cons j us ih2 =>
              intro ξ hn2
              show (wipe (ξ.set p none) us).set j none = ((wipe ξ us).set j none).set p none
              rw [ih2 ξ (fun z => hn2 (List.mem_cons_of_mem _ z)), List.set_comm _ _ (fun z => hn2 (by rw [z]; exact List.mem_cons_self))]
          rw [comm ws ρ hm, List.set_set]
    show wipe ((wipe τ ps).set p none) vs = wipe τ vs
    rw [one vs _ (h p List.mem_cons_self), wipe_wipe ps τ fun i hi => h i (List.mem_cons_of_mem _ hi)]
theorem wipe_up {ps vs : List Nat} {τ τ' : L2.St} (h : wipe τ ps = wipe τ' ps) (hs : ∀ i ∈ ps, i ∈ vs) : wipe τ vs = wipe τ' vs := by
  rw [← wipe_wipe ps τ hs, h, wipe_wipe ps τ' hs]
end
def patS : Pat → List Nat
  | .nm i => [i]
  | .tp is => is
def Tc (K : Fg) (Z : Xt) (C : Cf) (W : WX) (e : IE) : TT := fun σ H Q => ∃ B m S δ, At K B m S H ∧ RelE K B m H δ σ ∧ FinG K Z B m H (fun c d h => W c d σ h) (evC C e δ S) (PB Q)
abbrev Wf : WX := fun _ _ _ _ => False
/-- an item's element, as the evaluator has it -/
def elF (C : Cf) (own : List Nat) (p : Pat) (c e : IE) (δ : Ev) (x : D) : M (Option D) := M.nox fun S => match patE p x S (wipeE δ own) with
  | none => .bad
  | some σ' => M.bind (evC C c σ') (fun t => if t then M.bind (evE C e σ') fun y => M.ret (some y) else M.ret none) S
theorem elF_cases {C : Cf} {own : List Nat} {p : Pat} {c e : IE} {δ : Ev} {x : D} {S : Store} {r : Res (Option D)} (h : elF C own p c e δ x S = r) : r = .bad ∨ ∃ δ' t S3, patE p x S (wipeE δ own) = some δ' ∧ evC C c δ' S = .ok t S3 ∧
    ((t = false ∧ r = .ok none S3) ∨ ∃ y S4, t = true ∧ evE C e δ' S3 = .ok y S4 ∧ r = .ok (some y) S4) := by
  subst h
  unfold elF M.nox
  cases q : patE p x S (wipeE δ own) with
  | none => exact .inl (by simp only [q])
  | some δ' =>
    simp only [q]
    unfold M.bind
    cases q2 : evC C c δ' S with
    | bad => exact .inl (by simp only)
    | exc _ _ _ => exact .inl (by simp only)
    | ok t S3 =>
      simp only
      cases t with
      | false => exact .inr ⟨δ', false, S3, rfl, q2, .inl ⟨rfl, rfl⟩⟩
      | true =>
        simp only [if_true]
        cases q3 : evE C e δ' S3 with
        | bad => exact .inl (by simp only)
        | exc _ _ _ => exact .inl (by simp only)
        | ok y S4 => exact .inr ⟨δ', true, S3, rfl, q2, .inr ⟨y, S4, rfl, q3, rfl⟩⟩
section
variable {X : Cx} {Z : Xt} {C : Cf} {W : WX}
/-- where the loop stands: D the list so far, F what is left of the run -/
structure Lc (K : Fg) (Z : Xt) (B mo : List Addr) (Ho : Hp) (V' : XK) (Q : VK) (m1 : List Addr) (H1 : Hp) (D : Addr) (δ : Ev) (σ : L2.St) (run : Nat → M (List Fb.D)) (H : Hp) : Prop where
  st : ∃ m S acc accD, H D = some (.lst acc) ∧ At K (D :: B) m S H ∧ RelDs K (D :: B) m H accD acc ∧ RelE K (D :: B) m H δ σ ∧ Le m1 m H1 H ∧
    FinG K Z B mo Ho V' (M.bind (run accD.length) (fun ys => M.ret (.lst (accD ++ ys))) S) (PD K B Ho true Q)
/-- one turn: what the evaluator does with an item, the layer does -/
theorem lc_turn {B mo m1 m : List Addr} {So S1 S : Store} {Ho H1 : Hp} {acc : List V} {accD : List Fb.D} {V' : XK} {Q : VK} {D : Addr} {δ : Ev} {σ : L2.St} {own : List Nat} {p : Pat} {c e : IE} {x : Fb.D} {run run' : Nat → M (List Fb.D)} {H : Hp} {v : V} {H2 : Hp}
    (to : At X.K B mo So Ho) (t1 : At X.K B m1 S1 H1) (hD1 : H1 D = none) (hp : ∀ i ∈ patS p, i ∈ own)
    (hD : H D = some (.lst acc)) (t : At X.K (D :: B) m S H) (ra : RelDs X.K (D :: B) m H accD acc) (re : RelE X.K (D :: B) m H δ σ) (l : Le m1 m H1 H) (h : FinG X.K Z B mo Ho V' (M.bind (run accD.length) (fun ys => M.ret (.lst (accD ++ ys))) S) (PD X.K B Ho true Q)) (hrun : ∀ k, run k = M.bind (elF C own p c e δ x) fun o => match o with
      | none => run' k
      | some y => if k < SL then M.bind (run' (k + 1)) fun ys => M.ret (y :: ys) else M.bad)
    (hy : Le m m H H2 ∧ At X.K (D :: B) m S H2 ∧ RelD X.K (D :: B) m H2 x v) :
    Tg X.K p v (wipe σ own) H2 fun σ2 H2 => wipe σ2 own = wipe σ own ∧ Tc X.K Z C Wf c σ2 H2 fun b H3 => if b = true then Te X.K Z C Wf e σ2 H3 fun y H4 => ∃ acc, H4 D = some (.lst acc) ∧ acc.length < sizeLine ∧ Lc X.K Z B mo Ho V' Q m1 H1 D δ σ run' (upd H4 D (.lst (acc ++ [y])))
      else Lc X.K Z B mo Ho V' Q m1 H1 D δ σ run' H3 := by
  obtain ⟨l2, t2, rx⟩ := hy
  have nD : ∀ {m' : List Addr} {S' : Store} {H' : Hp}, At X.K (D :: B) m' S' H' → D ∉ m' := fun {m' S' H'} a => a.apart List.mem_cons_self
  rw [hrun] at h
  cases q : elF C own p c e δ x S with
  | bad => unfold M.bind at h; rw [q] at h; exact False.elim h
  | exc cc as S9 =>
    rcases elF_cases q with z | ⟨_, _, _, _, _, ⟨_, z⟩ | ⟨_, _, _, _, z⟩⟩ <;> cases z
  | ok o S9 =>
    rw [bind_bind] at h
    unfold M.bind at h
    rw [q] at h
    rcases elF_cases q with z | ⟨δ', tt, S3, e1, e2, z⟩
    · cases z
    have re2 : RelE X.K (D :: B) m H2 (wipeE δ own) (wipe σ own) := (re.tr (l2.tr t)).wipe own
    refine ⟨D :: B, m, S, wipeE δ own, x, δ', t2, re2, rx, e1, fun σ' re3 hw => ?_⟩
    refine ⟨?_, D :: B, m, S, δ', t2, re3, ?_⟩
    · have hw2 : wipe σ' (patS p) = wipe (wipe σ own) (patS p) := by cases p <;> exact hw
      rw [wipe_up hw2 hp, wipe_wipe own σ fun i hi => hi]
    rw [e2]
    intro m3 H3 l3 t3
    have hD3 : H3 D = some (.lst acc) := l3.keep D _ (l2.keep D _ hD (nD t)) (nD t2)
    have le3 : Le m m3 H H3 := Le.trans t t2 l2 l3
    have lo3 : Le m1 m3 H1 H3 := Le.trans t1 (At.shown t) l le3
    rcases z with ⟨rfl, z⟩ | ⟨y, S4, rfl, e3, z⟩
    · cases z
      dsimp only [PB]
      rw [if_neg Bool.false_ne_true]
      exact ⟨m3, S9, acc, accD, hD3, t3, ra.tr (le3.tr t), re.tr (le3.tr t), lo3, h⟩
    · cases z
      dsimp only [PB]
      rw [if_pos rfl]
      refine ⟨D :: B, m3, S3, δ', t3, re3.tr (l3.tr t2), ?_⟩
      rw [e3]
      intro m4 H4 l4 t4 v4 r4 _
      have hD4 : H4 D = some (.lst acc) := l4.keep D _ hD3 (nD t3)
      have le4 : Le m m4 H H4 := Le.trans t t3 le3 l4
      have lo4 : Le m1 m4 H1 H4 := Le.trans t1 (At.shown t) l le4
      have h : FinG X.K Z B mo Ho V' ((M.bind (if accD.length < SL then M.bind (run' (accD.length + 1)) fun ys => M.ret (y :: ys) else M.bad) fun ys => M.ret (.lst (accD ++ ys))) S9) (PD X.K B Ho true Q) := h
      by_cases hk : accD.length < SL
      · rw [if_pos hk, bind_bind] at h
        have ra4 := ra.tr (le4.tr t)
        have tr := hid_tr (K := X.K) (B := B) (m := m4) hD4 (acc ++ [v4])
        refine ⟨acc, hD4, by rw [← ra.len, ← SL_eq]; exact hk, m4, S9, acc ++ [v4], accD ++ [y], upd_same, hid_put t4 hD4 _, (ra4.app (.cons r4 .nil)).tr tr, (re.tr (le4.tr t)).tr tr, ?_, ?_⟩
        · obtain ⟨rr, er, hr⟩ := lo4.pre
          exact ⟨⟨rr, er, hr⟩, fun a o ha hm => by rw [upd_ne (ne_of_none ha hD1)]; exact lo4.keep a o ha hm⟩
        · rw [List.length_append]
          have e5 : (fun ys : List Fb.D => (M.ret (Fb.D.lst (accD ++ [y] ++ ys)) : M Fb.D)) = fun a => M.bind (M.ret (y :: a)) fun ys => M.ret (Fb.D.lst (accD ++ ys)) := by
            funext ys
            show _ = M.ret (Fb.D.lst (accD ++ (y :: ys)))
            rw [List.append_assoc]
            rfl
          rw [e5]
          exact h
      · rw [if_neg hk] at h; exact False.elim h
theorem compM_cons (f : Fb.D → M (Option Fb.D)) (x : Fb.D) (r : List Fb.D) (k : Nat) : compM f (x :: r) k = M.bind (f x) fun o => match o with
    | none => compM f r k
    | some y => if k < SL then M.bind (compM f r (k + 1)) fun ys => M.ret (y :: ys) else M.bad := rfl
theorem comp_step {vs : List Nat} {p : Pat} {it c e : IE} {σ : L2.St} {H : Hp} {Q : VK} (hp : ∀ i ∈ patS p, i ∈ vs) (h : Te X.K Z C W (.comp vs p it c e) σ H Q) : tLc (Ti X.K Z C W it) (Tg X.K p) (Tc X.K Z C Wf c) (Te X.K Z C Wf e) vs σ H Q := by
  obtain ⟨B, m, S, δ, t, ee, h⟩ := h
  have h : FinG X.K Z B m H (fun c d h => W c d σ h) (M.bind (evI C it δ) (fun s => M.bind (compS (elF C (vs) p c e δ) C.fuel s) fun ys => M.ret (.lst ys)) S) (PD X.K B H true Q) := h
  refine ⟨B, m, S, δ, t, ee, (Mid.start t ee).part h fun s S1 m1 H1 l1 t1 h1 => ?_⟩
  have M1 := (Mid.start t ee).go l1 t1
  have start : ∀ (run : Nat → M (List Fb.D)) (D : Addr), H1 D = none → FinG X.K Z B m H (fun c d h => W c d σ h) (M.bind (run 0) (fun ys => M.ret (.lst ys)) S1) (PD X.K B H true Q) →
      Lc X.K Z B m H (fun c d h => W c d σ h) Q m1 H1 D δ σ run (upd H1 D (.lst [])) := fun run D hD hr =>
    ⟨m1, S1, [], [], upd_same, hide_at t1 hD [], .nil, M1.e.tr (hide_tr t1 (Le.new t1 hD) hD [] upd_same), Le.new t1 hD, hr⟩
  have fin : ∀ (D : Addr) (H' : Hp), H1 D = none → Lc X.K Z B m H (fun c d h => W c d σ h) Q m1 H1 D δ σ (fun _ => M.ret []) H' → Q (.ref D) H' := fun D H' hD L => by
    obtain ⟨m4, S4, acc, accD, hH, t4, ra, re, l4, hf⟩ := L.st
    have hf : FinG X.K Z B m H (fun c d h => W c d σ h) (.ok (.lst (accD ++ [])) S4) (PD X.K B H true Q) := hf
    rw [List.append_nil] at hf
    exact fin_comp t (Le.trans t t1 l1 l4) t4 (M1.none hD) hH ra hf
  cases s with
  | xs xs =>
    intro J hJ D hD
    have gone : ∀ {mm : List Addr} {HH : Hp} {vs : List V}, HH D = some (.lst vs) → Le m1 mm H1 HH → Tr X.K B m1 (D :: B) mm H1 HH := fun {mm HH vs} hh l => hide_tr t1 l hD vs hh
    refine ⟨fun i k HH => k = xs.length - i ∧ i ≤ xs.length ∧ Lc X.K Z B m H (fun c d h => W c d σ h) Q m1 H1 D δ σ (fun k => compM (elF C (vs) p c e δ) (xs.drop i) k) HH, ⟨xs.length, by simp, Nat.zero_le _, start _ D hD h1⟩, ?_⟩
    rintro i k HH ⟨rfl, hi2, L⟩
    obtain ⟨m4, S4, acc, accD, hH, t4, ra, re, l4, hf⟩ := id L.st
    have jw := hJ (D :: B) m4 S4 HH (gone hH l4) t4 i
    by_cases hlt : i < xs.length
    · have hx : xs[i]? = some xs[i] := List.getElem?_eq_getElem hlt
      obtain ⟨go, yl⟩ := jw.1 _ hx
      refine .inr ⟨go, fun H' => Lc X.K Z B m H (fun c d h => W c d σ h) Q m1 H1 D δ σ (fun k => compM (elF C (vs) p c e δ) (xs.drop (i + 1)) k) H', fun H' L' => ⟨xs.length - (i + 1), by omega, rfl, hlt, L'⟩, fun v H2 hyl => ?_⟩
      refine lc_turn (x := xs[i]) t t1 hD hp hH t4 ra re l4 hf (fun k => ?_) (yl v H2 hyl)
      rw [List.drop_eq_getElem_cons hlt]; rfl
    · refine .inl ⟨jw.2 (List.getElem?_eq_none (by omega)), fin D HH hD ?_⟩
      rw [show xs.drop i = [] from List.drop_eq_nil_of_le (by omega)] at L
      exact L
  | cl n =>
    intro a ha D hD
    refine ⟨fun i k HH => Lc X.K Z B m H (fun c d h => W c d σ h) Q m1 H1 D δ σ (fun kk => compN (elF C (vs) p c e δ) n k i kk) HH, ⟨C.fuel, start _ D hD h1⟩, ?_⟩
    rintro i k HH L
    obtain ⟨m4, S4, acc, accD, hH, t4, ra, re, l4, hf⟩ := id L.st
    obtain ⟨rr, er, _⟩ := l4.pre
    have ha4 : ∀ {mm : List Addr} {HH : Hp}, Le m1 mm H1 HH → mm[n]? = some a := fun {mm HH} l => (l.tr t1).cell n a ha
    cases k with
    | zero => exact False.elim hf
    | succ k =>
      have hf0 := hf
      unfold M.bind at hf
      rw [show compN (elF C (vs) p c e δ) n (k + 1) i accD.length S4 = (match lstOf S4 (.cell n) with
        | none => .bad
        | some xs => match xs[i]? with
          | none => .ok [] S4
          | some x => M.bind (elF C (vs) p c e δ x) (fun o => match o with
            | none => compN (elF C (vs) p c e δ) n k (i + 1) accD.length
            | some y => if accD.length < SL then M.bind (compN (elF C (vs) p c e δ) n k (i + 1) (accD.length + 1)) fun ys => M.ret (y :: ys) else M.bad) S4) from rfl] at hf
      cases q : lstOf S4 (.cell n) with
      | none => rw [q] at hf; exact False.elim hf
      | some ys =>
        rw [q] at hf
        have jc := jc_at t4 (ha4 l4) q i
        cases q2 : ys[i]? with
        | none =>
          simp only [q2] at hf
          have hf : FinG X.K Z B m H (fun c d h => W c d σ h) (.ok (.lst (accD ++ [])) S4) (PD X.K B H true Q) := hf
          exact .inl ⟨jc.2 q2, fin D HH hD ⟨m4, S4, acc, accD, hH, t4, ra, re, l4, hf⟩⟩
        | some x =>
          simp only [q2] at hf
          obtain ⟨go, yl⟩ := jc.1 x q2
          refine .inr ⟨go, fun H' => Lc X.K Z B m H (fun c d h => W c d σ h) Q m1 H1 D δ σ (fun kk => compN (elF C (vs) p c e δ) n k (i + 1) kk) H', fun H' L' => ⟨k, Nat.lt_succ_self k, L'⟩, fun v H2 hyl => ?_⟩
          refine lc_turn (x := x) (run := fun kk => M.bind (elF C (vs) p c e δ x) fun o => match o with
            | none => compN (elF C (vs) p c e δ) n k (i + 1) kk
            | some y => if kk < SL then M.bind (compN (elF C (vs) p c e δ) n k (i + 1) (kk + 1)) fun ys => M.ret (y :: ys) else M.bad) t t1 hD hp hH t4 ra re l4 hf (fun k => rfl) ?_
          obtain ⟨rfl, rv⟩ := yl v H2 hyl
          exact ⟨Le.refl, t4, rv⟩
theorem s_comp {elt tg iter : Expr} {ifs : List Expr} {scope : Scope} {own : List (Str × Nat)} {vs : List Nat} {p : Pat} {it c e : IE} {pos : Pos} (hc : X.calm = true) (hN : X.N.Nodup) (hi : PI X tg iter (Ti X.K Z C W it)) (ok : BlkOk X.N X.env.scope scope own)
    (hg : ∀ (s : Shared) (H : Hp) (Cc : Addr) (cl : List (Str × Addr)) (fp : List Addr), PG (X.blk s H scope (compEnvC scope cl Cc X.env) fp) tg (Tg X.K p))
    (ht : ∀ (s : Shared) (H : Hp) (Cc : Addr) (cl : List (Str × Addr)) (fp : List Addr), PTs (X.blk s H scope (compEnvC scope cl Cc X.env) fp) ifs (Tc X.K Z C Wf c))
    (he : ∀ (s : Shared) (H : Hp) (Cc : Addr) (cl : List (Str × Addr)) (fp : List Addr), PE (X.blk s H scope (compEnvC scope cl Cc X.env) fp) elt (Te X.K Z C Wf e))
    (hs : ∀ x, foldedSetIterable iter X.env x = pure x) (hp : ∀ i ∈ patS p, i ∈ vs) (hv : List.map (fun x => x.2) own = vs) :
    PE X (.ListComp elt [⟨tg, iter, ifs, 0⟩] scope pos) (Te X.K Z C W (.comp vs p it c e)) := by
  have h0 := pe_lc (pos := pos) hc hN hi ok hg ht he hs
  rw [hv] at h0
  exact h0.imp' fun σ H Q h => comp_step hp h
end
end Fb
set_option Elab.async false
set_option linter.all false
set_option maxRecDepth 100000
set_option maxHeartbeats 4000000
/-! Fb11: statements. -/
namespace Fb
open PySem PySem.Spec PyProof.Rows L2
abbrev NX : XK := fun _ _ _ => False
/-- what an ending asks -/
def PF (K : Fg) (Z : Xt) (B : List Addr) (W : WX) (E : Ends) (f : Fl) (S' : Store) (m' : List Addr) (H' : Hp) : Prop := match f with
  | .nx δ => ∀ σ, RelE K B m' H' δ σ → E.nx σ H'
  | .rt d => ∀ v, RelD K B m' H' d v → E.rt v H'
  | .bk δ => ∀ σ, RelE K B m' H' δ σ → E.bk σ H'
  | .ct δ => ∀ σ, RelE K B m' H' δ σ → E.ct σ H'
  | .xc c as δ => ∀ σ cls dd, RelE K B m' H' δ σ → ExRel K Z B m' H' c as cls dd → W cls dd σ H'
def Tk (K : Fg) (Z : Xt) (W : WX) (f : Ev → M Fl) : TS := fun E σ H => ∃ B m S δ, At K B m S H ∧ RelE K B m H δ σ ∧ FinG K Z B m H NX (f δ S) (PF K Z B W E)
abbrev Ss (K : Fg) (Z : Xt) (C : Cf) (W : WX) (st : IS) : TS := Tk K Z W (exS C st)
theorem _root_.L2.PS.imp' {X : Cx} {e : Stmt} {t t' : TS} (h : PS X e t) (i : ∀ E σ H, t' E σ H → t E σ H) : PS X e t' := ⟨fun pins s σ H E I q => h.run pins s σ H E I (i _ _ _ q)⟩
theorem _root_.L2.PSs.imp' {X : Cx} {e : List Stmt} {t t' : TS} (h : PSs X e t) (i : ∀ E σ H, t' E σ H → t E σ H) : PSs X e t' := ⟨fun pins s σ H E I q => h.run pins s σ H E I (i _ _ _ q)⟩
section
variable {K : Fg} {Z : Xt} {C : Cf} {W : WX} {B m m0 m1 : List Addr} {S S0 S1 : Store} {H H0 H1 : Hp} {δ : Ev} {σ : L2.St} {α β : Type} {P : β → Store → List Addr → Hp → Prop} {E : Ends}
/-- the answer of a first part, with where it stands -/
theorem FinG.part {V : XK} {f : M α} {g : α → M β} (t : At K B m S H) (h : FinG K Z B m H V (M.bind f g S) P) {R : α → Store → List Addr → Hp → Prop}
    (k : ∀ a S1 m1 H1, Le m m1 H H1 → At K B m1 S1 H1 → FinG K Z B m1 H1 V (g a S1) P → R a S1 m1 H1) : FinG K Z B m H V (f S) R := by
  unfold M.bind at h
  cases e : f S with
  | ok a S1 =>
    rw [e] at h
    exact fun m1 H1 l t1 => k a S1 m1 H1 l t1 (h.rebase t t1 l)
  | exc c as S1 => rw [e] at h; exact h
  | bad => rw [e] at h; exact h
/-- an expression's answer within a statement -/
theorem Mid.lift (J : Mid K B m m0 S S0 H H0 δ σ) {f : M α} {k : α → M Fl} (h : FinG K Z B m H NX (liftE f δ k S0) (PF K Z B W E)) {R : α → Store → List Addr → Hp → Prop}
    (kk : ∀ a S1 m1 H1, Le m0 m1 H0 H1 → At K B m1 S1 H1 → FinG K Z B m H NX (k a S1) (PF K Z B W E) → R a S1 m1 H1) : FinG K Z B m0 H0 (fun c d h => W c d σ h) (f S0) R := by
  unfold liftE at h
  cases e : f S0 with
  | ok a S1 =>
    rw [e] at h
    exact fun m1 H1 l t1 => kk a S1 m1 H1 l t1 h
  | exc c as S1 =>
    rw [e] at h
    exact fun cls dd m1 H1 l t1 x => h m1 H1 (Le.trans J.t J.t0 J.le l) t1 σ cls dd (J.e.tr (l.tr J.t0)) x
  | bad => rw [e] at h; exact h
theorem Mid.sE (J : Mid K B m m0 S S0 H H0 δ σ) {a : IE} {k : D → M Fl} (h : FinG K Z B m H NX (liftE (evE C a δ) δ k S0) (PF K Z B W E)) {R : VK}
    (kk : ∀ v d S1 m1 H1, Mid K B m m1 S S1 H H1 δ σ → RelD K B m1 H1 d v → Le m0 m1 H0 H1 → FinG K Z B m H NX (k d S1) (PF K Z B W E) → R v H1) : Te K Z C W a σ H0 R :=
  ⟨B, m0, S0, δ, J.t0, J.e, J.lift h fun d S1 m1 H1 l t1 h1 v r _ => kk v d S1 m1 H1 (J.go l t1) r l h1⟩
theorem Mid.sT (J : Mid K B m m0 S S0 H H0 δ σ) {a : IE} {k : Bool → M Fl} (h : FinG K Z B m H NX (liftE (evT C a δ) δ k S0) (PF K Z B W E)) {R : Bool → Hp → Prop}
    (kk : ∀ b S1 m1 H1, Mid K B m m1 S S1 H H1 δ σ → FinG K Z B m H NX (k b S1) (PF K Z B W E) → R b H1) : Tb K Z C W a σ H0 R :=
  ⟨B, m0, S0, δ, J.t0, J.e, J.lift h fun b S1 m1 H1 l t1 h1 => kk b S1 m1 H1 (J.go l t1) h1⟩
theorem Mid.sA (J : Mid K B m m0 S S0 H H0 δ σ) {a : IE} {k : List D → M Fl} (h : FinG K Z B m H NX (liftE (evA C a δ) δ k S0) (PF K Z B W E)) {R : List V → Hp → Prop}
    (kk : ∀ vs ds S1 m1 H1, Mid K B m m1 S S1 H H1 δ σ → RelDs K B m1 H1 ds vs → FinG K Z B m H NX (k ds S1) (PF K Z B W E) → R vs H1) : Ta K Z C W a σ H0 R :=
  ⟨B, m0, S0, δ, J.t0, J.e, J.lift h fun ds S1 m1 H1 l t1 h1 vs r => kk vs ds S1 m1 H1 (J.go l t1) r h1⟩
theorem Mid.tailS (J : Mid K B m m0 S S0 H H0 δ σ) {f : Ev → M Fl} (h : FinG K Z B m H NX (f δ S0) (PF K Z B W E)) : Tk K Z W f E σ H0 := ⟨B, m0, S0, δ, J.t0, J.e, J.here h⟩
/-- on to the next statement -/
theorem Mid.nx (J : Mid K B m m0 S S0 H H0 δ σ) {δ' : Ev} {σ' : L2.St} (h : FinG K Z B m H NX (M.ret (.nx δ') S0) (PF K Z B W E)) (r : RelE K B m0 H0 δ' σ') : E.nx σ' H0 := (FinG.ret (J.here h)).now J.t0 σ' r
theorem fin_ret (a : Fl) (t : At K B m S H) (h : FinG K Z B m H NX (M.ret a S) (PF K Z B W E)) : PF K Z B W E a S m H := h m H Le.refl t
/-- what is behind a loop's body -/
def loopK (go : Ev → M Fl) : Fl → M Fl
  | .nx σ' => go σ'
  | .ct σ' => go σ'
  | .bk σ' => M.ret (.nx σ')
  | .rt d => M.ret (.rt d)
  | .xc c as σ' => M.ret (.xc c as σ')
/-- a loop's body, then on -/
theorem body_part {f go : Ev → M Fl} {N : L2.St → Hp → Prop} (t : At K B m S H) (e : RelE K B m H δ σ) (h : FinG K Z B m H NX (M.bind (f δ) (loopK go) S) (PF K Z B W E))
    (hN : ∀ δ' σ' S1 m1 H1, Le m m1 H H1 → At K B m1 S1 H1 → RelE K B m1 H1 δ' σ' → FinG K Z B m1 H1 NX (go δ' S1) (PF K Z B W E) → N σ' H1) : Tk K Z W f { E with nx := N, ct := N, bk := E.nx } σ H := by
  refine ⟨B, m, S, δ, t, e, FinG.part t h fun o S1 m1 H1 l t1 h1 => ?_⟩
  cases o with
  | nx δ' => exact fun σ' r => hN δ' σ' S1 m1 H1 l t1 r h1
  | ct δ' => exact fun σ' r => hN δ' σ' S1 m1 H1 l t1 r h1
  | bk δ' => exact fin_ret (Z := Z) (W := W) (E := E) (.nx δ') t1 h1
  | rt d => exact fin_ret (Z := Z) (W := W) (E := E) (.rt d) t1 h1
  | xc c as δ' => exact fin_ret (Z := Z) (W := W) (E := E) (.xc c as δ') t1 h1
end
section
variable {X : Cx} {Z : Xt} {C : Cf} {W : WX} {a b c e : Expr} {es : List Expr} {ia ib ic ie ies : IE} {sa sb : IS} {st : Stmt} {rest : List Stmt} {pos : Pos}
theorem ss_nil : PSs X [] (Ss X.K Z C W .skip) := pss_nil.imp' fun E σ H ⟨B, m, S, δ, t, e, h⟩ => (Mid.start t e).nx h e
theorem ss_cons (h1 : PS X st (Ss X.K Z C W sa)) (h2 : PSs X rest (Ss X.K Z C W sb)) : PSs X (st :: rest) (Ss X.K Z C W (.seq sa sb)) :=
  (pss_cons h1 h2).imp' fun E σ H ⟨B, m, S, δ, t, e, h⟩ => by
    refine ⟨B, m, S, δ, t, e, FinG.part t (show FinG X.K Z B m H NX (M.bind (exS C sa δ) (fun o => match o with
      | .nx σ' => exS C sb σ'
      | o => M.ret o) S) (PF X.K Z B W E) from h) fun o S1 m1 H1 l t1 h1 => ?_⟩
    cases o with
    | nx δ' => exact fun σ' r => ⟨B, m1, S1, δ', t1, r, h1⟩
    | ct δ' => exact fin_ret (Z := Z) (W := W) (E := E) (.ct δ') t1 h1
    | bk δ' => exact fin_ret (Z := Z) (W := W) (E := E) (.bk δ') t1 h1
    | rt d => exact fin_ret (Z := Z) (W := W) (E := E) (.rt d) t1 h1
    | xc c as δ' => exact fin_ret (Z := Z) (W := W) (E := E) (.xc c as δ') t1 h1
theorem ss_pass : PS X (.Pass pos) (Ss X.K Z C W .skip) := ps_pass.imp' fun E σ H ⟨B, m, S, δ, t, e, h⟩ => (Mid.start t e).nx h e
theorem ss_brk : PS X (.Break pos) (Ss X.K Z C W .brk) := ps_break.imp' fun E σ H ⟨B, m, S, δ, t, e, h⟩ => fin_ret (Z := Z) (W := W) (E := E) (.bk δ) t h σ e
theorem ss_cnt : PS X (.Continue pos) (Ss X.K Z C W .cnt) := ps_continue.imp' fun E σ H ⟨B, m, S, δ, t, e, h⟩ => fin_ret (Z := Z) (W := W) (E := E) (.ct δ) t h σ e
theorem ss_retN : PS X (.Return none pos) (Ss X.K Z C W .retN) := ps_retN.imp' fun E σ H ⟨B, m, S, δ, t, e, h⟩ => fin_ret (Z := Z) (W := W) (E := E) (.rt .non) t h .non .non
theorem ss_ret (he : PE X e (Te X.K Z C W ie)) : PS X (.Return (some e) pos) (Ss X.K Z C W (.ret ie)) :=
  (ps_ret he).imp' fun E σ H ⟨B, m, S, δ, t, e, h⟩ => (Mid.start t e).sE h fun v d S1 m1 H1 M1 r l h1 => (FinG.ret (M1.here (show FinG X.K Z B m H NX (M.ret (.rt d) S1) (PF X.K Z B W E) from h1))).now M1.t0 v r
/-- not a comprehension -/
def notComp : Expr → Bool
  | .ListComp .. => false
  | .SetComp .. => false
  | .DictComp .. => false
  | _ => true
theorem sw_plain {tg : Option Expr} {l : Nat} {env : Env} (h : notComp e = true) : swapsWith e tg l env = pure false := by
  cases e <;> first | rfl | exact absurd h Bool.false_ne_true
/-- a target that is no name: nothing is exchanged -/
theorem sw_tup {ts : List Expr} {k l : Nat} {p : Pos} {env : Env} : swapsWith e (some (.Tuple ts k p)) l env = pure false := by cases e <;> rfl
theorem sw_sub {p : Pos} {l : Nat} {env : Env} : swapsWith e (some (.Subscript a b p)) l env = pure false := by cases e <;> rfl
theorem so_tup {ts : List Expr} {k l : Nat} {p : Pos} {env : Env} : swapsWithSole [.Tuple ts k p] e l env = pure false := (sw_tup : swapsWith e (some (.Tuple ts k p)) l env = pure false)
theorem so_sub {p : Pos} {l : Nat} {env : Env} : swapsWithSole [.Subscript a b p] e l env = pure false := (sw_sub : swapsWith e (some (.Subscript a b p)) l env = pure false)
def notTup : Expr → Bool
  | .Tuple .. => false
  | _ => true
theorem st_plain {tg : Expr} {env : Env} (h : notTup e = true) : swappedStores [tg] e env = pure none := by
  unfold swappedStores
  cases e <;> first | exact absurd h Bool.false_ne_true | (cases tg <;> rfl)
theorem st_sub {p : Pos} {env : Env} : swappedStores [.Subscript a b p] e env = pure none := by
  unfold swappedStores
  cases e <;> rfl
theorem ss_ex (hc : notComp e = true) (he : PE X e (Te X.K Z C W ie)) : PS X (.Expr e pos) (Ss X.K Z C W (.ex ie)) :=
  (ps_expr he (sw_plain hc)).imp' fun E σ H ⟨B, m, S, δ, t, e, h⟩ => (Mid.start t e).sE h fun v d S1 m1 H1 M1 r l h1 => M1.nx h1 M1.e
theorem set_step {i : Nat} {E : Ends} {σ : L2.St} {H : Hp} (h : Ss X.K Z C W (.set i ie) E σ H) : tAsg (Te X.K Z C W ie) (gName i) E σ H := by
  obtain ⟨B, m, S, δ, t, e, h⟩ := h
  exact (Mid.start t e).sE h fun v d S1 m1 H1 M1 r l h1 => M1.nx h1 (M1.e.set r i)
theorem ss_set {i : Nat} {x : Str} {p : Pos} (hN : X.N.Nodup) (hi : X.N[i]? = some x) (hx : Loc X.env.scope x) (hf : X.fn x = true ∨ X.env.scope.names.lookup x = some .local) (hc : notComp e = true) (he : PE X e (Te X.K Z C W ie)) :
    PS X (.Assign [.Name x p] e pos) (Ss X.K Z C W (.set i ie)) := (ps_set hN hi hx he (sw_plain hc) hf).imp' fun E σ H h => set_step h
/-- name = [..] -/
theorem ss_setC {i : Nat} {y : Str} {py : Pos} {elt tg iter : Expr} {ifs : List Expr} {scope : Scope} {own : List (Str × Nat)} {vs : List Nat} {p : Pat} {it c e : IE} {pos spos : Pos} (hN : X.N.Nodup) (hy : X.N[i]? = some y) (hyl : X.env.scope.names.lookup y = some .local)
    (hk : X.env.scope.kind = .function) (hl : (py.line == pos.line) = true) (hn : (scope.names.any fun (n, k) => n == y && (k == .local || k == .cell)) = false) (hc : X.calm = true) (hi : PI X tg iter (Ti X.K Z C W it)) (ok : BlkOk X.N X.env.scope scope own)
    (hg : ∀ (s : Shared) (H : Hp) (Cc : Addr) (cl : List (Str × Addr)) (fp : List Addr), PG (X.blk s H scope (compEnvC scope cl Cc X.env) fp) tg (Tg X.K p))
    (ht : ∀ (s : Shared) (H : Hp) (Cc : Addr) (cl : List (Str × Addr)) (fp : List Addr), PTs (X.blk s H scope (compEnvC scope cl Cc X.env) fp) ifs (Tc X.K Z C Wf c))
    (he : ∀ (s : Shared) (H : Hp) (Cc : Addr) (cl : List (Str × Addr)) (fp : List Addr), PE (X.blk s H scope (compEnvC scope cl Cc X.env) fp) elt (Te X.K Z C Wf e))
    (hs : ∀ x, foldedSetIterable iter X.env x = pure x) (hp : ∀ i ∈ patS p, i ∈ vs) (hv : List.map (fun x => x.2) own = vs) (hst : ∀ σ H Q, Te X.K Z C W ie σ H Q → Te X.K Z C W (.comp vs p it c e) σ H Q) :
    PS X (.Assign [.Name y py] (.ListComp elt [⟨tg, iter, ifs, 0⟩] scope pos) spos) (Ss X.K Z C W (.set i ie)) := by
  have h0 := ps_setLc (spos := spos) hc hN hy hyl (sw_true (elt := elt) (gs := [⟨tg, iter, ifs, 0⟩]) (l := spos.line) hk hyl hl hn) hi ok hg ht he hs
  rw [hv] at h0
  exact h0.imp' fun E σ H h => comp_step hp (hst _ _ _ (set_step h))
theorem ss_setP {xs : List (Str × Pos)} {is : List Nat} {k : Nat} {p : Pos} (hc : X.calm = true) (hN : X.N.Nodup) (hl : xs.length = is.length) (h : ∀ q ∈ is.zip xs, X.N[q.1]? = some q.2.1 ∧ Loc X.env.scope q.2.1 ∧ (X.fn q.2.1 = true ∨ X.env.scope.names.lookup q.2.1 = some .local))
    (he : PE X e (Te X.K Z C W ie)) (hw : swappedStores [.Tuple (nmEs xs) k p] e X.env = pure none) : PS X (.Assign [.Tuple (nmEs xs) k p] e pos) (Ss X.K Z C W (.setP is ie)) :=
  (ps_asg he (g_tup hc hN hl h) so_tup hw rfl).imp' fun E σ H ⟨B, m, S, δ, t, e, h⟩ => by
    refine (Mid.start t e).sE h fun v d S1 m1 H1 M1 r l h1 => ?_
    have h1 : FinG X.K Z B m H NX (match patE (.tp is) d S1 δ with
      | some σ' => M.ret (.nx σ') S1
      | none => .bad) (PF X.K Z B W E) := h1
    cases q : patE (.tp is) d S1 δ with
    | none => rw [q] at h1; exact False.elim h1
    | some δ' =>
      rw [q] at h1
      exact ⟨B, m1, S1, δ, d, δ', M1.t0, M1.e, r, q, fun σ' r' _ => M1.nx h1 r'⟩
theorem set2_of {i j : Nat} {ds : List D} {δ δ' : Ev} (h : setAll [i, j] ds δ = some δ') : ∃ x y, ds = [x, y] ∧ δ' = (δ.set i (some x)).set j (some y) := by
  match ds, h with
  | [x, y], h => exact ⟨x, y, rfl, (Option.some.inj h).symm⟩
theorem set3_of {i j l : Nat} {ds : List D} {δ δ' : Ev} (h : setAll [i, j, l] ds δ = some δ') : ∃ x y z, ds = [x, y, z] ∧ δ' = ((δ.set i (some x)).set j (some y)).set l (some z) := by
  match ds, h with
  | [x, y, z], h => exact ⟨x, y, z, rfl, (Option.some.inj h).symm⟩
theorem ss_par2 {i j : Nat} {x y : Str} {px py pt pt2 : Pos} {kt k2 : Nat} (hc : X.calm = true) (hN : X.N.Nodup) (hi : X.N[i]? = some x) (hj : X.N[j]? = some y) (hij : i ≠ j)
    (hx : X.env.scope.names.lookup x = some .local) (hy : X.env.scope.names.lookup y = some .local) (ha : PA X [a, b] (Ta X.K Z C W ies))
    (hw : swappedStores [.Tuple [.Name x px, .Name y py] kt pt] (.Tuple [a, b] k2 pt2) X.env = pure (some [x, y])) :
    PS X (.Assign [.Tuple [.Name x px, .Name y py] kt pt] (.Tuple [a, b] k2 pt2) pos) (Ss X.K Z C W (.par [i, j] ies)) :=
  (ps_par hc hN hi hj hij hx hy ha hw so_tup).imp' fun E σ H ⟨B, m, S, δ, t, e, h⟩ => by
    refine (Mid.start t e).sA h fun vs ds S1 m1 H1 M1 r h1 => ?_
    have h1 : FinG X.K Z B m H NX (match setAll [i, j] ds δ with
      | some σ' => M.ret (.nx σ') S1
      | none => .bad) (PF X.K Z B W E) := h1
    cases q : setAll [i, j] ds δ with
    | none => rw [q] at h1; exact False.elim h1
    | some δ' =>
      rw [q] at h1
      obtain ⟨x, y, rfl, rfl⟩ := set2_of q
      cases r with
      | cons r1 r =>
        cases r with
        | cons r2 r =>
          cases r
          exact ⟨_, _, rfl, M1.nx h1 ((M1.e.set r1 i).set r2 j)⟩
theorem ss_par3 {i j l : Nat} {x y z : Str} {px py pz pt pt2 : Pos} {kt k2 : Nat} (hc : X.calm = true) (hN : X.N.Nodup) (hi : X.N[i]? = some x) (hj : X.N[j]? = some y) (hl : X.N[l]? = some z) (hij : i ≠ j) (hil : i ≠ l) (hjl : j ≠ l)
    (hx : X.env.scope.names.lookup x = some .local) (hy : X.env.scope.names.lookup y = some .local) (hz : X.env.scope.names.lookup z = some .local) (ha : PA X [a, b, c] (Ta X.K Z C W ies))
    (hw : swappedStores [.Tuple [.Name x px, .Name y py, .Name z pz] kt pt] (.Tuple [a, b, c] k2 pt2) X.env = pure (some [x, y, z])) :
    PS X (.Assign [.Tuple [.Name x px, .Name y py, .Name z pz] kt pt] (.Tuple [a, b, c] k2 pt2) pos) (Ss X.K Z C W (.par [i, j, l] ies)) :=
  (ps_par3 hc hN hi hj hl hij hil hjl hx hy hz ha hw so_tup).imp' fun E σ H ⟨B, m, S, δ, t, e, h⟩ => by
    refine (Mid.start t e).sA h fun vs ds S1 m1 H1 M1 r h1 => ?_
    have h1 : FinG X.K Z B m H NX (match setAll [i, j, l] ds δ with
      | some σ' => M.ret (.nx σ') S1
      | none => .bad) (PF X.K Z B W E) := h1
    cases q : setAll [i, j, l] ds δ with
    | none => rw [q] at h1; exact False.elim h1
    | some δ' =>
      rw [q] at h1
      obtain ⟨x, y, z, rfl, rfl⟩ := set3_of q
      cases r with
      | cons r1 r =>
        cases r with
        | cons r2 r =>
          cases r with
          | cons r3 r =>
            cases r
            exact ⟨_, _, _, rfl, M1.nx h1 (((M1.e.set r1 i).set r2 j).set r3 l)⟩
theorem putD_of {S S' : Store} {x i v : D} (h : putD S x i v = some S') : ∃ n k ys j, x = .cell n ∧ i = .int k ∧ S[n]? = some (.lst ys) ∧ ixN ys.length k = some j ∧ S' = S.set n (.lst (ys.set j v)) := by
  unfold putD at h
  split at h
  · rename_i n k
    cases e : S[n]? with
    | none => rw [e] at h; cases h
    | some c =>
      cases c with
      | lst ys =>
        rw [e] at h
        simp only at h
        refine ⟨n, k, ys, ?_⟩
        by_cases h0 : k < 0
        · rw [if_pos h0] at h
          by_cases h1 : 0 ≤ k + ys.length
          · rw [if_pos h1] at h
            refine ⟨(k + ys.length).toNat, rfl, rfl, e, ?_, (Option.some.inj h).symm⟩
            unfold ixN
            rw [if_neg (by omega), if_pos (by omega)]
          · rw [if_neg h1] at h; cases h
        · rw [if_neg h0] at h
          by_cases h1 : k < ys.length
          · rw [if_pos h1] at h
            refine ⟨k.toNat, rfl, rfl, e, ?_, (Option.some.inj h).symm⟩
            unfold ixN
            rw [if_pos (by omega), if_pos h1]
          · rw [if_neg h1] at h; cases h
  · cases h
theorem ss_put {p : Pos} (hb : PlainIx b) (ha : PE X a (Te X.K Z C W ia)) (hi : PE X b (Te X.K Z C W ib)) (he : PE X e (Te X.K Z C W ie))
    (hs : ∀ v, assign (.Subscript a b p) X.env v = (do
      let ov ← holding [v] (eval a X.env)
      let iv ← holding [v, ov] (eval b X.env)
      standAt p
      holding [v, ov, iv] (setItem ov iv v)
      release [v, ov, iv] [])) : PS X (.Assign [.Subscript a b p] e pos) (Ss X.K Z C W (.put ia ib ie)) :=
  (ps_asg he (pg_sub ha hi set_list hs) so_sub st_sub rfl).imp' fun E σ H ⟨B, m, S, δ, t, e, h⟩ => by
    refine (Mid.start t e).sE h fun v d S1 m1 H1 M1 r1 l1 h1 => ?_
    refine M1.sE h1 fun o d2 S2 m2 H2 M2 r2 l2 h2 => ?_
    refine M2.sE h2 fun i d3 S3 m3 H3 M3 r3 l3 h3 => ?_
    have h3 : FinG X.K Z B m H NX (liftE (putM d2 d3 d) δ (fun _ => M.ret (.nx δ)) S3) (PF X.K Z B W E) := h3
    unfold liftE putM at h3
    cases q : putD S3 d2 d3 d with
    | none => simp only [q] at h3; exact False.elim h3
    | some S4 =>
      simp only [q] at h3
      obtain ⟨n, k, ys, j, rfl, rfl, e1, e2, rfl⟩ := putD_of q
      have r2' := M2.val l3 r2
      obtain ⟨a1, rfl, ha1⟩ := r2'.cell_of
      obtain ⟨us, hu, ru⟩ := M3.t0.cells n _ a1 e1 ha1
      have rv := M2.val l3 (M1.val l2 r1)
      refine ⟨a1, us, k, j, rfl, r3.int_of, hu, by rw [← ru.len]; exact e2, ?_⟩
      have t4 := M3.t0.put ha1 (ru.setAt j rv)
      have l4 := Le.put M3.t0 (o := .lst (us.set j v)) ha1
      exact (M3.go l4 t4).nx h3 (M3.e.tr (l4.tr M3.t0))
theorem ss_if (hc : PT X c (Tb X.K Z C W ic)) {p q : List Stmt} (ha : PSs X p (Ss X.K Z C W sa)) (hb : PSs X q (Ss X.K Z C W sb)) : PS X (.If c p q pos) (Ss X.K Z C W (.ite ic sa sb)) :=
  (ps_if hc ha hb).imp' fun E σ H ⟨B, m, S, δ, t, e, h⟩ => by
    refine (Mid.start t e).sT h fun k S1 m1 H1 M1 h1 => ?_
    cases k with
    | true => exact M1.tailS h1
    | false => exact M1.tailS h1
theorem augAdd {K : Fg} {B m : List Addr} {H : Hp} {x y d : D} {u w : V} {S S' : Store} {o : Bo} (h : augM o x y S = .ok d S') (r1 : RelD K B m H x u) (r2 : RelD K B m H y w) : S' = S ∧ ∃ i j, u = .int i ∧ w = .int j ∧ ((o = .add ∧ d = .int (i + j)) ∨ (o = .sub ∧ d = .int (i - j))) := by
  unfold augM at h
  split at h
  · cases h; exact ⟨rfl, _, _, r1.int_of, r2.int_of, .inl ⟨rfl, rfl⟩⟩
  · cases h; exact ⟨rfl, _, _, r1.int_of, r2.int_of, .inr ⟨rfl, rfl⟩⟩
  · cases h
theorem ip_of {o : Bo} (h : o = .add ∨ o = .sub) : PIp X (boOf o) (ipI fun i j => if o = .add then i + j else i - j) := by
  rcases h with rfl | rfl
  · exact ip_add
  · exact ip_sub
theorem ss_aug {o : Bo} {i : Nat} {x : Str} {p : Pos} (ho : o = .add ∨ o = .sub) (hN : X.N.Nodup) (hi : X.N[i]? = some x) (hx : Loc X.env.scope x) (hf : X.fn x = true ∨ X.env.scope.names.lookup x = some .local) (he : PE X e (Te X.K Z C W ie)) :
    PS X (.AugAssign (.Name x p) (boOf o) e pos) (Ss X.K Z C W (.aug o i ie)) :=
  (ps_aug hN hi hx he (ip_of ho) hf).imp' fun E σ H ⟨B, m, S, δ, t, e, h⟩ => by
    have h : FinG X.K Z B m H NX (liftE (M.opt (δ[i]?.join)) δ (fun x => liftE (evE C ie δ) δ fun y => liftE (augM o x y) δ fun z => M.ret (.nx (δ.set i (some z)))) S) (PF X.K Z B W E) := h
    unfold liftE M.opt at h
    cases q : δ[i]?.join with
    | none => simp only [q] at h; exact False.elim h
    | some d =>
      simp only [q] at h
      obtain ⟨v, hv, rv⟩ := e.2 i d (join_some q)
      refine ⟨v, hv, (Mid.start t e).sE (show FinG X.K Z B m H NX (liftE (evE C ie δ) δ (fun y => liftE (augM o d y) δ fun z => M.ret (.nx (δ.set i (some z)))) S) (PF X.K Z B W E) from h) fun u d2 S1 m1 H1 M1 r1 l1 h1 => ?_⟩
      have rv1 := rv.tr (l1.tr t)
      unfold liftE at h1
      cases q1 : augM o d d2 S1 with
      | bad => simp only [q1] at h1; exact False.elim h1
      | exc _ _ _ => unfold augM at q1; split at q1 <;> cases q1
      | ok d3 S3 =>
        simp only [q1] at h1
        obtain ⟨rfl, a1, a2, rfl, rfl, hz⟩ := augAdd q1 rv1 r1
        refine ⟨a1, a2, rfl, rfl, ?_⟩
        rcases hz with ⟨rfl, rfl⟩ | ⟨rfl, rfl⟩
        · exact M1.nx h1 (M1.e.set (.int _) i)
        · exact M1.nx h1 (M1.e.set (.int _) i)
/-! ### loops -/
theorem ss_while {body : List Stmt} (hp : PassesOwn (model X.prog X.w) X.A X.env X.xe) (hc : PT X c (Tb X.K Z C W ic)) (hb : PSs X body (Ss X.K Z C W sb)) : PS X (.While c body [] pos) (Ss X.K Z C W (.whl ic sb)) :=
  (ps_while hp hc hb).imp' fun E σ H ⟨B, m, S, δ, t, e, h⟩ => by
    refine ⟨fun k σ H => ∃ m S δ, At X.K B m S H ∧ RelE X.K B m H δ σ ∧ FinG X.K Z B m H NX (whlN (fun σ => evT C ic σ) (fun σ => exS C sb σ) k δ S) (PF X.K Z B W E), ⟨C.fuel, m, S, δ, t, e, h⟩, ?_⟩
    rintro k σ H ⟨m, S, δ, t, e, h⟩
    cases k with
    | zero => exact False.elim h
    | succ k =>
      refine (Mid.start t e).sT (show FinG X.K Z B m H NX (liftE (evT C ic δ) δ (fun t => if t then M.bind (exS C sb δ) fun o => match o with
        | .nx σ' => whlN (fun σ => evT C ic σ) (fun σ => exS C sb σ) k σ'
        | .ct σ' => whlN (fun σ => evT C ic σ) (fun σ => exS C sb σ) k σ'
        | .bk σ' => M.ret (.nx σ')
        | .rt d => M.ret (.rt d)
        | .xc c as σ' => M.ret (.xc c as σ')
      else M.ret (.nx δ)) S) (PF X.K Z B W E) from h) fun b S1 m1 H1 M1 h1 => ?_
      cases b with
      | false => exact M1.nx h1 M1.e
      | true =>
        rw [if_pos rfl]
        refine ⟨fun σ' H' => ∃ m S δ, At X.K B m S H' ∧ RelE X.K B m H' δ σ' ∧ FinG X.K Z B m H' NX (whlN (fun σ => evT C ic σ) (fun σ => exS C sb σ) k δ S) (PF X.K Z B W E), fun σ' H' q => ⟨k, Nat.lt_succ_self k, q⟩, ?_⟩
        refine body_part (go := fun σ' => whlN (fun σ => evT C ic σ) (fun σ => exS C sb σ) k σ') M1.t0 M1.e ?_ fun δ' σ' S2 m2 H2 l2 t2 r2 h2 => ⟨m2, S2, δ', t2, r2, h2⟩
        have e0 : loopK (fun σ' => whlN (fun σ => evT C ic σ) (fun σ => exS C sb σ) k σ') = fun o => match o with
          | .nx σ' => whlN (fun σ => evT C ic σ) (fun σ => exS C sb σ) k σ'
          | .ct σ' => whlN (fun σ => evT C ic σ) (fun σ => exS C sb σ) k σ'
          | .bk σ' => M.ret (.nx σ')
          | .rt d => M.ret (.rt d)
          | .xc c as σ' => M.ret (.xc c as σ') := by funext o; cases o <;> rfl
        rw [e0]
        exact M1.here h1
/-- an item taken, then the body -/
theorem item_part {B m : List Addr} {S : Store} {H H1 : Hp} {p : Pat} {f go : Ev → M Fl} {N : L2.St → Hp → Prop} {δ : Ev} {σ : L2.St} {x : D} {v : V} {E : Ends} (t : At X.K B m S H) (e : RelE X.K B m H δ σ) (h : FinG X.K Z B m H NX (M.bind (patB p f x δ) (loopK go) S) (PF X.K Z B W E))
    (l : Le m m H H1) (t1 : At X.K B m S H1) (rx : RelD X.K B m H1 x v)
    (hN : ∀ δ' σ' S1 m1 H2, Le m m1 H1 H2 → At X.K B m1 S1 H2 → RelE X.K B m1 H2 δ' σ' → FinG X.K Z B m1 H2 NX (go δ' S1) (PF X.K Z B W E) → N σ' H2) :
    Tg X.K p v σ H1 fun σ2 H2 => Tk X.K Z W f { E with nx := N, ct := N, bk := E.nx } σ2 H2 := by
  unfold M.bind patB at h
  cases q : patE p x S δ with
  | none => simp only [q] at h; exact False.elim h
  | some δ2 =>
    simp only [q] at h
    refine ⟨B, m, S, δ, x, δ2, t1, e.tr (l.tr t), rx, q, fun σ' r' _ => ?_⟩
    exact body_part (go := go) t1 r' (FinG.rebase t t1 l (show FinG X.K Z B m H NX (M.bind (f δ2) (loopK go) S) (PF X.K Z B W E) from h)) hN
theorem ss_for {tg iter : Expr} {body : List Stmt} {p : Pat} {it : IE} (hp : PassesOwn (model X.prog X.w) X.A X.env X.xe) (hc : X.calm = true) (hi : PI X tg iter (Ti X.K Z C W it)) (hg : PG X tg (Tg X.K p)) (hb : PSs X body (Ss X.K Z C W sb))
    (hs : ∀ x, foldedSetIterable iter X.env x = pure x) : PS X (.For tg iter body [] pos) (Ss X.K Z C W (.for p it sb)) :=
  (ps_for hp hc hi hg hb hs).imp' fun E σ H ⟨B, m, S, δ, t, e, h⟩ => by
    refine ⟨B, m, S, δ, t, e, (Mid.start t e).lift h fun s S1 m1 H1 l1 t1 h1 => ?_⟩
    have M1 := (Mid.start t e).go l1 t1
    have h1 := M1.here h1
    cases s with
    | xs xs =>
      intro J hJ
      refine ⟨fun i k σ' H' => k = xs.length - i ∧ i ≤ xs.length ∧ ∃ m' S' δ', At X.K B m' S' H' ∧ RelE X.K B m' H' δ' σ' ∧ Le m1 m' H1 H' ∧ FinG X.K Z B m' H' NX (forL (patB p fun σ' => exS C sb σ') (xs.drop i) δ' S') (PF X.K Z B W E),
        ⟨xs.length, by simp, Nat.zero_le _, m1, S1, δ, t1, M1.e, Le.refl, h1⟩, ?_⟩
      rintro i k σ' H' ⟨rfl, hi2, m', S', δ', t', e', l', h'⟩
      have jw := hJ B m' S' H' (l'.tr t1) t' i
      by_cases hlt : i < xs.length
      · have hx : xs[i]? = some xs[i] := List.getElem?_eq_getElem hlt
        obtain ⟨go, yl⟩ := jw.1 _ hx
        refine .inr ⟨go, fun σ2 H2 => ∃ m2 S2 δ2, At X.K B m2 S2 H2 ∧ RelE X.K B m2 H2 δ2 σ2 ∧ Le m1 m2 H1 H2 ∧ FinG X.K Z B m2 H2 NX (forL (patB p fun σ' => exS C sb σ') (xs.drop (i + 1)) δ2 S2) (PF X.K Z B W E),
          fun σ2 H2 q => ⟨xs.length - (i + 1), by omega, rfl, hlt, q⟩, fun v H2 hyl => ?_⟩
        obtain ⟨l2, t2, rx⟩ := yl v H2 hyl
        refine item_part (go := fun σ' => forL (patB p fun σ' => exS C sb σ') (xs.drop (i + 1)) σ') t' e' ?_ l2 t2 rx fun δ3 σ3 S3 m3 H3 l3 t3 r3 h3 => ⟨m3, S3, δ3, t3, r3, Le.trans t1 t' l' (Le.trans t' t2 l2 l3), h3⟩
        rw [List.drop_eq_getElem_cons hlt] at h'
        have e0 : loopK (fun σ' => forL (patB p fun σ' => exS C sb σ') (xs.drop (i + 1)) σ') = fun o => match o with
          | .nx σ' => forL (patB p fun σ' => exS C sb σ') (xs.drop (i + 1)) σ'
          | .ct σ' => forL (patB p fun σ' => exS C sb σ') (xs.drop (i + 1)) σ'
          | .bk σ' => M.ret (.nx σ')
          | .rt d => M.ret (.rt d)
          | .xc c as σ' => M.ret (.xc c as σ') := by funext o; cases o <;> rfl
        rw [e0]
        exact h'
      · rw [List.drop_eq_nil_of_le (by omega)] at h'
        exact .inl ⟨jw.2 (List.getElem?_eq_none (by omega)), (Mid.start t' e').nx h' e'⟩
    | cl n =>
      intro a ha
      refine ⟨fun i k σ' H' => ∃ m' S' δ', At X.K B m' S' H' ∧ RelE X.K B m' H' δ' σ' ∧ Le m1 m' H1 H' ∧ FinG X.K Z B m' H' NX (forN (patB p fun σ' => exS C sb σ') n k i δ' S') (PF X.K Z B W E),
        ⟨C.fuel, m1, S1, δ, t1, M1.e, Le.refl, h1⟩, ?_⟩
      rintro i k σ' H' ⟨m', S', δ', t', e', l', h'⟩
      cases k with
      | zero => exact False.elim h'
      | succ k =>
        have ha' : m'[n]? = some a := (l'.tr t1).cell n a ha
        cases q : lstOf S' (.cell n) with
        | none => unfold forN at h'; simp only [q] at h'; exact False.elim h'
        | some ys =>
          have jc := jc_at t' ha' q i
          cases q2 : ys[i]? with
          | none =>
            unfold forN at h'
            simp only [q, q2] at h'
            exact .inl ⟨jc.2 q2, (Mid.start t' e').nx h' e'⟩
          | some x =>
            obtain ⟨go, yl⟩ := jc.1 x q2
            refine .inr ⟨go, fun σ2 H2 => ∃ m2 S2 δ2, At X.K B m2 S2 H2 ∧ RelE X.K B m2 H2 δ2 σ2 ∧ Le m1 m2 H1 H2 ∧ FinG X.K Z B m2 H2 NX (forN (patB p fun σ' => exS C sb σ') n k (i + 1) δ2 S2) (PF X.K Z B W E),
              fun σ2 H2 q => ⟨k, Nat.lt_succ_self k, q⟩, fun v H2 hyl => ?_⟩
            obtain ⟨rfl, rx⟩ := yl v H2 hyl
            refine item_part (go := fun σ' => forN (patB p fun σ' => exS C sb σ') n k (i + 1) σ') t' e' ?_ Le.refl t' rx fun δ3 σ3 S3 m3 H3 l3 t3 r3 h3 => ⟨m3, S3, δ3, t3, r3, Le.trans t1 t' l' l3, h3⟩
            unfold forN at h'
            simp only [q, q2] at h'
            have e0 : loopK (fun σ' => forN (patB p fun σ' => exS C sb σ') n k (i + 1) σ') = fun o => match o with
              | .nx σ' => forN (patB p fun σ' => exS C sb σ') n k (i + 1) σ'
              | .ct σ' => forN (patB p fun σ' => exS C sb σ') n k (i + 1) σ'
              | .bk σ' => M.ret (.nx σ')
              | .rt d => M.ret (.rt d)
              | .xc c as σ' => M.ret (.xc c as σ') := by funext o; cases o <;> rfl
            rw [e0]
            exact h'
end
end Fb
set_option Elab.async false
set_option linter.all false
set_option maxRecDepth 100000
set_option maxHeartbeats 1000000
/-! Fx4: raise, try, x[i] op= y as the evaluator has them. -/
namespace Fb
open PySem PySem.Spec PyProof.Rows L2
section
variable {X : Cx} {Z : Xt} {C : Cf} {W : WX} {a b e : Expr} {es : List Expr} {ia ib ie ies : IE} {pos : Pos}
/-! ### x[i] op= y -/
theorem pget_list : PGet X (rIxL X.K) := by
  intro pins s σ H x y v u Q I rx ry h
  obtain ⟨p, xs, i, z, rfl, rfl, hq, he, q⟩ := h
  cases rx
  obtain ⟨t, rfl⟩ := ry
  obtain ⟨its, r, pl, hz⟩ := I.list hq
  obtain ⟨j, h1, h2, h3, h4, h5⟩ := atI_get he
  obtain ⟨w, ew, rw'⟩ := r.get h2
  have hl := r.length
  have hn := line63
  have fin : EP X pins σ Q w s := ⟨z, H, I, rw', q⟩
  by_cases h0 : 0 ≤ i
  · have hj : i.toNat = j := by
      rw [seqIndex_of h0 h5] at h1
      exact Option.some.inj h1
    exact wpAny_getItem_list pl.isList h0 (by omega) (by rw [hj]; simpa using ew) fin
  · have hj : (i + (its.toArray.size : Int)).toNat = j := by
      rw [seqIndex_neg (by omega) h4] at h1
      rw [List.size_toArray, ← hl]
      exact Option.some.inj h1
    exact wpAny_getItem_list_neg pl.isList (by omega) (by simp; omega) (by omega) (by rw [hj]; simpa using ew) fin
theorem cellIx_of {S : Store} {d d2 d3 : D} (q : cellIx S d d2 = some d3) : ∃ n i xs, d = .cell n ∧ d2 = .int i ∧ S[n]? = some (.lst xs) ∧ ixL xs i = some d3 := by
  unfold cellIx at q
  split at q
  · rename_i n i
    cases c : S[n]? with
    | none => rw [c] at q; cases q
    | some cl =>
      cases cl with
      | lst xs => rw [c] at q; exact ⟨n, i, xs, rfl, rfl, c, q⟩
  · cases q
theorem ss_augS {o : Bo} {p : Pos} (ho : o = .add ∨ o = .sub) (ha : PE X a (Te X.K Z C W ia)) (hi : PE X b (Te X.K Z C W ib)) (he : PE X e (Te X.K Z C W ie))
    (hst : ∀ ov iv new, augStore b ov iv new = (do holding [new, ov, iv] (setItem ov iv new); release [new, ov, iv] []; pure .next)) : PS X (.AugAssign (.Subscript a b p) (boOf o) e pos) (Ss X.K Z C W (.augS o ia ib ie)) :=
  (ps_augS ha hi pget_list he (ip_of ho) set_list hst).imp' fun E σ H ⟨B, m, S, δ, t, e, h⟩ => by
    refine (Mid.start t e).sE h fun x d S1 m1 H1 M1 r1 l1 h1 => ?_
    refine M1.sE h1 fun k d2 S2 m2 H2 M2 r2 l2 h2 => ?_
    have h2 : FinG X.K Z B m H NX ((fun S => match cellIx S d d2 with
      | some v => liftE (evE C ie δ) δ (fun y => liftE (augM o v y) δ fun z => liftE (putM d d2 z) δ fun _ => M.ret (.nx δ)) S
      | none => .bad : M Fl) S2) (PF X.K Z B W E) := h2
    dsimp only at h2
    cases q : cellIx S2 d d2 with
    | none => simp only [q] at h2; exact False.elim h2
    | some d3 =>
      simp only [q] at h2
      have r1' := M1.val l2 r1
      obtain ⟨n, i, xs, rfl, rfl, e1, e2⟩ := cellIx_of q
      obtain ⟨a1, rfl, ha1⟩ := r1'.cell_of
      obtain ⟨us, hu, ru⟩ := M2.t0.cells n _ a1 e1 ha1
      obtain ⟨v3, hv3, rv3⟩ := atI_rel ru e2
      refine ⟨a1, us, i, v3, rfl, r2.int_of, SqL.of hu, hv3, ?_⟩
      refine M2.sE h2 fun u d4 S4 m4 H4 M4 r4 l4 h4 => ?_
      have rv3' := M2.val l4 rv3
      unfold liftE at h4
      cases q1 : augM o d3 d4 S4 with
      | bad => simp only [q1] at h4; exact False.elim h4
      | exc _ _ _ => unfold augM at q1; split at q1 <;> cases q1
      | ok d5 S5 =>
        simp only [q1] at h4
        obtain ⟨rfl, i1, i2, rfl, rfl, hz⟩ := augAdd q1 rv3' r4
        refine ⟨i1, i2, rfl, rfl, ?_⟩
        have rz : RelD X.K B m4 H4 d5 (.int (if o = .add then i1 + i2 else i1 - i2)) := by
          rcases hz with ⟨rfl, rfl⟩ | ⟨rfl, rfl⟩
          · exact .int _
          · exact .int _
        have h4 : FinG X.K Z B m H NX (liftE (putM (.cell n) (.int i) d5) δ (fun _ => M.ret (.nx δ)) S5) (PF X.K Z B W E) := h4
        unfold liftE putM at h4
        cases q6 : putD S5 (.cell n) (.int i) d5 with
        | none => simp only [q6] at h4; exact False.elim h4
        | some S6 =>
          simp only [q6] at h4
          obtain ⟨n', k', ys, j, en, ek, e5, e6, rfl⟩ := putD_of q6
          cases en; cases ek
          have ha4 := (M2.val l4 r1').cell_of
          obtain ⟨a2, ea2, ha2⟩ := ha4
          cases ea2
          obtain ⟨us2, hu2, ru2⟩ := M4.t0.cells n _ a1 e5 ha2
          refine ⟨a1, us2, i, j, rfl, r2.int_of, hu2, by rw [← ru2.len]; exact e6, ?_⟩
          have t6 := M4.t0.put ha2 (ru2.setAt j rz)
          have l6 := Le.put M4.t0 (o := .lst (us2.set j (.int (if o = .add then i1 + i2 else i1 - i2)))) ha2
          exact (M4.go l6 t6).nx h4 (M4.e.tr (l6.tr M4.t0))
/-! ### raise -/
theorem flds_at : ∀ {fs : List Str} {vs : List V}, fs.Nodup → fs.length = vs.length → ∀ (i : Nat) (f : Str), fs[i]? = some f → (fldsOf fs vs).lookup f = vs[i]?
  | [], _, _, _, i, f, h => by simp at h
  | g :: fs, [], _, hl, _, _, _ => by cases hl
  | g :: fs, v :: vs, nd, hl, i, f, h => by
    have nd2 := List.nodup_cons.mp nd
    have e : fldsOf (g :: fs) (v :: vs) = fldsOf fs vs ++ [(g, v)] := by
      unfold fldsOf
      rw [List.zip_cons_cons, List.reverse_cons]
    rw [e, List.lookup_append]
    cases i with
    | zero =>
      cases h
      have hn : (fldsOf fs vs).lookup g = none := by
        cases q : (fldsOf fs vs).lookup g with
        | none => rfl
        | some u =>
          exfalso
          have hm := PySem.mem_of_lookup q
          unfold fldsOf at hm
          exact nd2.1 (List.of_mem_zip (List.mem_reverse.mp hm)).1
      rw [hn]
      simp [List.lookup]
    | succ i =>
      have h2 : fs[i]? = some f := by simpa using h
      have ih := flds_at nd2.2 (by simpa using hl) i f h2
      rw [ih, List.getElem?_cons_succ]
      obtain ⟨v', hv'⟩ : ∃ v', vs[i]? = some v' := by
        have hlt := (List.getElem?_eq_some_iff.mp h2).1
        have hl2 : fs.length = vs.length := by simpa using hl
        exact ⟨vs[i], List.getElem?_eq_getElem (by omega)⟩
      rw [hv']
      rfl
/-- what is known of an exception class -/
structure XcH (X : Cx) (Z : Xt) (c : Nat) (d : XcD) : Prop where
  z : Z[c]? = some (He.ga X.K d.name, d.flds)
  ok : XcOk X.K X.prog d
  fn : ∃ fd, FnOk X.prog X.w X.K X.mg X.base (L2.CX X.prog X.w) 1 (He.ma X.K (He.ga X.K d.name) "__init__") fd d.ps (spX (He.ga X.K d.name) d.flds) ∧ Binds X.K fd d.ps []
  nd : d.flds.Nodup
  mg : X.mg d.name = some (.ref (He.ga X.K d.name))
  few : d.flds.length ≤ 20
theorem ss_rse {c : Nat} {d : XcD} {p p2 : Pos} (hc : X.calm = true) (tk : Takes X W) (xc : XcH X Z c d) (hr : 2 ≤ C.lv → Room 2 X.A) (hg : Gl X d.name) (ha : PA X (e :: es) (Ta X.K Z C W ies)) (hdb : (d.name == ("__debug__" : Str)) = false) (hs : noStars (e :: es) = true) :
    PS X (.Raise (some (.Call (.Name d.name p) (e :: es) [] pos)) none p2) (Ss X.K Z C W (.rse c d.flds.length ies)) := by
  have h2 := Bool.and_eq_true_iff.mp (show (notStar e && es.all notStar) = true from hs)
  obtain ⟨fd, F, hb⟩ := xc.fn
  refine ⟨fun pins s σ H E I q => ?_⟩
  obtain ⟨B, m, S, δ, t, e0, h⟩ := id q
  have hlv : 2 ≤ C.lv := by
    by_cases z : 2 ≤ C.lv
    · exact z
    · have h : FinG X.K Z B m H NX ((if 2 ≤ C.lv then liftE (evA C ies δ) δ (fun xs => if xs.length = d.flds.length then M.ret (.xc c xs δ) else M.bad) else M.bad : M Fl) S) (PF X.K Z B W E) := h
      rw [if_neg z] at h; exact False.elim h
  have noX : Passes (L2.CX X.prog X.w) X (fun _ _ _ => False) := fun pins σ H s e s' I ⟨_, _, _, _, _, _, _, _, _, _, _, _, z⟩ => z.elim
  have rule := ps_raise hc tk (pmk_oex (p := p) (pos := pos) xc.ok.ex xc.ok.ini xc.ok.ity F (hr hlv) hb .nil noX hg xc.mg ha hdb (star_cons h2.1) (plain_args h2.2)) (pos := p2)
  refine rule.run pins s σ H E I ?_
  have h : FinG X.K Z B m H NX ((if 2 ≤ C.lv then liftE (evA C ies δ) δ (fun xs => if xs.length = d.flds.length then M.ret (.xc c xs δ) else M.bad) else M.bad : M Fl) S) (PF X.K Z B W E) := h
  rw [if_pos hlv] at h
  refine (Mid.start t e0).sA h fun vs ds S1 m1 H1 M1 r1 h1 => ?_
  have h1 := M1.here h1
  by_cases hn : ds.length = d.flds.length
  · rw [if_pos hn] at h1
    have hl : vs.length = d.flds.length := by rw [← r1.len]; exact hn
    refine ⟨by have := xc.few; omega, fun a na => ?_⟩
    refine ⟨a, vs, by rw [List.append_nil], hl, upd_same, fun dx H' n ne g1 g2 g3 => ?_⟩
    have hne : H1 dx = none := by rw [upd_ne ne] at n; exact n
    refine ⟨rfl, dx, fldsOf d.flds vs, g1, g2, hne, ?_⟩
    have eH : upd (del H' a) dx (.xd (fldsOf d.flds vs)) = upd H1 dx (.xd (fldsOf d.flds vs)) := by
      funext b
      by_cases hb : b = dx
      · rw [hb, upd_same, upd_same]
      · rw [upd_ne hb, upd_ne hb]
        by_cases hba : b = a
        · rw [hba, del_same, na]
        · rw [del_ne hba, g3 b hba hb, upd_ne hba]
    rw [eH]
    have l3 := Le.new (o := .xd (fldsOf d.flds vs)) M1.t0 hne
    have t3 := M1.t0.new (o := .xd (fldsOf d.flds vs)) hne
    refine h1 m1 _ l3 t3 σ _ _ (M1.e.tr (l3.tr M1.t0)) ?_
    exact ⟨He.ga X.K d.name, d.flds, dx, fldsOf d.flds vs, vs, xc.z, rfl, rfl, upd_same, r1.tr (l3.tr M1.t0), hl.symm, fun i f hf => flds_at xc.nd hl.symm i f hf⟩
  · rw [if_neg hn] at h1; exact False.elim h1
end
/-! ### try -/
mutual
/-- the suites' expressions: a the caught error in the slot nm, cls its class, dd its dict -/
def tHE (Z : Xt) (a : Addr) (cls : Value) (dd : Option Addr) (nm : Option Nat) : HE → TE
  | .lit d => fun σ H Q => ∃ v, flatV' d = some v ∧ Q v H
  | .fld c k => fun σ H Q => ∃ i C fs f, nm = some i ∧ Z[c]? = some (C, fs) ∧ fs[k]? = some f ∧ tXf a cls dd C f (tVar i) σ H Q
  | .tup es => tTup (tHA Z a cls dd nm es)
  | _ => fun _ _ _ => False
def tHA (Z : Xt) (a : Addr) (cls : Value) (dd : Option Addr) (nm : Option Nat) : HE → TA
  | .nil => tNil
  | .cons x r => tCons (tHE Z a cls dd nm x) (tHA Z a cls dd nm r)
  | _ => fun _ _ _ => False
end
def fldsIn : HE → Bool
  | .fld _ _ => true
  | .tup es => fldsIn es
  | .cons a r => fldsIn a || fldsIn r
  | _ => false
section
variable {K : Fg} {Z : Xt} {B m : List Addr} {S : Store} {c : Nat} {as : List D} {cls : Value} {dd : Option Addr} {a : Addr} {nm : Option Nat} {σ : L2.St}
theorem At.xd (t : At K B m S H) {p : Addr} {fs : List (Str × V)} (h : H p = some (.xd fs)) : p ∉ m := fun z => by
  obtain ⟨vs, e⟩ := t.mlive z
  rw [h] at e; cases e
theorem ExRel.le {H H' : Hp} (t : At K B m S H) (l : Le m m H H') (x : ExRel K Z B m H c as cls dd) : ExRel K Z B m H' c as cls dd := by
  obtain ⟨C, fns, p, fs, vs, h1, h2, h3, h4, h5, h6, h7⟩ := x
  exact ⟨C, fns, p, fs, vs, h1, h2, h3, l.keep _ _ h4 (t.xd h4), h5.tr (l.tr t), h6, h7⟩
/-- literals are flat -/
def HE.ok : HE → Bool
  | .lit d => (flatV' d).isSome
  | .tup es => HE.ok es
  | .cons a r => HE.ok a && HE.ok r
  | _ => true
mutual
theorem hE_run : ∀ (e : HE) {H : Hp} {d : D} {Q : VK}, At K B m S H → ExRel K Z B m H c as cls dd → (fldsIn e = true → ∃ i, nm = some i ∧ σ[i]? = some (some (.ref a))) → HE.ok e = true → evH c as e = some d →
    (∀ v H', Le m m H H' → At K B m S H' → RelD K B m H' d v → Q v H') → tHE Z a cls dd nm e σ H Q
  | .lit d, H, d', Q, t, x, _, hk, e, q => by
    have e : some d = some d' := by rw [← e]; rfl
    cases e
    obtain ⟨v, hv⟩ := Option.isSome_iff_exists.mp (show (flatV' d).isSome = true from hk)
    exact ⟨v, hv, q v H Le.refl t (flatV_rel hv)⟩
  | .fld c' k, H, d', Q, t, x, hf, _, e, q => by
    have e2 : (if c' = c then as[k]? else none) = some d' := by rw [← e]; rfl
    clear e
    split at e2
    · rename_i ec
      subst ec
      obtain ⟨i, hn, hs⟩ := hf rfl
      obtain ⟨C, fns, p, fs, vs, h1, h2, h3, h4, h5, h6, h7⟩ := x
      obtain ⟨v, hv, rv⟩ := h5.get e2
      have hk : k < fns.length := by rw [h6]; exact (List.getElem?_eq_some_iff.mp hv).1
      have hfk : fns[k]? = some fns[k] := List.getElem?_eq_getElem hk
      exact ⟨i, C, fns, fns[k], hn, h1, hfk, .ref a, hs, rfl, h2, p, fs, v, h3, h4, by rw [h7 k _ hfk]; exact hv, q v H Le.refl t rv⟩
    · cases e2
  | .tup es, H, d', Q, t, x, hf, hk, e, q => by
    have e : (match evHs c as es with
      | some xs => if xs.length ≤ SL then some (.tup xs) else none
      | none => none) = some d' := by rw [← e]; rfl
    cases q1 : evHs c as es with
    | none => rw [q1] at e; cases e
    | some xs =>
      rw [q1] at e
      dsimp only at e
      split at e
      · rename_i hz
        cases e
        refine hA_run es t x hf hk q1 fun vs H1 l1 t1 rs => ⟨by rw [← rs.len, ← SL_eq]; exact hz, fun p hp => ?_⟩
        exact q _ _ (Le.trans t t1 l1 (Le.new t1 hp)) (t1.new hp) (RelD.new_tup t1 hp rs)
      · cases e
  | .nil, _, _, _, _, _, _, _, e, _ => by cases e
  | .cons _ _, _, _, _, _, _, _, _, e, _ => by cases e
theorem hA_run : ∀ (e : HE) {H : Hp} {ds : List D} {Q : List V → Hp → Prop}, At K B m S H → ExRel K Z B m H c as cls dd → (fldsIn e = true → ∃ i, nm = some i ∧ σ[i]? = some (some (.ref a))) → HE.ok e = true → evHs c as e = some ds →
    (∀ vs H', Le m m H H' → At K B m S H' → RelDs K B m H' ds vs → Q vs H') → tHA Z a cls dd nm e σ H Q
  | .nil, H, ds, Q, t, x, _, _, e, q => by
    have e : some [] = some ds := by rw [← e]; rfl
    cases e
    exact q [] H Le.refl t .nil
  | .cons b r, H, ds, Q, t, x, hf, hk, e, q => by
    have hk2 := Bool.and_eq_true_iff.mp (show (HE.ok b && HE.ok r) = true from hk)
    have e : (match evH c as b, evHs c as r with
      | some x, some xs => some (x :: xs)
      | _, _ => none) = some ds := by rw [← e]; rfl
    cases q1 : evH c as b with
    | none => rw [q1] at e; cases e
    | some d1 =>
      cases q2 : evHs c as r with
      | none => rw [q1, q2] at e; cases e
      | some ds1 =>
        rw [q1, q2] at e
        cases e
        refine hE_run b t x (fun h => hf (by show (fldsIn b || fldsIn r) = true; rw [h, Bool.true_or])) hk2.1 q1 fun v H1 l1 t1 rv => ?_
        refine hA_run r t1 (x.le t l1) (fun h => hf (by show (fldsIn b || fldsIn r) = true; rw [h, Bool.or_true])) hk2.2 q2 fun vs H2 l2 t2 rs => ?_
        exact q _ H2 (Le.trans t t1 l1 l2) t2 (.cons (rv.tr (l2.tr t1)) rs)
  | .lit _, _, _, _, _, _, _, _, e, _ => by cases e
  | .fld _ _, _, _, _, _, _, _, _, e, _ => by cases e
  | .tup _, _, _, _, _, _, _, _, e, _ => by cases e
end
end
/-- a clause of the evaluator as the layer has it -/
def toHM (K : Fg) (Z : Xt) (css : Hnd → List Value) (h : Hnd) : HM := ⟨css h, h.nm, fun a cls dd => match h.body with
  | .ret e => tRet (tHE Z a cls dd h.nm e)
  | .set i e => tAsg (tHE Z a cls dd h.nm e) (gName i)⟩
def bodyHE : HS → HE
  | .ret e => e
  | .set _ e => e
/-- what a clause must have: its literals are flat, fields are read with a name alone; its classes take the errors told -/
structure HndOk (K : Fg) (Z : Xt) (css : Hnd → List Value) (n : Nat) (h : Hnd) : Prop where
  lits : HE.ok (bodyHE h.body) = true
  flds : fldsIn (bodyHE h.body) = true → ∃ i, h.nm = some i ∧ i < n
  take : ∀ c C fns, Z[c]? = some (C, fns) → PySem.W.exmAny K (.ref C) (css h) = some (h.cs.contains c)
section
variable {K : Fg} {Z : Xt} {B m : List Addr} {S : Store} {H : Hp} {δ : Ev} {σ : L2.St} {W : WX} {E : Ends} {c : Nat} {as : List D} {cls : Value} {dd : Option Addr} {css : Hnd → List Value}
theorem RelE.hideX (e : RelE K B m H δ σ) (a : Addr) : ∀ nm : Option Nat, RelE K B m H (wipeO δ nm) (slotX σ a nm)
  | none => e
  | some i => by
    refine ⟨by simp [wipeO, slotX, e.1], fun j d h => ?_⟩
    by_cases hi : i = j
    · subst hi
      have h : (δ.set i none)[i]? = some (some d) := h
      rw [List.getElem?_set] at h
      split at h
      · split at h <;> cases h
      · rename_i z; exact absurd rfl z
    · have h : (δ.set i none)[j]? = some (some d) := h
      rw [List.getElem?_set_ne hi] at h
      obtain ⟨v, h1, h2⟩ := e.2 j d h
      exact ⟨v, by show (σ.set i _)[j]? = _; rw [List.getElem?_set_ne hi]; exact h1, h2⟩
theorem RelE.wipeX (e : RelE K B m H δ σ) : ∀ nm : Option Nat, RelE K B m H (wipeO δ nm) (match nm with
    | none => σ
    | some i => σ.set i none)
  | none => e
  | some i => e.unset i
theorem mix_run (t : At K B m S H) (e : RelE K B m H δ σ) (x : ExRel K Z B m H c as cls dd) : ∀ {hs : List Hnd}, (∀ h ∈ hs, HndOk K Z css σ.length h) → FinG K Z B m H NX (hdS hs c as δ S) (PF K Z B W E) → wMix K W E (hs.map (toHM K Z css)) cls dd σ H
  | [], _, h => h m H Le.refl t σ cls dd e x
  | hd :: r, ok, h => by
    have o := ok hd List.mem_cons_self
    obtain ⟨C, fns, p, fs, vs, h1, h2, h3, h4, h5, h6, h7⟩ := id x
    refine ⟨hd.cs.contains c, by rw [h2]; exact o.take c C fns h1, fun hc a na => ?_, fun hc => ?_⟩
    · have h : FinG K Z B m H NX ((if hd.cs.contains c then (match hd.body with
          | .ret e => (match evH c as e with
            | some d => M.ret (.rt d)
            | none => M.bad)
          | .set i e => (match evH c as e with
            | some d => M.ret (.nx (wipeO ((wipeO δ hd.nm).set i (some d)) hd.nm))
            | none => M.bad)) else hdS r c as δ : M Fl) S) (PF K Z B W E) := h
      rw [if_pos hc] at h
      have e1 := e.hideX a hd.nm
      have sl : fldsIn (bodyHE hd.body) = true → ∃ i, hd.nm = some i ∧ (slotX σ a hd.nm)[i]? = some (some (.ref a)) := fun hf => by
        obtain ⟨i, hn, hl⟩ := o.flds hf
        refine ⟨i, hn, ?_⟩
        rw [hn]
        exact List.getElem?_set_self hl
      have ol := o.lits
      show (match hd.body with
        | .ret e => tRet (tHE Z a cls dd hd.nm e)
        | .set i e => tAsg (tHE Z a cls dd hd.nm e) (gName i)) (endsX E hd.nm) (slotX σ a hd.nm) H
      cases hb : hd.body with
      | ret he =>
        rw [hb] at h sl ol
        dsimp only at h ⊢
        cases q : evH c as he with
        | none => rw [q] at h; exact False.elim h
        | some d =>
          rw [q] at h
          refine hE_run he t x sl ol q fun v H' l' t' rv => ?_
          have := h m H' l' t' v rv
          cases hnm : hd.nm <;> exact this
      | set i he =>
        rw [hb] at h sl ol
        dsimp only at h ⊢
        cases q : evH c as he with
        | none => rw [q] at h; exact False.elim h
        | some d =>
          rw [q] at h
          refine hE_run he t x sl ol q fun v H' l' t' rv => ?_
          have e2 := ((e1.tr (l'.tr t)).set rv i).wipeX hd.nm
          have := h m H' l' t' _ e2
          cases hnm : hd.nm with
          | none => rw [hnm] at this; exact this
          | some j => rw [hnm] at this; exact this
    · have h : FinG K Z B m H NX ((if hd.cs.contains c then (match hd.body with
          | .ret e => (match evH c as e with
            | some d => M.ret (.rt d)
            | none => M.bad)
          | .set i e => (match evH c as e with
            | some d => M.ret (.nx (wipeO ((wipeO δ hd.nm).set i (some d)) hd.nm))
            | none => M.bad)) else hdS r c as δ : M Fl) S) (PF K Z B W E) := h
      rw [if_neg (by rw [hc]; simp)] at h
      exact mix_run t e x (fun z hz => ok z (List.mem_cons_of_mem _ hz)) h
end
section
variable {X : Cx} {Z : Xt} {C : Cf} {W : WX} {pos : Pos}
theorem ss_try {ib : IS} {body : List Stmt} {h₀ : ExceptHandler} {hds : List ExceptHandler} {hs : List Hnd} {css : Hnd → List Value} (hst : X.stack = X.env :: X.outer) (hf : X.env.frame = some X.env.locals) (hN : X.N.Nodup) (tk : Takes X W)
    (hb : ∀ (W : WX) (pn : List (Addr × Obj)) (xe : Value → Shared → Prop), Takes (X.tr pn xe) W → PassesOwn (model X.prog X.w) X.A X.env xe → PSs (X.tr pn xe) body (Ss X.K Z C W ib))
    (ok : ∀ h ∈ hs, HndOk X.K Z css X.N.length h) (hh : HdX X (h₀ :: hds) (hs.map (toHM X.K Z css))) : PS X (.Try body (h₀ :: hds) [] [] pos) (Ss X.K Z C W (.try ib hs)) := by
  have rule := ps_try_mix (pos := pos) hst hf hN tk hb hh
  refine ⟨fun pins s σ H E I q => rule.run pins s σ H E I ?_⟩
  have hσ : σ.length = X.N.length := I.len
  obtain ⟨B, m, S, δ, t, e, h⟩ := q
  refine ⟨B, m, S, δ, t, e, ?_⟩
  have h : FinG X.K Z B m H NX (M.bind (exS C ib δ) (fun o => match o with
    | .xc c as σ' => hdS hs c as σ'
    | o => M.ret o) S) (PF X.K Z B W E) := h
  unfold M.bind at h
  cases q : exS C ib δ S with
  | bad => rw [q] at h; exact h
  | exc c as S1 => rw [q] at h; exact h
  | ok o S1 =>
    rw [q] at h
    intro m1 H1 l1 t1
    cases o with
    | nx δ1 => exact (FinG.ret (show FinG X.K Z B m H NX (M.ret (.nx δ1) S1) (PF X.K Z B W E) from h)) m1 H1 l1 t1
    | rt d => exact (FinG.ret (show FinG X.K Z B m H NX (M.ret (.rt d) S1) (PF X.K Z B W E) from h)) m1 H1 l1 t1
    | bk δ1 => exact (FinG.ret (show FinG X.K Z B m H NX (M.ret (.bk δ1) S1) (PF X.K Z B W E) from h)) m1 H1 l1 t1
    | ct δ1 => exact (FinG.ret (show FinG X.K Z B m H NX (M.ret (.ct δ1) S1) (PF X.K Z B W E) from h)) m1 H1 l1 t1
    | xc c as δ1 =>
      have h : FinG X.K Z B m H NX (hdS hs c as δ1 S1) (PF X.K Z B W E) := h
      intro σ1 cls dd e1 x hl1
      refine mix_run t1 e1 x (fun hd hm => by rw [hl1]; exact ok hd hm) (h.rebase t t1 l1)
end
end Fb
set_option Elab.async false
set_option linter.all false
set_option maxRecDepth 100000
set_option maxHeartbeats 4000000
/-! Fb12: a def's end, calls, levels. -/
namespace Fb
open PySem PySem.Spec PyProof.Rows L2
section
variable {K : Fg} {Z : Xt} {B B' m m' : List Addr} {S S' : Store} {H H' : Hp}
/-! ### cells that a call is not shown -/
theorem mem_td {k : Nat} {a : Addr} (h : a ∈ m) : a ∈ m.take k ∨ a ∈ m.drop k := by
  rw [← List.take_append_drop k m] at h
  exact List.mem_append.mp h
mutual
theorem RelD.hide (k : Nat) : ∀ {d : D} {v : V}, RelD K B m H d v → D.top d ≤ k → RelD K (B ++ m.drop k) (m.take k) H d v
  | _, _, .non, _ => .non
  | _, _, .bl b, _ => .bl b
  | _, _, .int i, _ => .int i
  | _, _, .str x h, _ => .str x h
  | _, _, .tup q r, f => .tup (q.imp (fun h => ⟨h.1, fun z => h.2 (List.mem_of_mem_take z)⟩) id) (RelDs.hide k r f)
  | _, _, .lst q r, f => .lst ⟨q.1, fun z => (List.mem_append.mp z).elim q.2.1 (fun y => q.2.2 (List.mem_of_mem_drop y)), fun z => q.2.2 (List.mem_of_mem_take z)⟩ (RelDs.hide k r f)
  | _, _, .ro q r, f => .ro (q.imp (fun h => ⟨h.1, fun z => (List.mem_append.mp z).elim h.2.1 (fun y => h.2.2 (List.mem_of_mem_drop y)), fun z => h.2.2 (List.mem_of_mem_take z)⟩) id) (RelDs.hide k r f)
  | .cell n, _, .cell e, f => .cell (by rw [List.getElem?_take_of_lt (show n < k from f)]; exact e)
theorem RelDs.hide (k : Nat) : ∀ {ds : List D} {vs : List V}, RelDs K B m H ds vs → D.tops ds ≤ k → RelDs K (B ++ m.drop k) (m.take k) H ds vs
  | _, _, .nil, _ => .nil
  | d :: ds, _, .cons r s, f => by
    have f : max (D.top d) (D.tops ds) ≤ k := f
    exact .cons (RelD.hide k r (by omega)) (RelDs.hide k s (by omega))
end
mutual
theorem RelD.show {k : Nat} (hm : ∀ a ∈ m, ∀ vs, ¬ Rd H a (.tup vs)) : ∀ {d : D} {v : V}, RelD K (B ++ m.drop k) (m.take k) H d v → RelD K B m H d v
  | _, _, .non => .non
  | _, _, .bl b => .bl b
  | _, _, .int i => .int i
  | _, _, .str x h => .str x h
  | _, _, .tup q r => .tup (q.imp (fun h => ⟨h.1, fun z => hm _ z _ h.1⟩) id) (RelDs.show hm r)
  | _, _, .lst q r => .lst ⟨q.1, fun z => q.2.1 (List.mem_append_left _ z), fun z => (mem_td z).elim q.2.2 fun y => q.2.1 (List.mem_append_right _ y)⟩ (RelDs.show hm r)
  | _, _, .ro q r => .ro (q.imp (fun h => ⟨h.1, fun z => h.2.1 (List.mem_append_left _ z), fun z => (mem_td z).elim h.2.2 fun y => h.2.1 (List.mem_append_right _ y)⟩) id) (RelDs.show hm r)
  | .cell n, _, .cell e => .cell (by
      rw [List.getElem?_take] at e
      split at e
      · exact e
      · cases e)
theorem RelDs.show {k : Nat} (hm : ∀ a ∈ m, ∀ vs, ¬ Rd H a (.tup vs)) : ∀ {ds : List D} {vs : List V}, RelDs K (B ++ m.drop k) (m.take k) H ds vs → RelDs K B m H ds vs
  | _, _, .nil => .nil
  | _, _, .cons r s => .cons (RelD.show hm r) (RelDs.show hm s)
end
theorem At.notup (t : At K B m S H) : ∀ a ∈ m, ∀ vs, ¬ Rd H a (.tup vs) := fun a ha vs h => by
  obtain ⟨us, e⟩ := t.mlive ha
  rcases h with h | ⟨o, h⟩ <;> rw [e] at h <;> cases h
theorem CRel.hide {c : Cell} {a : Addr} (k : Nat) (h : CRel K B m H c a) (f : Cell.topB k c = true) : CRel K (B ++ m.drop k) (m.take k) H c a := by
  cases c with
  | lst ds =>
    obtain ⟨vs, e, r⟩ := h
    exact ⟨vs, e, r.hide k (of_decide_eq_true f)⟩
theorem CRel.show {c : Cell} {a : Addr} {k : Nat} (hm : ∀ a ∈ m, ∀ vs, ¬ Rd H a (.tup vs)) (h : CRel K (B ++ m.drop k) (m.take k) H c a) : CRel K B m H c a := by
  cases c with
  | lst ds =>
    obtain ⟨vs, e, r⟩ := h
    exact ⟨vs, e, RelDs.show hm r⟩
/-- what stays as it was -/
theorem CRel.stay {c : Cell} {a : Addr} (h : CRel K B m H c a) (tr : Tr K B m B m H H') (k : ∀ u, H a = some u → H' a = some u) : CRel K B m H' c a := by
  cases c with
  | lst ds =>
    obtain ⟨vs, e, r⟩ := h
    exact ⟨vs, k _ e, r.tr tr⟩
theorem At.hide (t : At K B m S H) (k : Nat) (h : (S.take k).all (Cell.topB k) = true) : At K (B ++ m.drop k) (m.take k) (S.take k) H := by
  have nd : ((B ++ m.drop k) ++ m.take k).Nodup := by
    have p : ((B ++ m.drop k) ++ m.take k).Perm (B ++ m) := by
      rw [List.append_assoc]
      refine List.Perm.append_left B (List.perm_append_comm.trans ?_)
      rw [List.take_append_drop]
    exact p.nodup_iff.mpr t.nd
  refine ⟨by rw [List.length_take, List.length_take, t.len], nd, fun a ha => ?_, fun i c a hc ha => ?_⟩
  · rcases List.mem_append.mp ha with h | h
    · exact t.live a h
    · obtain ⟨vs, e⟩ := t.mlive (List.mem_of_mem_drop h)
      rw [e]; exact fun w => (nomatch w)
  · have hm := List.all_eq_true.mp h c (List.mem_of_getElem? hc)
    rw [List.getElem?_take] at hc ha
    split at hc
    · rename_i q
      rw [if_pos q] at ha
      exact (t.cells i c a hc ha).hide k hm
    · cases hc
theorem At.whole (t : At K B m S H) : At K (B ++ m.drop S.length) (m.take S.length) (S.take S.length) H := by
  rw [t.len, List.drop_length, List.take_length, List.append_nil, ← t.len, List.take_length]
  exact t
/-- behind a run that was shown k cells: S2 these cells -/
theorem At.after (t : At K B m S H) {k : Nat} (hk : k ≤ m.length) {S2 : Store} (l : Le (m.take k) m' H H') (t2 : At K (B ++ m.drop k) (m.take k) S2 H') : Le m m H H' ∧ At K B m (S2 ++ S.drop k) H' := by
  have kp : ∀ a o, H a = some o → a ∉ m.take k → H' a = some o := fun a o e n => l.keep a o e n
  have l2 : Le m m H H' := ⟨⟨[], by simp, fun _ z => by cases z⟩, fun a o e n => kp a o e fun z => n (List.mem_of_mem_take z)⟩
  have nd := List.nodup_append.mp t.nd
  have ndm : (m.take k ++ m.drop k).Nodup := by rw [List.take_append_drop]; exact nd.2.1
  have dis : ∀ a ∈ m.drop k, a ∉ m.take k := fun a ha z => (List.nodup_append.mp ndm).2.2 a z a ha rfl
  have hlen : S2.length = k := by rw [t2.len, List.length_take]; omega
  have nt : ∀ a ∈ m, ∀ vs, ¬ Rd H' a (.tup vs) := fun a ha vs h => by
    rcases mem_td (k := k) ha with z | z
    · exact t2.notup a z vs h
    · obtain ⟨us, e⟩ := t.mlive ha
      have e2 := kp a _ e (dis a z)
      rcases h with h | ⟨o, h⟩ <;> rw [e2] at h <;> cases h
  refine ⟨l2, by rw [List.length_append, hlen, List.length_drop, t.len]; omega, t.nd, fun a ha => t2.live a (List.mem_append_left _ ha), fun i c a hc ha => ?_⟩
  by_cases hi : i < k
  · rw [List.getElem?_append_left (by omega)] at hc
    exact (t2.cells i c a hc (by rw [List.getElem?_take_of_lt hi]; exact ha)).show nt
  · rw [List.getElem?_append_right (by omega), hlen, List.getElem?_drop, show k + (i - k) = i by omega] at hc
    have hd : a ∈ m.drop k := List.mem_of_getElem? (i := i - k) (by rw [List.getElem?_drop, show k + (i - k) = i by omega]; exact ha)
    exact (t.cells i c a hc ha).stay (l2.tr t) fun u e => kp a u e (dis a hd)
/-! ### the own cells are let go -/
section
variable {r : List Addr} (t : At K B (m ++ r) S' H')
include t
mutual
theorem RelD.sub (g : Nat → Option D) (hg : ∀ n a d', (m ++ r)[n]? = some a → g n = some d' → RelD K B m H' d' (.ref a)) : ∀ {d d' : D} {v : V}, RelD K B (m ++ r) H' d v → D.sub g d = some d' → RelD K B m H' d' v
  | _, d', _, .non, e => by cases e; exact .non
  | _, d', _, .bl b, e => by cases e; exact .bl b
  | _, d', _, .int i, e => by cases e; exact .int i
  | _, d', _, .str x h, e => by cases e; exact .str x h
  | .tup ds, d', _, .tup q rs, e => by
    have e : (D.subs g ds).map .tup = some d' := e
    cases h : D.subs g ds with
    | none => rw [h] at e; cases e
    | some ds' =>
      rw [h] at e; cases e
      exact .tup (q.imp (fun h => ⟨h.1, fun z => h.2 (List.mem_append_left _ z)⟩) id) (RelDs.sub g hg rs h)
  | .lst ds, d', _, .lst q rs, e => by
    have e : (D.subs g ds).map .lst = some d' := e
    cases h : D.subs g ds with
    | none => rw [h] at e; cases e
    | some ds' =>
      rw [h] at e; cases e
      exact .lst ⟨q.1, q.2.1, fun z => q.2.2 (List.mem_append_left _ z)⟩ (RelDs.sub g hg rs h)
  | .ro ds, d', _, .ro q rs, e => by
    have e : (D.subs g ds).map .ro = some d' := e
    cases h : D.subs g ds with
    | none => rw [h] at e; cases e
    | some ds' =>
      rw [h] at e; cases e
      exact .ro (q.imp (fun h => ⟨h.1, h.2.1, fun z => h.2.2 (List.mem_append_left _ z)⟩) id) (RelDs.sub g hg rs h)
  | .cell n, d', _, .cell e1, e => hg _ _ _ e1 e
theorem RelDs.sub (g : Nat → Option D) (hg : ∀ n a d', (m ++ r)[n]? = some a → g n = some d' → RelD K B m H' d' (.ref a)) : ∀ {ds ds' : List D} {vs : List V}, RelDs K B (m ++ r) H' ds vs → D.subs g ds = some ds' → RelDs K B m H' ds' vs
  | _, _, _, .nil, e => by cases e; exact .nil
  | d :: ds, _, _, .cons r1 s, e => by
    unfold D.subs at e
    cases h1 : D.sub g d with
    | none => simp only [h1] at e; cases e
    | some d' =>
      cases h2 : D.subs g ds with
      | none => simp only [h1, h2] at e; cases e
      | some ds' =>
        simp only [h1, h2] at e
        cases e
        exact .cons (RelD.sub g hg r1 h1) (RelDs.sub g hg s h2)
end
omit t in
theorem mapM_rel {f : D → Option D} (hf : ∀ d d' v, RelD K B (m ++ r) H' d v → f d = some d' → RelD K B m H' d' v) : ∀ {ds ds' : List D} {vs : List V}, RelDs K B (m ++ r) H' ds vs → ds.mapM f = some ds' → RelDs K B m H' ds' vs
  | _, _, _, .nil, e => by cases e; exact .nil
  | d :: ds, ds', _, .cons r1 s, e => by
    rw [List.mapM_cons] at e
    cases h1 : f d with
    | none => rw [h1] at e; cases e
    | some d1 =>
      cases h2 : ds.mapM f with
      | none => rw [h1, h2] at e; cases e
      | some ds1 =>
        rw [h1, h2] at e
        cases e
        exact .cons (hf _ _ _ r1 h1) (mapM_rel hf s h2)
theorem cell_low {n : Nat} {a : Addr} (h : (m ++ r)[n]? = some a) (hn : n < m.length) : m[n]? = some a := by
  rw [List.getElem?_append_left hn] at h; exact h
theorem cell_high {n : Nat} {a : Addr} (h : (m ++ r)[n]? = some a) (hn : ¬ n < m.length) : a ∉ B ∧ a ∉ m := by
  rw [List.getElem?_append_right (by omega)] at h
  have hr := List.mem_of_getElem? h
  have nd := List.nodup_append.mp t.nd
  have nd2 := List.nodup_append.mp nd.2.1
  exact ⟨fun z => nd.2.2 a z a (List.mem_append_right _ hr) rfl, fun z => nd2.2.2 a z a hr rfl⟩
theorem frz_rel : ∀ (l : Nat) {d d' : D} {v : V}, RelD K B (m ++ r) H' d v → frz m.length S' l d = some d' → RelD K B m H' d' v
  | 0, d, d', v, rd, e => RelD.sub t _ (fun n a d2 h1 h2 => by
      by_cases hn : n < m.length
      · simp only [hn, if_true] at h2
        cases h2
        exact .cell (cell_low t h1 hn)
      · simp only [hn, if_false] at h2; cases h2) rd e
  | l + 1, d, d', v, rd, e => RelD.sub t _ (fun n a d2 h1 h2 => by
      by_cases hn : n < m.length
      · simp only [hn, if_true] at h2
        cases h2
        exact .cell (cell_low t h1 hn)
      · simp only [hn, if_false] at h2
        cases q : S'[n]? with
        | none => simp only [q] at h2; cases h2
        | some c =>
          cases c with
          | lst xs =>
            simp only [q] at h2
            cases q2 : xs.mapM (frz m.length S' l) with
            | none => rw [q2] at h2; cases h2
            | some ys =>
              rw [q2] at h2
              cases h2
              obtain ⟨vs, hv, rs⟩ := t.cells n _ a q h1
              obtain ⟨n1, n2⟩ := cell_high t h1 hn
              exact .lst ⟨hv, n1, n2⟩ (mapM_rel (fun d d' v => frz_rel l) rs q2)) rd e
theorem frzs_rel (l : Nat) {ds ds' : List D} {vs : List V} (rs : RelDs K B (m ++ r) H' ds vs) (e : ds.mapM (frz m.length S' l) = some ds') : RelDs K B m H' ds' vs := mapM_rel (fun d d' v => frz_rel t l) rs e
omit t in
theorem mapM_get {α β : Type} {f : α → Option β} : ∀ {xs : List α} {ys : List β}, xs.mapM f = some ys → xs.length = ys.length ∧ ∀ (i : Nat) (y : β), ys[i]? = some y → ∃ x, xs[i]? = some x ∧ f x = some y
  | [], ys, e => by cases e; exact ⟨rfl, fun i y h => by simp at h⟩
  | x :: xs, ys, e => by
    rw [List.mapM_cons] at e
    cases h1 : f x with
    | none => rw [h1] at e; cases e
    | some y1 =>
      cases h2 : xs.mapM f with
      | none => rw [h1, h2] at e; cases e
      | some ys1 =>
        rw [h1, h2] at e
        cases e
        obtain ⟨hl, hi⟩ := mapM_get h2
        refine ⟨by simp [hl], fun i y h => ?_⟩
        cases i with
        | zero => simp at h; subst h; exact ⟨x, rfl, h1⟩
        | succ i => exact hi i y (by simpa using h)
theorem frzS_at {S'' : Store} (e : frzS m.length S' = some S'') : At K B m S'' H' := by
  have e : (S'.take m.length).mapM (frzC m.length S') = some S'' := e
  obtain ⟨hl, hi⟩ := mapM_get e
  have hlen : S'.length = m.length + r.length := by rw [t.len, List.length_append]
  refine ⟨by rw [← hl, List.length_take]; omega, ?_, t.live, fun i c a hc ha => ?_⟩
  · have nd := List.nodup_append.mp t.nd
    have nd2 := List.nodup_append.mp nd.2.1
    exact List.nodup_append.mpr ⟨nd.1, nd2.1, fun a ha b hb => nd.2.2 a ha b (List.mem_append_left _ hb)⟩
  · obtain ⟨c0, h0, hf⟩ := hi i c hc
    have hlt : i < m.length := (List.getElem?_eq_some_iff.mp ha).1
    rw [List.getElem?_take_of_lt hlt] at h0
    cases c0 with
    | lst xs =>
      have hf : (xs.mapM (frz m.length S' 4)).map Cell.lst = some c := hf
      cases q : xs.mapM (frz m.length S' 4) with
      | none => rw [q] at hf; cases hf
      | some ys =>
        rw [q] at hf
        cases hf
        obtain ⟨vs, hv, rs⟩ := t.cells i _ a h0 (by rw [List.getElem?_append_left hlt]; exact ha)
        exact ⟨vs, hv, frzs_rel t 4 rs q⟩
end
theorem Le.cutR {r : List Addr} (t : At K B m S H) (l : Le m (m ++ r) H H') : Le m m H H' := ⟨⟨[], by simp, fun _ z => by cases z⟩, l.keep⟩
end
/-! ### a def -/
section
variable {K : Fg} {Z : Xt}
theorem start_of {B m : List Addr} {H : Hp} {N : List Str} {fn : Fn} {ds : List D} {vs : List V} (hl : fn.nl = N.length) (hd : ds.length = fn.np) (r : RelDs K B m H ds vs) :
    RelE K B m H (ds.map some ++ List.replicate (fn.nl - fn.np) none) (L2.start N vs) := by
  have h := start_rel r (N := N)
  rw [hl, ← hd]
  exact h
/-- the ends of a def's body -/
def endsOf (Q : VK) : Ends := { nx := fun _ H' => Q .non H', rt := Q }
theorem run_rel {C : Cf} {fn : Fn} {N : List Str} {B m : List Addr} {S : Store} {H : Hp} {ds : List D} {vs : List V} {Q : VK} {E : XK} (hl : fn.nl = N.length) (hd : ds.length = fn.np) (t : At K B m S H) (r : RelDs K B m H ds vs)
    (h : FinG K Z B m H E (runFn C fn ds S) (fun d S' m' H' => ∀ v, RelD K B m' H' d v → Q v H')) : Ss K Z C (fun cls dd _ H' => E cls dd H') fn.body (endsOf Q) (L2.start N vs) H := by
  refine ⟨B, m, S, ds.map some ++ List.replicate (fn.nl - fn.np) none, t, start_of hl hd r, ?_⟩
  unfold runFn at h
  cases q : exS C fn.body (ds.map some ++ List.replicate (fn.nl - fn.np) none) S with
  | bad => simp only [q] at h; exact h
  | exc c as S1 =>
    simp only [q] at h
    exact h.elim
  | ok f S1 =>
    simp only [q] at h
    intro m1 H1 l1 t1
    cases f with
    | nx δ' => exact fun σ' _ => h m1 H1 l1 t1 .non .non
    | rt d => exact fun v rv => h m1 H1 l1 t1 v rv
    | bk δ' => exact h.elim
    | ct δ' => exact h.elim
    | xc c as δ' => exact fun σ' cls dd _ x => h cls dd m1 H1 l1 t1 x
theorem ExRel.mapD {B m B' m' : List Addr} {H : Hp} {c : Nat} {as as' : List D} {cls : Value} {dd : Option Addr} (x : ExRel K Z B m H c as cls dd) (h : ∀ vs, RelDs K B m H as vs → RelDs K B' m' H as' vs) : ExRel K Z B' m' H c as' cls dd := by
  obtain ⟨C, fns, p, fs, vs, h1, h2, h3, h4, h5, h6, h7⟩ := x
  exact ⟨C, fns, p, fs, vs, h1, h2, h3, h4, h vs h5, h6, h7⟩
theorem call_rel {C : Cf} {fn : Fn} {N : List Str} {B m : List Addr} {S : Store} {H : Hp} {ds : List D} {vs : List V} {Q : VK} {E : XK} (hl : fn.nl = N.length) (hd : ds.length = fn.np) (t : At K B m S H) (r : RelDs K B m H ds vs)
    (h : FinG K Z B m H E (callFn C fn ds S) (fun d S' m' H' => ∀ v, RelD K B m' H' d v → Q v H')) : Ss K Z C (fun cls dd _ H' => E cls dd H') fn.body (endsOf Q) (L2.start N vs) H := by
  unfold callFn at h
  by_cases hk : fn.keep = true
  · rw [if_pos hk] at h
    exact run_rel hl hd t r h
  rw [if_neg hk] at h
  generalize hkk : shown ds S = k at h
  have hle : k ≤ m.length := by
    rw [← hkk]; unfold shown
    split
    · rename_i c; rw [← t.len]; exact c.1
    · rw [t.len]; exact Nat.le_refl _
  obtain ⟨th, rh⟩ : At K (B ++ m.drop k) (m.take k) (S.take k) H ∧ RelDs K (B ++ m.drop k) (m.take k) H ds vs := by
    unfold shown at hkk
    split at hkk
    · rename_i c
      subst hkk
      exact ⟨t.hide _ c.2, r.hide _ (Nat.le_refl _)⟩
    · subst hkk
      refine ⟨t.whole, ?_⟩
      rw [t.len, List.drop_length, List.take_length, List.append_nil]
      exact r
  have hlk : (m.take k).length = k := by rw [List.length_take]; omega
  refine run_rel hl hd th rh ?_
  cases q : runFn C fn ds (S.take k) with
  | bad => simp only [q] at h; exact h
  | ok d S1 =>
    simp only [q] at h
    intro m1 H1 l1 t1 v rv
    obtain ⟨r1, rfl, hr⟩ := l1.pre
    cases q2 : frz k S1 4 d with
    | none => simp only [q2] at h; exact False.elim h
    | some d' =>
      cases q3 : frzS k S1 with
      | none => simp only [q2, q3] at h; exact False.elim h
      | some S2 =>
        simp only [q2, q3] at h
        rw [← hlk] at q2 q3
        have t2 := frzS_at t1 q3
        obtain ⟨l3, t3⟩ := t.after hle l1 t2
        exact h m H1 l3 t3 v (RelD.show t3.notup (frz_rel t1 4 rv q2))
  | exc c as S1 =>
    simp only [q] at h
    intro cls dd m1 H1 l1 t1 x
    obtain ⟨r1, rfl, hr⟩ := l1.pre
    cases q2 : as.mapM (frz k S1 4) with
    | none => simp only [q2] at h; exact False.elim h
    | some as' =>
      cases q3 : frzS k S1 with
      | none => simp only [q2, q3] at h; exact False.elim h
      | some S2 =>
        simp only [q2, q3] at h
        rw [← hlk] at q2 q3
        have t2 := frzS_at t1 q3
        obtain ⟨l3, t3⟩ := t.after hle l1 t2
        exact h cls dd m H1 l3 t3 (x.mapD fun vs rs => RelDs.show t3.notup (frzs_rel t1 4 rs q2))
end
/-! ### what holds of a def's body's context -/
structure Gd (P : Program) (w : World) (K : Fg) (mg : Str → Option Value) (base : Heap) (N : List Str) (sc : Scope) (fnk : Str → Bool) (l : Nat) (W : WX) (X : Cx) : Prop where
  prog : X.prog = P
  w : X.w = w
  K : X.K = K
  mg : X.mg = mg
  base : X.base = base
  calm : X.calm = true
  N : X.N = N
  sc : X.env.scope = sc
  fn : X.fn = fnk
  room : Room l X.A
  tk : ∀ σ, PassesAt (L2.CX X.prog X.w) X σ (fun cls d H => W cls d σ H)
  tks : Takes X W
  stk : X.stack = X.env :: X.outer
  frm : X.env.frame = some X.env.locals
/-- a def from its body's walk -/
theorem fun_lv {P : Program} {w : World} {K : Fg} {Z : Xt} {mg : Str → Option Value} {base : Heap} {x qual : Str} {params : Arguments} {body : List Stmt} {scope : Scope} {fa : Addr} {fd : FuncData} {N ps : List Str} {C : Cf} {fn : Fn} {l : Nat} {dvs : List V}
    (F : FunD K x qual params body scope dvs [] fa fd) (Sc : FnScope N ps scope) (hn : ps.length = fn.np) (hl : fn.nl = N.length)
    (hb : ∀ X W, Gd P w K mg base N scope (fun _ => true) l W X → PassesOwn (model X.prog X.w) X.A X.env X.xe → PSs X body (Ss X.K Z C W fn.body)) :
    FnOk P w K mg base (L2.CX P w) (l + 1) fa fd ps (spF K Z fun xs => if xs.length = fn.np then callFn C fn xs else M.bad) := by
  refine F.ok Sc (fun vs H Q E ⟨B, m, S, ds, t, r, h⟩ => ?_) fun cdv A outer s H vs Q E hr ⟨B, m, S, ds, t, r, h⟩ => ?_
  · by_cases hz : ds.length = fn.np
    · rw [← r.len, hz, hn]
    · dsimp only at h
      rw [if_neg hz] at h; exact False.elim h
  · dsimp only at h
    by_cases hz : ds.length = fn.np
    · rw [if_pos hz] at h
      have tk := takes_of (X := cxOf (L2.CX P w) P w K mg base N qual scope fa cdv A outer s H E) rfl rfl rfl rfl
      exact ⟨_, hb (cxOf (L2.CX P w) P w K mg base N qual scope fa cdv A outer s H E) (fun cls dd _ H' => E cls dd H') ⟨rfl, rfl, rfl, rfl, rfl, rfl, rfl, rfl, rfl, hr, fun σ => passAt tk σ, tk, rfl, rfl⟩ (passes_of rfl), call_rel hl hz t r h⟩
    · rw [if_neg hz] at h; exact False.elim h
end Fb
set_option Elab.async false
set_option linter.all false
set_option maxRecDepth 100000
set_option maxHeartbeats 4000000
/-! Fb13: the checker: the IR against the model's syntax; what it passes is read as the evaluator has it. -/
namespace Fb
open PySem PySem.Spec PyProof.Rows L2
mutual
def D.same : D → D → Bool
  | .non, .non => true
  | .bl a, .bl b => a == b
  | .int a, .int b => a == b
  | .str a, .str b => a == b
  | .tup a, .tup b => D.sames a b
  | .lst a, .lst b => D.sames a b
  | .ro a, .ro b => D.sames a b
  | .cell a, .cell b => a == b
  | _, _ => false
def D.sames : List D → List D → Bool
  | [], [] => true
  | x :: xs, y :: ys => D.same x y && D.sames xs ys
  | _, _ => false
end
mutual
theorem same_eq : ∀ {a b : D}, D.same a b = true → a = b
  | .non, b, h => by cases b <;> first | rfl | cases h
  | .bl a, b, h => by cases b <;> first | (cases h; done) | exact congrArg D.bl (eq_of_beq h)
  | .int a, b, h => by cases b <;> first | (cases h; done) | exact congrArg D.int (eq_of_beq h)
  | .str a, b, h => by cases b <;> first | (cases h; done) | exact congrArg D.str (eq_of_beq h)
  | .tup a, b, h => by cases b <;> first | (cases h; done) | exact congrArg D.tup (sames_eq h)
  | .lst a, b, h => by cases b <;> first | (cases h; done) | exact congrArg D.lst (sames_eq h)
  | .ro a, b, h => by cases b <;> first | (cases h; done) | exact congrArg D.ro (sames_eq h)
  | .cell a, b, h => by cases b <;> first | (cases h; done) | exact congrArg D.cell (eq_of_beq h)
theorem sames_eq : ∀ {a b : List D}, D.sames a b = true → a = b
  | [], b, h => by cases b <;> first | rfl | cases h
  | x :: xs, [], h => by cases h
  | x :: xs, y :: ys, h => by
    have h2 := Bool.and_eq_true_iff.mp (show (D.same x y && D.sames xs ys) = true from h)
    rw [same_eq h2.1, sames_eq h2.2]
end
structure CC where
  N : List Str
  sc : Scope
  fn : Str → Bool
  gn : List Str
  cs : List (Str × D)
  fr : List Str
  /-- calls with defaults: a def, what is added -/
  db : List (Nat × List D) := []
  /-- calls with keywords: a def, how many positional values, the names, their order -/
  kb : List (Nat × Nat × List Str × List Nat) := []
  /-- exception classes and their fields -/
  xt : List (Str × List Str) := []
  /-- except clauses: the names, the classes they take -/
  ht : List (List Str × List Nat) := []
def CC.blk (c : CC) (scope : Scope) : CC := { c with sc := relS scope c.sc, fn := fun x => scope.names.lookup x == some .cell }
def visB (sc : Scope) (x : Str) : Bool := match sc.names.lookup x with
  | some .local => true
  | some .cell => true
  | some .free => true
  | _ => false
def locB (sc : Scope) (x : Str) : Bool := match sc.names.lookup x with
  | some .local => true
  | some .cell => true
  | _ => false
def plB (sc : Scope) (x : Str) : Bool := match sc.names.lookup x with
  | some .local => true
  | _ => false
def glB (sc : Scope) (x : Str) : Bool := match sc.names.lookup x with
  | some .globalImplicit => true
  | _ => false
theorem vis_of {sc : Scope} {x : Str} (h : visB sc x = true) : Vis sc x := by
  unfold visB at h
  unfold Vis
  split at h <;> simp_all
theorem loc_of {sc : Scope} {x : Str} (h : locB sc x = true) : L2.Loc sc x := by
  unfold locB at h
  unfold L2.Loc
  split at h <;> simp_all
theorem pl_of {sc : Scope} {x : Str} (h : plB sc x = true) : sc.names.lookup x = some .local := by
  unfold plB at h
  split at h <;> simp_all
theorem gl_of {sc : Scope} {x : Str} (h : glB sc x = true) : sc.names.lookup x = some .globalImplicit := by
  unfold glB at h
  split at h <;> simp_all
def frB (c : CC) (x : Str) : Bool := glB c.sc x && decide (x ∈ c.fr)
def nameB (c : CC) (i : Nat) (x : Str) : Bool := decide (c.N[i]? = some x) && locB c.sc x && (c.fn x || plB c.sc x)
def dsB (f : Nat) (ds : List D) : List (Nat × List D) → Bool
  | [] => false
  | (g, es) :: r => (decide (f = g) && D.sames ds es) || dsB f ds r
theorem ds_of {f : Nat} {ds : List D} : ∀ {l : List (Nat × List D)}, dsB f ds l = true → (f, ds) ∈ l
  | [], h => by cases h
  | (g, es) :: r, h => by
    rcases Bool.or_eq_true_iff.mp (show ((decide (f = g) && D.sames ds es) || dsB f ds r) = true from h) with h | h
    · have h2 := Bool.and_eq_true_iff.mp h
      have e1 := of_decide_eq_true h2.1
      have e2 := sames_eq h2.2
      subst e1; subst e2
      exact List.mem_cons_self
    · exact List.mem_cons_of_mem _ (ds_of h)
def csB (x : Str) (d : D) : List (Str × D) → Bool
  | [] => false
  | (y, e) :: r => (decide (x = y) && D.same d e) || csB x d r
theorem cs_of {x : Str} {d : D} : ∀ {l : List (Str × D)}, csB x d l = true → (x, d) ∈ l
  | [], h => by cases h
  | (y, e) :: r, h => by
    rcases Bool.or_eq_true_iff.mp (show ((decide (x = y) && D.same d e) || csB x d r) = true from h) with h | h
    · have h2 := Bool.and_eq_true_iff.mp h
      have e1 := of_decide_eq_true h2.1
      have e2 := same_eq h2.2
      subst e1; subst e2
      exact List.mem_cons_self
    · exact List.mem_cons_of_mem _ (cs_of h)
def opB : Bo → Operator → Bool
  | .add, .Add => true | .sub, .Sub => true | .mul, .Mult => true | .mod, .Mod => true | .fdiv, .FloorDiv => true | .pow, .Pow => true | .shl, .LShift => true | _, _ => false
theorem op_of {o : Bo} {p : Operator} (h : opB o p = true) : p = boOf o := by cases o <;> cases p <;> first | rfl | cases h
def coB : Co → CmpOp → Bool
  | .eq, .Eq => true | .ne, .NotEq => true | .lt, .Lt => true | .le, .LtE => true | .gt, .Gt => true | .ge, .GtE => true | .isIn, .In => true | .notIn, .NotIn => true | _, _ => false
theorem co_of {o : Co} {p : CmpOp} (h : coB o p = true) : p = coOf o := by cases o <;> cases p <;> first | rfl | cases h
/-- no slice: a plain subscript -/
def plainIxB : Expr → Bool
  | .Slice .. => false
  | _ => true
theorem plainIx_of {b : Expr} (h : plainIxB b = true) : PlainIx b := by
  intro o i
  cases b <;> first | rfl | cases h
def notSet : Expr → Bool
  | .Set .. => false
  | _ => true
theorem notSet_of {e : Expr} {env : Env} (h : notSet e = true) (x : Value) : foldedSetIterable e env x = pure x := by cases e <;> first | rfl | cases h
/-- names one behind another -/
def nmOf : List Expr → Option (List (Str × Pos))
  | [] => some []
  | .Name x p :: r => (nmOf r).map ((x, p) :: ·)
  | _ => none
theorem nm_of : ∀ {es : List Expr} {xs : List (Str × Pos)}, nmOf es = some xs → es = nmEs xs
  | [], xs, h => by cases h; rfl
  | e :: r, xs, h => by
    cases e with
    | Name x p =>
      have h : (nmOf r).map ((x, p) :: ·) = some xs := h
      cases q : nmOf r with
      | none => rw [q] at h; cases h
      | some ys =>
        rw [q] at h; cases h
        rw [nm_of q]; rfl
    | _ => cases h
def namesB (c : CC) : List Nat → List (Str × Pos) → Bool
  | [], [] => true
  | i :: is, (x, _) :: xs => nameB c i x && namesB c is xs
  | _, _ => false
def patB' (c : CC) (p : Pat) (tg : Expr) : Bool := match p, tg with
  | .nm i, .Name x _ => nameB c i x
  | .tp is, .Tuple es _ _ => (match nmOf es with
    | some xs => namesB c is xs
    | none => false)
  | _, _ => false
def tysB (c : CC) : List Ty → List Expr → Bool
  | [], [] => true
  | y :: ys, .Name x _ :: r => decide (x = Str.ofString (tyS y)) && frB c x && tysB c ys r
  | _, _ => false
/-- the test of a plain expression -/
def plainT : Expr → Bool
  | .UnaryOp .Not _ _ => false
  | .BoolOp .. => false
  | .IfExp .. => false
  | .Compare .. => false
  | _ => true
theorem plainT_of {a : Expr} {env : Env} (h : plainT a = true) (whole : Sem Value) : isTrue a env whole = (do let v ← whole; standAt a.pos; holding [v] (truthy v)) := by
  cases a with
  | UnaryOp op b p => cases op <;> first | rfl | cases h
  | BoolOp => cases h
  | IfExp => cases h
  | Compare => cases h
  | _ => rfl
def ownOk (c : CC) (own : List Nat) (ps : List (Str × Nat)) : Bool := decide (ps.map (fun x => x.2) = own)
def ownPs (c : CC) (own : List Nat) : List (Str × Nat) := own.filterMap fun i => (c.N[i]?).map fun x => (x, i)
def subB (p : Pat) (own : List Nat) : Bool := (patS p).all fun i => decide (i ∈ own)
def isTupE : Expr → Bool
  | .Tuple .. => true
  | _ => false
mutual
def chk : IE → CC → Bool → Expr → Bool
  | .lit d, c, m, e => (match d, e with
    | .int i, .Constant (.int j) _ _ => decide (i = j)
    | .bl b, .Constant (.bool b') _ _ => b == b'
    | .non, .Constant .none _ _ => true
    | .str x, .Constant (.str y) _ _ => decide (y = SO x) && okS x
    | _, _ => false)
  | .glo y d, c, m, e => (match e with
    | .Name x _ => decide (x = SO y) && glB c.sc x && csB x d c.cs && (x == ("__debug__" : Str)) == false
    | _ => false)
  | .var i, c, m, e => (match e with
    | .Name x _ => decide (c.N[i]? = some x) && visB c.sc x && (x == ("__debug__" : Str)) == false && (x == ("__classdict__" : Str)) == false
    | _ => false)
  | .bin o a b, c, m, e => (match e with
    | .BinOp ea op eb _ => opB o op && chk a c false ea && chk b c false eb
    | _ => false)
  | .neg a, c, m, e => (match e with
    | .UnaryOp .USub ea _ => chk a c false ea
    | _ => false)
  | .not a, c, m, e => (match e with
    | .UnaryOp .Not ea _ => chk a c m ea
    | _ => false)
  | .and a b, c, m, e => (match e with
    | .BoolOp .And (ea :: eb :: rest) pos => chk a c m ea && (match rest with
      | [] => chk b c m eb
      | _ => chk b c m (.BoolOp .And (eb :: rest) pos))
    | _ => false)
  | .or a b, c, m, e => (match e with
    | .BoolOp .Or (ea :: eb :: rest) pos => chk a c m ea && (match rest with
      | [] => chk b c m eb
      | _ => chk b c m (.BoolOp .Or (eb :: rest) pos))
    | _ => false)
  | .ite k a b, c, m, e => (match e with
    | .IfExp ek ea eb _ => !m && chk k c true ek && chk a c false ea && chk b c false eb
    | _ => false)
  | .cmp o a b, c, m, e => (match e with
    | .Compare ea [op] [eb] _ => coB o op && !behindInMarks op eb && chk a c false ea && chk b c false eb
    | _ => false)
  | .chn o o' a b d, c, m, e => (match e with
    | .Compare ea [op, op'] [eb, ed] _ => coB o op && coB o' op' && !behindInMarks op' ed && chk a c false ea && chk b c false eb && chk d c false ed
    | _ => false)
  | .tup es, c, m, e => (match e with
    | .Tuple l _ _ => chkA es c l
    | _ => false)
  | .lst es, c, m, e => (match e with
    | .List l _ => chkA es c l
    | _ => false)
  | .idx a b, c, m, e => (match e with
    | .Subscript ea eb _ => plainIxB eb && chk a c false ea && chk b c false eb
    | _ => false)
  | .sli a lo hi, c, m, e => (match e with
    | .Subscript ea (.Slice l h none _) _ => chk a c false ea && chkP lo c l && chkP hi c h
    | _ => false)
  | .call f es, c, m, e => (match e with
    | .Call (.Name x _) l [] _ => decide (c.gn[f]? = some x) && glB c.sc x && (x == ("__debug__" : Str)) == false && noStars l && chkA es c l
    | _ => false)
  | .blt b es, c, m, e => (match e with
    | .Call (.Name x _) (a :: l) [] _ => decide (x = bltN b) && frB c x && noStars (a :: l) && chkA es c (a :: l)
    | _ => false)
  | .isi a ts, c, m, e => (match e with
    | .Call (.Name x _) [ea, et] [] _ => decide (x = ("isinstance" : Str)) && frB c x && notStar ea && chk a c false ea && (match et with
      | .Name y _ => (match ts with
        | [t] => decide (y = Str.ofString (tyS t)) && frB c y
        | _ => false)
      | .Tuple es _ _ => tysB c ts es && decide (ts.length ≤ 100)
      | _ => false)
    | _ => false)
  | .mth mt a es, c, m, e => (match e with
    | .Call (.Attribute ea nm apos) l [] pos => decide (nm = mtN mt) && baseOk ea && (apos.endLine == pos.line) && chk a c false ea && (match l with
      | [] => mtArgs0 mt && (match es with
        | .nil => true
        | _ => false)
      | e :: r => mtArgs mt && decide (r.length < 28) && noStars (e :: r) && chkA es c (e :: r))
    | _ => false)
  | .comp own p it cc el, c, m, e => (match e with
    | .ListComp elt [⟨tg, iter, ifs, 0⟩] scope _ => blkC c.N c.sc scope (ownPs c own) && ownOk c own (ownPs c own) && subB p own && notSet iter && chkI it c tg iter &&
        patB' (c.blk scope) p tg && chkC cc (c.blk scope) ifs && chk el (c.blk scope) false elt
    | _ => false)
  | .alloc a, c, m, e => !m && isFresh a && chk a c false e
  | .calld f es ds, c, m, e => (match e with
    | .Call (.Name x _) (a :: l) [] _ => decide (c.gn[f]? = some x) && glB c.sc x && (x == ("__debug__" : Str)) == false && noStars (a :: l) && dsB f ds c.db && chkA es c (a :: l)
    | _ => false)
  | .callk f n k es ks perm, c, m, e => (match e with
    | .Call (.Name x _) l kws _ => decide (c.gn[f]? = some x) && glB c.sc x && (x == ("__debug__" : Str)) == false && noStars l && (match kwNames kws with
      | some nms => decide ((f, n, nms, perm) ∈ c.kb) && decide (nms.length = k)
      | none => false) && chkA es c l && chkK ks c kws
    | _ => false)
  | .rev a, c, m, e => (match e with
    | .Subscript ea (.Slice none none (some (.UnaryOp .USub (.Constant (.int i) _ _) _)) _) _ => decide (i = 1) && chk a c false ea
    | _ => false)
  | .srt a, c, m, e => (match e with
    | .Call (.Name x _) [ea] [⟨some y, .Name z _, _⟩] _ => decide (x = ("sorted" : Str)) && frB c x && decide (y = ("key" : Str)) && decide (z = ("len" : Str)) && frB c z && notStar ea && chk a c false ea
    | _ => false)
  | .stp a lo k, c, m, e => (match e with
    | .Subscript ea (.Slice none none (some (.Constant (.int i) _ _)) _) _ => decide (lo = 0) && decide (i = (k : Int)) && decide (1 ≤ k) && chk a c false ea
    | .Subscript ea (.Slice (some (.Constant (.int j) _ _)) none (some (.Constant (.int i) _ _)) _) _ => decide (j = (lo : Int)) && decide (i = (k : Int)) && decide (1 ≤ k) && chk a c false ea
    | _ => false)
  | _, _, _, _ => false
def chkK : IE → CC → List Keyword → Bool
  | .nil, _, l => l.isEmpty
  | .cons a r, c, l => (match l with
    | ⟨_, e, _⟩ :: es => chk a c false e && chkK r c es
    | [] => false)
  | _, _, _ => false
def chkA : IE → CC → List Expr → Bool
  | .nil, _, l => l.isEmpty
  | .cons a r, c, l => (match l with
    | e :: es => notStar e && chk a c false e && chkA r c es
    | [] => false)
  | _, _, _ => false
def chkP : IE → CC → Option Expr → Bool
  | .nil, _, o => o.isNone
  | .cons a _, c, o => (match o with
    | some e => chk a c false e
    | none => false)
  | _, _, _ => false
def chkC : IE → CC → List Expr → Bool
  | .nil, _, l => l.isEmpty
  | .cons a _, c, l => (match l with
    | [e] => chk a c true e
    | _ => false)
  | _, _, _ => false
def chkI : IE → CC → Expr → Expr → Bool
  | .rng1 a, c, _, e => (match e with
    | .Call (.Name x _) [ea] [] _ => decide (x = ("range" : Str)) && frB c x && notStar ea && chk a c false ea
    | _ => false)
  | .rng3 a b k, c, _, e => (match e with
    | .Call (.Name x _) [ea, eb, .Constant (.int i) _ _] [] _ => decide (x = ("range" : Str)) && frB c x && notStar ea && notStar eb && decide (i = (k : Int)) && chk a c false ea && chk b c false eb
    | _ => false)
  | .enum a, c, tg, e => (match e with
    | .Call (.Name x _) [ea] [] _ => decide (x = ("enumerate" : Str)) && frB c x && notStar ea && isTupE tg && chk a c false ea
    | _ => false)
  | .zip a b, c, tg, e => (match e with
    | .Call (.Name x _) [ea, eb] [] _ => decide (x = ("zip" : Str)) && frB c x && notStar ea && notStar eb && isTupE tg && chk a c false ea && chk b c false eb
    | _ => false)
  | .rng2 a b, c, _, e => (match e with
    | .Call (.Name x _) [ea, eb] [] _ => decide (x = ("range" : Str)) && frB c x && notStar ea && notStar eb && chk a c false ea && chk b c false eb
    | _ => false)
  | .cons a _, c, _, e => chk a c false e
  | _, _, _, _ => false
end
end Fb
set_option Elab.async false
set_option linter.all false
set_option maxRecDepth 100000
set_option maxHeartbeats 4000000
/-! Fb14: the checker's word is sound. -/
namespace Fb
open PySem PySem.Spec PyProof.Rows L2
theorem t_chn {X : Cx} {Z : Xt} {C : Cf} {W : WX} {a b c : Expr} {ia ib ic : IE} {pos : Pos} {o o' : Co} (hu : X.A.units + 65 < cLine) (ha : PE X a (Te X.K Z C W ia)) (hb : PE X b (Te X.K Z C W ib)) (hc : PE X c (Te X.K Z C W ic)) (hm : lastMarks [coOf o, coOf o'] [b, c] = false) :
    PT X (.Compare a [coOf o, coOf o'] [b, c] pos) (Tb X.K Z C W (.chn o o' ia ib ic)) :=
  (pt_chain (coOp hu o) (coOp hu o') ha hb hc hm).imp' fun σ H Q ⟨B, m, S, δ, t, e, h⟩ => by
    have h : FinG X.K Z B m H (fun c d h => W c d σ h) (M.bind (M.bind (evE C ia δ) fun x => M.bind (evE C ib δ) fun y => M.bind (cmpM o x y) fun t =>
      if t then M.bind (evE C ic δ) fun z => M.bind (cmpM o' y z) fun t' => M.ret (.bl t') else M.ret (.bl false)) truthM S) (PB Q) := h
    rw [bind_bind] at h
    refine (Mid.start t e).stepE h fun v d S1 m1 H1 l1 M1 r1 _ h1 => ?_
    rw [bind_bind] at h1
    refine M1.stepE h1 fun u d2 S2 m2 H2 l2 M2 r2 _ h2 => ?_
    rw [bind_bind] at h2
    unfold M.bind cmpM at h2
    cases q : cmpD S2 o d d2 with
    | none => rw [q] at h2; exact False.elim h2
    | some z =>
      rw [q] at h2
      refine ⟨B, m2, S2, d, d2, z, M2.t0, M1.val l2 r1, r2, q, z, rfl, ?_⟩
      cases z with
      | false => exact ⟨false, rfl, (M2.here (FinG.ret (show FinG X.K Z B m H _ (M.ret false S2) (PB Q) from h2))).now M2.t0⟩
      | true =>
        rw [if_pos rfl]
        have h2 : FinG X.K Z B m H (fun c d h => W c d σ h) (M.bind (M.bind (evE C ic δ) (fun z => M.bind (cmpM o' d2 z) fun t' => M.ret (.bl t'))) truthM S2) (PB Q) := h2
        rw [bind_bind] at h2
        refine M2.stepE h2 fun x3 d3 S3 m3 H3 l3 M3 r3 _ h3 => ?_
        rw [bind_bind] at h3
        unfold M.bind cmpM at h3
        cases q3 : cmpD S3 o' d2 d3 with
        | none => rw [q3] at h3; exact False.elim h3
        | some z3 =>
          rw [q3] at h3
          exact ⟨B, m3, S3, d2, d3, z3, M3.t0, M2.val l3 r2, r3, q3, z3, rfl, (M3.here (FinG.ret (show FinG X.K Z B m H _ (M.ret z3 S3) (PB Q) from h3))).now M3.t0⟩
/-- what is known of a context -/
structure Gc (Z : Xt) (C : Cf) (c : CC) (W : WX) (X : Cx) : Prop where
  calm : X.calm = true
  nd : X.N.Nodup
  N : X.N = c.N
  sc : X.env.scope = c.sc
  fn : X.fn = c.fn
  un : X.A.units + 65 < cLine
  tk : ∀ σ, PassesAt (L2.CX X.prog X.w) X σ (fun cls d H => W cls d σ H)
  fns : ∀ f x, c.gn[f]? = some x → ∃ k fa fd ps, FnOk X.prog X.w X.K X.mg X.base (L2.CX X.prog X.w) k fa fd ps (spF X.K Z (C.call f)) ∧ Room k X.A ∧ X.mg x = some (.ref fa) ∧ PySem.W.keepIn X.K (.ref fa) = true ∧ Binds X.K fd ps [] ∧
    (∀ ds, (f, ds) ∈ c.db → ∃ dvs dus, Binds X.K fd ps dus ∧ Vals dvs dus ∧ FlatVs ds dvs) ∧ ∀ n ks perm, (f, n, ks, perm) ∈ c.kb → KBn X.K fd ps ks n perm
  csk : ∀ x d, (x, d) ∈ c.cs → ∃ v u, X.mg x = some u ∧ RelV v u ∧ ∀ B m H, (∀ a ∈ m, H a ≠ none) → RelD X.K B m H d v
  fre : ∀ x, x ∈ c.fr → X.mg x = none
section
variable {Z : Xt} {C : Cf} {c : CC} {W : WX} {X : Cx}
theorem Gc.blk (g : Gc Z C c W X) (s : Shared) (H : Hp) (scope : Scope) (cl : List (Str × Addr)) (Cc : Addr) (fp : List Addr) : Gc Z C (c.blk scope) Wf (X.blk s H scope (compEnvC scope cl Cc X.env) fp) :=
  ⟨g.calm, g.nd, g.N, show relS scope X.env.scope = relS scope c.sc by rw [g.sc], rfl, g.un, fun σ => passAt (X := X.blk s H scope (compEnvC scope cl Cc X.env) fp) (W := Wf) takes0 σ, g.fns, g.csk, g.fre⟩
theorem Gc.gl (g : Gc Z C c W X) {x : Str} (h : glB c.sc x = true) : Gl X x := by
  show X.env.scope.names.lookup x = some .globalImplicit
  rw [g.sc]; exact gl_of h
theorem Gc.fr2 (g : Gc Z C c W X) {x : Str} (h : frB c x = true) : Gl X x ∧ X.mg x = none := by
  have h2 := Bool.and_eq_true_iff.mp h
  exact ⟨g.gl h2.1, g.fre x (of_decide_eq_true h2.2)⟩
theorem Gc.name (g : Gc Z C c W X) {i : Nat} {x : Str} (h : nameB c i x = true) : X.N[i]? = some x ∧ L2.Loc X.env.scope x ∧ (X.fn x = true ∨ X.env.scope.names.lookup x = some .local) := by
  unfold nameB at h
  simp only [Bool.and_eq_true, decide_eq_true_eq] at h
  obtain ⟨⟨h1, h2⟩, h3⟩ := h
  rw [g.N, g.sc, g.fn]
  exact ⟨h1, loc_of h2, (Bool.or_eq_true_iff.mp h3).imp id pl_of⟩
theorem Gc.names (g : Gc Z C c W X) : ∀ {is : List Nat} {xs : List (Str × Pos)}, namesB c is xs = true → xs.length = is.length ∧ ∀ q ∈ is.zip xs, X.N[q.1]? = some q.2.1 ∧ L2.Loc X.env.scope q.2.1 ∧ (X.fn q.2.1 = true ∨ X.env.scope.names.lookup q.2.1 = some .local)
  | [], [], _ => ⟨rfl, fun q hq => by simp at hq⟩
  | [], _ :: _, h => by cases h
  | _ :: _, [], h => by cases h
  | i :: is, (x, p) :: xs, h => by
    have h2 := Bool.and_eq_true_iff.mp (show (nameB c i x && namesB c is xs) = true from h)
    obtain ⟨h3, h4⟩ := g.names h2.2
    refine ⟨by simp [h3], fun q hq => ?_⟩
    rcases List.mem_cons.mp hq with e | e
    · rw [e]; exact g.name h2.1
    · exact h4 q e
theorem Gc.pat (g : Gc Z C c W X) {p : Pat} {tg : Expr} (h : patB' c p tg = true) : PG X tg (Tg X.K p) := by
  unfold patB' at h
  split at h
  · obtain ⟨h1, h2, h3⟩ := g.name h
    exact g_name g.nd h1 h2 h3
  · split at h
    · rename_i q
      rw [nm_of q]
      obtain ⟨h1, h2⟩ := g.names h
      exact g_tup g.calm g.nd h1 h2
    · cases h
  · cases h
theorem Gc.tys (g : Gc Z C c W X) : ∀ {ts : List Ty} {es : List Expr}, tysB c ts es = true → ∃ ys : List (Ty × Pos), es = tyNames ys ∧ ys.map (·.1) = ts ∧ ∀ q ∈ ys, Gl X (Str.ofString (tyS q.1)) ∧ X.mg (Str.ofString (tyS q.1)) = none
  | [], [], _ => ⟨[], rfl, rfl, fun q hq => by cases hq⟩
  | [], e :: es, h => by cases h
  | y :: ys, [], h => by cases h
  | y :: ys, e :: es, h => by
    cases e with
    | Name x p =>
      have h : (decide (x = Str.ofString (tyS y)) && frB c x && tysB c ys es) = true := h
      simp only [Bool.and_eq_true, decide_eq_true_eq] at h
      obtain ⟨⟨rfl, h2⟩, h3⟩ := h
      obtain ⟨zs, rfl, h4, h5⟩ := g.tys h3
      refine ⟨(y, p) :: zs, rfl, by simp [h4], fun q hq => ?_⟩
      rcases List.mem_cons.mp hq with e | e
      · rw [e]; exact g.fr2 h2
      · exact h5 q e
    | _ => cases h
theorem pe_bool1 {op : BoolOp} {e : Expr} {pos : Pos} {t : TE} (h : PE X e t) : PE X (.BoolOp op [e] pos) t := ⟨h.run⟩
end
/-- the checker's word on an IR term -/
structure Snd (Z : Xt) (C : Cf) (ie : IE) : Prop where
  e : ∀ (c : CC) (W : WX) (X : Cx) (e : Expr), Gc Z C c W X → chk ie c false e = true → PE X e (Te X.K Z C W ie)
  t : ∀ (c : CC) (W : WX) (X : Cx) (e : Expr), Gc Z C c W X → chk ie c true e = true → PT X e (Tb X.K Z C W ie) ∧ ∀ op l p, e = .BoolOp op l p → PW X e (Tb X.K Z C W ie)
  a : ∀ (c : CC) (W : WX) (X : Cx) (es : List Expr), Gc Z C c W X → chkA ie c es = true → PA X es (Ta X.K Z C W ie)
  p : ∀ (c : CC) (W : WX) (X : Cx) (o : Option Expr), Gc Z C c W X → chkP ie c o = true → PO X o (Tp X.K Z C W ie)
  c : ∀ (c : CC) (W : WX) (X : Cx) (es : List Expr), Gc Z C c W X → chkC ie c es = true → PTs X es (Tc X.K Z C W ie)
  i : ∀ (c : CC) (W : WX) (X : Cx) (e tg : Expr), Gc Z C c W X → chkI ie c tg e = true → PI X tg e (Ti X.K Z C W ie)
  k : ∀ (c : CC) (W : WX) (X : Cx) (es : List Keyword), Gc Z C c W X → chkK ie c es = true → PK X es (Ta X.K Z C W ie)
section
variable {Z : Xt} {C : Cf}
theorem ff {p : Prop} {b : Bool} (h : b = true) (e : b = false) : p := by rw [e] at h; cases h
/-- an expression whose test is that of its value -/
theorem Snd.plain {ie : IE} (he : ∀ (c : CC) (W : WX) (X : Cx) (m : Bool) (e : Expr), Gc Z C c W X → chk ie c m e = true → plainT e = true ∧ PE X e (Te X.K Z C W ie)) (ha : ∀ c l, chkA ie c l = false) (hp : ∀ c l, chkP ie c l = false)
    (hc : ∀ c l, chkC ie c l = false) (hi : ∀ c e, (fun tg => chkI ie c tg e) = fun _ => false) (hk : ∀ c l, chkK ie c l = false := by intros; rfl) : Snd Z C ie :=
  ⟨fun c W X e g h => (he c W X false e g h).2, fun c W X e g h => ⟨s_truth (plainT_of (he c W X true e g h).1) (he c W X true e g h).2, fun op l p z => by
    have h1 := (he c W X true e g h).1
    rw [z] at h1; cases h1⟩, fun c W X l g h => ff h (ha c l), fun c W X l g h => ff h (hp c l), fun c W X l g h => ff h (hc c l), fun c W X e tg g h => ff h (congrFun (hi c e) tg), fun c W X l g h => ff h (hk c l)⟩
theorem snd_lit (d : D) : Snd Z C (.lit d) := Snd.plain (fun c W X m e g h => by
  unfold chk at h
  split at h
  · rename_i i j k p
    rw [← of_decide_eq_true h]
    exact ⟨rfl, s_int⟩
  · rw [← eq_of_beq h]
    exact ⟨rfl, s_bool⟩
  · exact ⟨rfl, s_none⟩
  · have h2 := Bool.and_eq_true_iff.mp h
    rw [of_decide_eq_true h2.1]
    exact ⟨rfl, s_str h2.2⟩
  · cases h) (fun _ _ => rfl) (fun _ _ => rfl) (fun _ _ => rfl) (fun _ _ => rfl)
theorem snd_glo (y : List Nat) (d : D) : Snd Z C (.glo y d) := Snd.plain (fun c W X m e g h => by
  unfold chk at h
  split at h
  · simp only [Bool.and_eq_true, decide_eq_true_eq, beq_iff_eq] at h
    obtain ⟨⟨⟨h1, h2⟩, h3⟩, h4⟩ := h
    obtain ⟨v, u, k1, k2, k3⟩ := g.csk _ _ (cs_of h3)
    exact ⟨rfl, s_glo (g.gl h2) k1 k2 k3 h4⟩
  · cases h) (fun _ _ => rfl) (fun _ _ => rfl) (fun _ _ => rfl) (fun _ _ => rfl)
theorem snd_var (i : Nat) : Snd Z C (.var i) := Snd.plain (fun c W X m e g h => by
  unfold chk at h
  split at h
  · simp only [Bool.and_eq_true, decide_eq_true_eq, beq_iff_eq] at h
    obtain ⟨⟨⟨h1, h2⟩, h3⟩, h4⟩ := h
    exact ⟨rfl, s_var (by rw [g.N]; exact h1) (by rw [g.sc]; exact vis_of h2) h3 h4⟩
  · cases h) (fun _ _ => rfl) (fun _ _ => rfl) (fun _ _ => rfl) (fun _ _ => rfl)
theorem snd_bin {o : Bo} {a b : IE} (sa : Snd Z C a) (sb : Snd Z C b) : Snd Z C (.bin o a b) := Snd.plain (fun c W X m e g h => by
  unfold chk at h
  split at h
  · simp only [Bool.and_eq_true] at h
    obtain ⟨⟨h1, h2⟩, h3⟩ := h
    rw [op_of h1]
    exact ⟨rfl, s_bin (sa.e c W X _ g h2) (sb.e c W X _ g h3)⟩
  · cases h) (fun _ _ => rfl) (fun _ _ => rfl) (fun _ _ => rfl) (fun _ _ => rfl)
theorem snd_neg {a : IE} (sa : Snd Z C a) : Snd Z C (.neg a) := Snd.plain (fun c W X m e g h => by
  unfold chk at h
  split at h
  · exact ⟨rfl, s_neg (sa.e c W X _ g h)⟩
  · cases h) (fun _ _ => rfl) (fun _ _ => rfl) (fun _ _ => rfl) (fun _ _ => rfl)
theorem snd_not {a : IE} (sa : Snd Z C a) : Snd Z C (.not a) := by
  refine ⟨fun c W X e g h => ?_, fun c W X e g h => ?_, fun c W X l g h => ff h rfl, fun c W X l g h => ff h rfl, fun c W X l g h => ff h rfl, fun c W X e tg g h => ff h rfl, fun c W X l g h => ff h rfl⟩
  · unfold chk at h
    split at h
    · exact s_not (sa.e c W X _ g h)
    · cases h
  · unfold chk at h
    split at h
    · exact ⟨t_not (sa.t c W X _ g h).1, fun op l p z => nomatch z⟩
    · cases h
theorem snd_and {a b : IE} (sa : Snd Z C a) (sb : Snd Z C b) : Snd Z C (.and a b) := by
  refine ⟨fun c W X e g h => ?_, fun c W X e g h => ?_, fun c W X l g h => ff h rfl, fun c W X l g h => ff h rfl, fun c W X l g h => ff h rfl, fun c W X e tg g h => ff h rfl, fun c W X l g h => ff h rfl⟩
  · unfold chk at h
    split at h
    · have h2 := Bool.and_eq_true_iff.mp h
      have h3 := h2.2
      split at h3
      · exact s_and (sa.e c W X _ g h2.1) (pe_bool1 (sb.e c W X _ g h3))
      · exact s_and (sa.e c W X _ g h2.1) (sb.e c W X _ g h3)
    · cases h
  · unfold chk at h
    split at h
    · rename_i ea eb rest pos
      have h2 := Bool.and_eq_true_iff.mp h
      have h3 := h2.2
      have k : PW X (.BoolOp .And (ea :: eb :: rest) pos) (Tb X.K Z C W (.and a b)) := by
        split at h3
        · exact t_and (sa.t c W X _ g h2.1).1 (pw_and1 (sb.t c W X _ g h3).1)
        · exact t_and (sa.t c W X _ g h2.1).1 ((sb.t c W X _ g h3).2 _ _ _ rfl)
      exact ⟨k.pt, fun op l p z => k⟩
    · cases h
theorem snd_or {a b : IE} (sa : Snd Z C a) (sb : Snd Z C b) : Snd Z C (.or a b) := by
  refine ⟨fun c W X e g h => ?_, fun c W X e g h => ?_, fun c W X l g h => ff h rfl, fun c W X l g h => ff h rfl, fun c W X l g h => ff h rfl, fun c W X e tg g h => ff h rfl, fun c W X l g h => ff h rfl⟩
  · unfold chk at h
    split at h
    · have h2 := Bool.and_eq_true_iff.mp h
      have h3 := h2.2
      split at h3
      · exact s_or (sa.e c W X _ g h2.1) (pe_bool1 (sb.e c W X _ g h3))
      · exact s_or (sa.e c W X _ g h2.1) (sb.e c W X _ g h3)
    · cases h
  · unfold chk at h
    split at h
    · rename_i ea eb rest pos
      have h2 := Bool.and_eq_true_iff.mp h
      have h3 := h2.2
      have k : PW X (.BoolOp .Or (ea :: eb :: rest) pos) (Tb X.K Z C W (.or a b)) := by
        split at h3
        · exact t_or (sa.t c W X _ g h2.1).1 (pw_or1 (sb.t c W X _ g h3).1)
        · exact t_or (sa.t c W X _ g h2.1).1 ((sb.t c W X _ g h3).2 _ _ _ rfl)
      exact ⟨k.pt, fun op l p z => k⟩
    · cases h
theorem snd_ite {k a b : IE} (sk : Snd Z C k) (sa : Snd Z C a) (sb : Snd Z C b) : Snd Z C (.ite k a b) := by
  refine ⟨fun c W X e g h => ?_, fun c W X e g h => ?_, fun c W X l g h => ff h rfl, fun c W X l g h => ff h rfl, fun c W X l g h => ff h rfl, fun c W X e tg g h => ff h rfl, fun c W X l g h => ff h rfl⟩
  · unfold chk at h
    split at h
    · simp only [Bool.and_eq_true] at h
      obtain ⟨⟨⟨_, h1⟩, h2⟩, h3⟩ := h
      exact s_ite (sk.t c W X _ g h1).1 (sa.e c W X _ g h2) (sb.e c W X _ g h3)
    · cases h
  · unfold chk at h
    split at h
    · simp only [Bool.and_eq_true] at h
      exact ff h.1.1.1 rfl
    · cases h
theorem snd_cmp {o : Co} {a b : IE} (sa : Snd Z C a) (sb : Snd Z C b) : Snd Z C (.cmp o a b) := by
  refine ⟨fun c W X e g h => ?_, fun c W X e g h => ?_, fun c W X l g h => ff h rfl, fun c W X l g h => ff h rfl, fun c W X l g h => ff h rfl, fun c W X e tg g h => ff h rfl, fun c W X l g h => ff h rfl⟩
  · unfold chk at h
    split at h
    · simp only [Bool.and_eq_true, Bool.not_eq_true'] at h
      obtain ⟨⟨⟨h1, h2⟩, h3⟩, h4⟩ := h
      rw [co_of h1] at h2 ⊢
      exact s_cmp g.un (sa.e c W X _ g h3) (sb.e c W X _ g h4) h2
    · cases h
  · unfold chk at h
    split at h
    · simp only [Bool.and_eq_true, Bool.not_eq_true'] at h
      obtain ⟨⟨⟨h1, h2⟩, h3⟩, h4⟩ := h
      rw [co_of h1] at h2 ⊢
      exact ⟨t_cmp g.un (sa.e c W X _ g h3) (sb.e c W X _ g h4) h2, fun op l p z => nomatch z⟩
    · cases h
theorem snd_chn {o o' : Co} {a b d : IE} (sa : Snd Z C a) (sb : Snd Z C b) (sd : Snd Z C d) : Snd Z C (.chn o o' a b d) := by
  refine ⟨fun c W X e g h => ?_, fun c W X e g h => ?_, fun c W X l g h => ff h rfl, fun c W X l g h => ff h rfl, fun c W X l g h => ff h rfl, fun c W X e tg g h => ff h rfl, fun c W X l g h => ff h rfl⟩
  · unfold chk at h
    split at h
    · simp only [Bool.and_eq_true, Bool.not_eq_true'] at h
      obtain ⟨⟨⟨⟨⟨h1, h2⟩, h3⟩, h4⟩, h5⟩, h6⟩ := h
      rw [co_of h1]
      rw [co_of h2] at h3 ⊢
      exact s_chn g.un (sa.e c W X _ g h4) (sb.e c W X _ g h5) (sd.e c W X _ g h6) h3
    · cases h
  · unfold chk at h
    split at h
    · simp only [Bool.and_eq_true, Bool.not_eq_true'] at h
      obtain ⟨⟨⟨⟨⟨h1, h2⟩, h3⟩, h4⟩, h5⟩, h6⟩ := h
      rw [co_of h1]
      rw [co_of h2] at h3 ⊢
      exact ⟨t_chn g.un (sa.e c W X _ g h4) (sb.e c W X _ g h5) (sd.e c W X _ g h6) h3, fun op l p z => nomatch z⟩
    · cases h
theorem snd_tup {es : IE} (s : Snd Z C es) : Snd Z C (.tup es) := Snd.plain (fun c W X m e g h => by
  unfold chk at h
  split at h
  · exact ⟨rfl, s_tup (s.a c W X _ g h)⟩
  · cases h) (fun _ _ => rfl) (fun _ _ => rfl) (fun _ _ => rfl) (fun _ _ => rfl)
theorem snd_lst {es : IE} (s : Snd Z C es) : Snd Z C (.lst es) := Snd.plain (fun c W X m e g h => by
  unfold chk at h
  split at h
  · exact ⟨rfl, s_lst (s.a c W X _ g h)⟩
  · cases h) (fun _ _ => rfl) (fun _ _ => rfl) (fun _ _ => rfl) (fun _ _ => rfl)
theorem snd_idx {a b : IE} (sa : Snd Z C a) (sb : Snd Z C b) : Snd Z C (.idx a b) := Snd.plain (fun c W X m e g h => by
  unfold chk at h
  split at h
  · simp only [Bool.and_eq_true] at h
    obtain ⟨⟨h1, h2⟩, h3⟩ := h
    exact ⟨rfl, s_idx (plainIx_of h1) (sa.e c W X _ g h2) (sb.e c W X _ g h3)⟩
  · cases h) (fun _ _ => rfl) (fun _ _ => rfl) (fun _ _ => rfl) (fun _ _ => rfl)
theorem snd_sli {a lo hi : IE} (sa : Snd Z C a) (sl : Snd Z C lo) (sh : Snd Z C hi) : Snd Z C (.sli a lo hi) := Snd.plain (fun c W X m e g h => by
  unfold chk at h
  split at h
  · simp only [Bool.and_eq_true] at h
    obtain ⟨⟨h1, h2⟩, h3⟩ := h
    exact ⟨rfl, s_sli (sa.e c W X _ g h1) (sl.p c W X _ g h2) (sh.p c W X _ g h3)⟩
  · cases h) (fun _ _ => rfl) (fun _ _ => rfl) (fun _ _ => rfl) (fun _ _ => rfl)
theorem snd_call {f : Nat} {es : IE} (s : Snd Z C es) : Snd Z C (.call f es) := Snd.plain (fun c W X m e g h => by
  unfold chk at h
  split at h
  · simp only [Bool.and_eq_true, decide_eq_true_eq, beq_iff_eq] at h
    obtain ⟨⟨⟨⟨h1, h2⟩, h3⟩, h4⟩, h5⟩ := h
    obtain ⟨k, fa, fd, ps, F, hr, hm, hk, hb, hrest⟩ := g.fns _ _ h1
    rename_i l p2
    cases l with
    | nil =>
      cases es with
      | nil => exact ⟨rfl, s_call0 F hr (g.gl h2) hm hk hb g.tk h3⟩
      | _ => exact ff h5 rfl
    | cons a r => exact ⟨rfl, s_call F hr (g.gl h2) hm hk hb g.tk (s.a c W X _ g h5) h3 h4⟩
  · cases h) (fun _ _ => rfl) (fun _ _ => rfl) (fun _ _ => rfl) (fun _ _ => rfl)
theorem snd_blt {b : Bt} {es : IE} (s : Snd Z C es) : Snd Z C (.blt b es) := Snd.plain (fun c W X m e g h => by
  unfold chk at h
  split at h
  · simp only [Bool.and_eq_true, decide_eq_true_eq] at h
    obtain ⟨⟨⟨rfl, h2⟩, h3⟩, h4⟩ := h
    obtain ⟨k1, k2⟩ := g.fr2 h2
    exact ⟨rfl, s_blt b g.calm k1 k2 (s.a c W X _ g h4) h3⟩
  · cases h) (fun _ _ => rfl) (fun _ _ => rfl) (fun _ _ => rfl) (fun _ _ => rfl)
theorem snd_isi {a : IE} {ts : List Ty} (s : Snd Z C a) : Snd Z C (.isi a ts) := Snd.plain (fun c W X m e g h => by
  unfold chk at h
  split at h
  · simp only [Bool.and_eq_true, decide_eq_true_eq] at h
    obtain ⟨⟨⟨⟨rfl, h2⟩, h3⟩, h4⟩, h5⟩ := h
    obtain ⟨k1, k2⟩ := g.fr2 h2
    split at h5
    · split at h5
      · simp only [Bool.and_eq_true, decide_eq_true_eq] at h5
        obtain ⟨rfl, h6⟩ := h5
        obtain ⟨k3, k4⟩ := g.fr2 h6
        exact ⟨rfl, s_isi1 k1 k2 k3 k4 (s.e c W X _ g h4) h3⟩
      · cases h5
    · simp only [Bool.and_eq_true, decide_eq_true_eq] at h5
      obtain ⟨ys, rfl, h7, h8⟩ := g.tys h5.1
      subst h7
      exact ⟨rfl, s_isiN k1 k2 h8 (by simpa using h5.2) (s.e c W X _ g h4) h3⟩
    · cases h5
  · cases h) (fun _ _ => rfl) (fun _ _ => rfl) (fun _ _ => rfl) (fun _ _ => rfl)
theorem snd_mth {mt : Mt} {a es : IE} (sa : Snd Z C a) (s : Snd Z C es) : Snd Z C (.mth mt a es) := Snd.plain (fun c W X m e g h => by
  unfold chk at h
  split at h
  · simp only [Bool.and_eq_true, decide_eq_true_eq] at h
    obtain ⟨⟨⟨⟨rfl, h2⟩, h3⟩, h4⟩, h5⟩ := h
    split at h5
    · have h6 := Bool.and_eq_true_iff.mp h5
      have h7 := h6.2
      split at h7
      · exact ⟨rfl, s_mth0 h6.1 h2 h3 (sa.e c W X _ g h4)⟩
      · cases h7
    · simp only [Bool.and_eq_true] at h5
      obtain ⟨⟨⟨h6, h7⟩, h8⟩, h9⟩ := h5
      exact ⟨rfl, s_mth h6 h2 h3 h7 h8 (sa.e c W X _ g h4) (s.a c W X _ g h9)⟩
  · cases h) (fun _ _ => rfl) (fun _ _ => rfl) (fun _ _ => rfl) (fun _ _ => rfl)
theorem snd_comp {own : List Nat} {p : Pat} {it cc el : IE} (si : Snd Z C it) (sc : Snd Z C cc) (se : Snd Z C el) : Snd Z C (.comp own p it cc el) := Snd.plain (fun c W X m e g h => by
  unfold chk at h
  split at h
  · simp only [Bool.and_eq_true] at h
    obtain ⟨⟨⟨⟨⟨⟨⟨h1, h2⟩, h3⟩, h4⟩, h5⟩, h6⟩, h7⟩, h8⟩ := h
    refine ⟨rfl, s_comp g.calm g.nd (si.i c W X _ _ g h5) (blkOk_by (own := ownPs c own) (by rw [g.N, g.sc]; exact h1)) (fun s H Cc cl fp => (g.blk s H _ cl Cc fp).pat h6) (fun s H Cc cl fp => sc.c _ _ _ _ (g.blk s H _ cl Cc fp) h7)
      (fun s H Cc cl fp => se.e _ _ _ _ (g.blk s H _ cl Cc fp) h8) (notSet_of h4) (fun i hi => of_decide_eq_true (List.all_eq_true.mp h3 i hi)) (of_decide_eq_true h2)⟩
  · cases h) (fun _ _ => rfl) (fun _ _ => rfl) (fun _ _ => rfl) (fun _ _ => rfl)
theorem snd_alloc {a : IE} (sa : Snd Z C a) : Snd Z C (.alloc a) := by
  refine ⟨fun c W X e g h => ?_, fun c W X e g h => ?_, fun c W X l g h => ff h rfl, fun c W X l g h => ff h rfl, fun c W X l g h => ff h rfl, fun c W X e tg g h => ff h rfl, fun c W X l g h => ff h rfl⟩
  · unfold chk at h
    simp only [Bool.and_eq_true] at h
    exact s_alloc h.1.2 (sa.e c W X _ g h.2)
  · unfold chk at h
    simp only [Bool.and_eq_true] at h
    exact ff h.1.1 rfl
theorem snd_nil : Snd Z C .nil := by
  refine ⟨fun c W X e g h => ff h rfl, fun c W X e g h => ff h rfl, fun c W X l g h => ?_, fun c W X o g h => ?_, fun c W X l g h => ?_, fun c W X e tg g h => ff h rfl, fun c W X l g h => ?_⟩
  rotate_left 3
  · cases l with
    | nil => exact s_knil
    | cons => cases h
  · cases l with
    | nil => exact s_nil
    | cons => cases h
  · cases o with
    | none => exact s_pnone
    | some => cases h
  · cases l with
    | nil => exact ⟨fun pins s σ H Q I q => pts_nil.run pins s σ H Q I (by
        obtain ⟨B, m, S, δ, t, e, h⟩ := q
        exact (FinG.ret (show FinG X.K Z B m H _ (M.ret true S) (PB Q) from h)).now t)⟩
    | cons => cases h
theorem snd_cons {a r : IE} (sa : Snd Z C a) (sr : Snd Z C r) : Snd Z C (.cons a r) := by
  refine ⟨fun c W X e g h => ff h rfl, fun c W X e g h => ff h rfl, fun c W X l g h => ?_, fun c W X o g h => ?_, fun c W X l g h => ?_, fun c W X e tg g h => ?_, fun c W X l g h => ?_⟩
  · cases l with
    | nil => cases h
    | cons e es =>
      have h : (notStar e && chk a c false e && chkA r c es) = true := h
      simp only [Bool.and_eq_true] at h
      exact s_cons h.1.1 (sa.e c W X _ g h.1.2) (sr.a c W X _ g h.2)
  · cases o with
    | none => cases h
    | some e => exact s_psome (sa.e c W X _ g h)
  · cases l with
    | nil => cases h
    | cons e es =>
      cases es with
      | nil => exact pts_one (sa.t c W X _ g h).1
      | cons => cases h
  · exact i_val (sa.e c W X _ g h)
  · cases l with
    | nil => cases h
    | cons kw es =>
      obtain ⟨nm, e, p⟩ := kw
      have h : (chk a c false e && chkK r c es) = true := h
      have h2 := Bool.and_eq_true_iff.mp h
      exact s_kcons (sa.e c W X _ g h2.1) (sr.k c W X _ g h2.2)
theorem snd_rng1 {a : IE} (sa : Snd Z C a) : Snd Z C (.rng1 a) := by
  refine ⟨fun c W X e g h => ff h rfl, fun c W X e g h => ff h rfl, fun c W X l g h => ff h rfl, fun c W X o g h => ff h rfl, fun c W X l g h => ff h rfl, fun c W X e tg g h => ?_, fun c W X l g h => ff h rfl⟩
  unfold chkI at h
  split at h
  · simp only [Bool.and_eq_true, decide_eq_true_eq] at h
    obtain ⟨⟨⟨rfl, h2⟩, h3⟩, h4⟩ := h
    obtain ⟨k1, k2⟩ := g.fr2 h2
    exact i_rng1 k1 k2 h3 (sa.e c W X _ g h4)
  · cases h
theorem snd_rng2 {a b : IE} (sa : Snd Z C a) (sb : Snd Z C b) : Snd Z C (.rng2 a b) := by
  refine ⟨fun c W X e g h => ff h rfl, fun c W X e g h => ff h rfl, fun c W X l g h => ff h rfl, fun c W X o g h => ff h rfl, fun c W X l g h => ff h rfl, fun c W X e tg g h => ?_, fun c W X l g h => ff h rfl⟩
  unfold chkI at h
  split at h
  · simp only [Bool.and_eq_true, decide_eq_true_eq] at h
    obtain ⟨⟨⟨⟨⟨rfl, h2⟩, h3⟩, h4⟩, h5⟩, h6⟩ := h
    obtain ⟨k1, k2⟩ := g.fr2 h2
    exact i_rng2 k1 k2 h3 h4 (sa.e c W X _ g h5) (sb.e c W X _ g h6)
  · cases h
theorem snd_rng3 {a b : IE} {k : Nat} (sa : Snd Z C a) (sb : Snd Z C b) : Snd Z C (.rng3 a b k) := by
  refine ⟨fun c W X e g h => ff h rfl, fun c W X e g h => ff h rfl, fun c W X l g h => ff h rfl, fun c W X o g h => ff h rfl, fun c W X l g h => ff h rfl, fun c W X e tg g h => ?_, fun c W X l g h => ff h rfl⟩
  unfold chkI at h
  split at h
  · simp only [Bool.and_eq_true, decide_eq_true_eq] at h
    obtain ⟨⟨⟨⟨⟨⟨rfl, h2⟩, h3⟩, h4⟩, rfl⟩, h5⟩, h6⟩ := h
    obtain ⟨k1, k2⟩ := g.fr2 h2
    exact i_rng3 k1 k2 h3 h4 (sa.e c W X _ g h5) (sb.e c W X _ g h6)
  · cases h
theorem isTup_of {e : Expr} (h : isTupE e = true) : ∃ es k p, e = .Tuple es k p := by
  cases e <;> first | exact ⟨_, _, _, rfl⟩ | cases h
theorem snd_enum {a : IE} (sa : Snd Z C a) : Snd Z C (.enum a) := by
  refine ⟨fun c W X e g h => ff h rfl, fun c W X e g h => ff h rfl, fun c W X l g h => ff h rfl, fun c W X o g h => ff h rfl, fun c W X l g h => ff h rfl, fun c W X e tg g h => ?_, fun c W X l g h => ff h rfl⟩
  unfold chkI at h
  split at h
  · simp only [Bool.and_eq_true, decide_eq_true_eq] at h
    obtain ⟨⟨⟨⟨rfl, h2⟩, h3⟩, h4⟩, h5⟩ := h
    obtain ⟨k1, k2⟩ := g.fr2 h2
    obtain ⟨es, k, p, rfl⟩ := isTup_of h4
    exact i_enum k1 k2 h3 (sa.e c W X _ g h5)
  · cases h
theorem snd_zip {a b : IE} (sa : Snd Z C a) (sb : Snd Z C b) : Snd Z C (.zip a b) := by
  refine ⟨fun c W X e g h => ff h rfl, fun c W X e g h => ff h rfl, fun c W X l g h => ff h rfl, fun c W X o g h => ff h rfl, fun c W X l g h => ff h rfl, fun c W X e tg g h => ?_, fun c W X l g h => ff h rfl⟩
  unfold chkI at h
  split at h
  · simp only [Bool.and_eq_true, decide_eq_true_eq] at h
    obtain ⟨⟨⟨⟨⟨⟨rfl, h2⟩, h3⟩, h4⟩, h5⟩, h6⟩, h7⟩ := h
    obtain ⟨k1, k2⟩ := g.fr2 h2
    obtain ⟨es, k, p, rfl⟩ := isTup_of h5
    exact i_zip k1 k2 h3 h4 (sa.e c W X _ g h6) (sb.e c W X _ g h7)
  · cases h
theorem snd_rev {a : IE} (sa : Snd Z C a) : Snd Z C (.rev a) := Snd.plain (fun c W X m e g h => by
  unfold chk at h
  split at h
  · simp only [Bool.and_eq_true, decide_eq_true_eq] at h
    obtain ⟨rfl, h2⟩ := h
    exact ⟨rfl, s_rev (sa.e c W X _ g h2)⟩
  · cases h) (fun _ _ => rfl) (fun _ _ => rfl) (fun _ _ => rfl) (fun _ _ => rfl)
theorem snd_srt {a : IE} (sa : Snd Z C a) : Snd Z C (.srt a) := Snd.plain (fun c W X m e g h => by
  unfold chk at h
  split at h
  · simp only [Bool.and_eq_true, decide_eq_true_eq] at h
    obtain ⟨⟨⟨⟨⟨⟨rfl, h2⟩, rfl⟩, rfl⟩, h5⟩, h6⟩, h7⟩ := h
    obtain ⟨k1, k2⟩ := g.fr2 h2
    obtain ⟨k3, k4⟩ := g.fr2 h5
    exact ⟨rfl, s_srt g.calm k1 k2 k3 k4 (sa.e c W X _ g h7) h6⟩
  · cases h) (fun _ _ => rfl) (fun _ _ => rfl) (fun _ _ => rfl) (fun _ _ => rfl)
theorem snd_stp {a : IE} {lo k : Nat} (sa : Snd Z C a) : Snd Z C (.stp a lo k) := Snd.plain (fun c W X m e g h => by
  unfold chk at h
  split at h
  · simp only [Bool.and_eq_true, decide_eq_true_eq] at h
    obtain ⟨⟨⟨rfl, rfl⟩, h2⟩, h3⟩ := h
    exact ⟨rfl, s_stp (b := false) (p1 := default) (j := 0) h2 (fun _ => rfl) (sa.e c W X _ g h3)⟩
  · simp only [Bool.and_eq_true, decide_eq_true_eq] at h
    obtain ⟨⟨⟨rfl, rfl⟩, h2⟩, h3⟩ := h
    exact ⟨rfl, s_stp (b := true) h2 (fun z => nomatch z) (sa.e c W X _ g h3)⟩
  · cases h) (fun _ _ => rfl) (fun _ _ => rfl) (fun _ _ => rfl) (fun _ _ => rfl)
theorem snd_calld {f : Nat} {es : IE} {ds : List D} (s : Snd Z C es) : Snd Z C (.calld f es ds) := Snd.plain (fun c W X m e g h => by
  unfold chk at h
  split at h
  · simp only [Bool.and_eq_true, decide_eq_true_eq, beq_iff_eq] at h
    obtain ⟨⟨⟨⟨⟨h1, h2⟩, h3⟩, h4⟩, h5⟩, h6⟩ := h
    obtain ⟨k, fa, fd, ps, F, hr, hm, hk, hb, hd, _⟩ := g.fns _ _ h1
    obtain ⟨dvs, dus, b1, b2, b3⟩ := hd ds (ds_of h5)
    exact ⟨rfl, s_calld F hr (g.gl h2) hm hk b1 b2 b3 g.tk (s.a c W X _ g h6) h3 h4⟩
  · cases h) (fun _ _ => rfl) (fun _ _ => rfl) (fun _ _ => rfl) (fun _ _ => rfl)
theorem snd_callk {f n k : Nat} {es ks : IE} {perm : List Nat} (s : Snd Z C es) (sk : Snd Z C ks) : Snd Z C (.callk f n k es ks perm) := Snd.plain (fun c W X m e g h => by
  unfold chk at h
  split at h
  · rename_i x p l kws p2
    cases q : kwNames kws with
    | none => simp only [q, Bool.and_false, Bool.false_and] at h; exact ff h rfl
    | some nms =>
      simp only [q, Bool.and_eq_true, decide_eq_true_eq, beq_iff_eq] at h
      obtain ⟨⟨⟨⟨⟨⟨h1, h2⟩, h3⟩, h4⟩, h5, h5'⟩, h6⟩, h7⟩ := h
      obtain ⟨k, fa, fd, ps, F, hr, hm, hk, hb, hd, hkb⟩ := g.fns _ _ h1
      cases l with
      | nil =>
        cases es with
        | nil => exact ⟨rfl, s_callk0 F hr (g.gl h2) hm hk (hkb _ _ _ h5) g.tk (sk.k c W X _ g h7) q h5' h3⟩
        | _ => exact ff h6 rfl
      | cons a r => exact ⟨rfl, s_callk F hr (g.gl h2) hm hk (hkb _ _ _ h5) g.tk (s.a c W X _ g h6) (sk.k c W X _ g h7) q h5' h3 h4⟩
  · cases h) (fun _ _ => rfl) (fun _ _ => rfl) (fun _ _ => rfl) (fun _ _ => rfl)
theorem snd_no {ie : IE} (he : ∀ c m e, chk ie c m e = false) (ha : ∀ c l, chkA ie c l = false) (hp : ∀ c l, chkP ie c l = false) (hc : ∀ c l, chkC ie c l = false) (hi : ∀ c e, (fun tg => chkI ie c tg e) = fun _ => false) (hk : ∀ c l, chkK ie c l = false := by intros; rfl) : Snd Z C ie :=
  ⟨fun c W X e g h => ff h (he ..), fun c W X e g h => ff h (he ..), fun c W X l g h => ff h (ha ..), fun c W X o g h => ff h (hp ..), fun c W X l g h => ff h (hc ..), fun c W X e tg g h => ff h (congrFun (hi c e) tg), fun c W X l g h => ff h (hk c l)⟩
/-- the checker is sound -/
theorem snd : ∀ ie : IE, Snd Z C ie := fun ie => by
  induction ie with
  | lit d => exact snd_lit d
  | glo x d => exact snd_glo x d
  | var i => exact snd_var i
  | nil => exact snd_nil
  | cons a r sa sr => exact snd_cons sa sr
  | bin o a b sa sb => exact snd_bin sa sb
  | neg a sa => exact snd_neg sa
  | not a sa => exact snd_not sa
  | and a b sa sb => exact snd_and sa sb
  | or a b sa sb => exact snd_or sa sb
  | ite k a b sk sa sb => exact snd_ite sk sa sb
  | cmp o a b sa sb => exact snd_cmp sa sb
  | chn o o' a b c sa sb sc => exact snd_chn sa sb sc
  | tup es s => exact snd_tup s
  | lst es s => exact snd_lst s
  | idx a b sa sb => exact snd_idx sa sb
  | sli a lo hi sa sl sh => exact snd_sli sa sl sh
  | call f es s => exact snd_call s
  | blt b es s => exact snd_blt s
  | isi a t s => exact snd_isi s
  | mth m a es sa s => exact snd_mth sa s
  | comp own p it c e si sc se => exact snd_comp si sc se
  | rng1 a sa => exact snd_rng1 sa
  | rng2 a b sa sb => exact snd_rng2 sa sb
  | alloc a sa => exact snd_alloc sa
  | rng3 a b k sa sb => exact snd_rng3 sa sb
  | enum a sa => exact snd_enum sa
  | zip a b sa sb => exact snd_zip sa sb
  | rev a sa => exact snd_rev sa
  | stp a lo k sa => exact snd_stp sa
  | srt a sa => exact snd_srt sa
  | calld f a ds sa => exact snd_calld sa
  | callk f n m a b perm sa sb => exact snd_callk sa sb
  | _ => exact snd_no (fun _ _ _ => rfl) (fun _ _ => rfl) (fun _ _ => rfl) (fun _ _ => rfl) (fun _ _ => rfl)
end
end Fb
set_option Elab.async false
set_option linter.all false
set_option maxRecDepth 100000
set_option maxHeartbeats 4000000
/-! Fb15: the checker for statements. -/
namespace Fb
open PySem PySem.Spec PyProof.Rows L2
def blkK (sc : Scope) : ScopeKind := if sc.kind.isAnnotationScope then ScopeKind.function else sc.kind
/-- what swappedStores answers, by the scope alone -/
def swSc (ts vs : List Expr) (sc : Scope) : Option (Option (List Str)) :=
  if (!(ts.length == 2 || ts.length == 3) || vs.length != ts.length || blkK sc != .function) = true then some none
  else if (vs.any fun | .Starred .. => true | _ => false) = true then some none
  else if ((ts.filterMap fun
      | .Name id pos => if sc.names.lookup id == some .local && pos.line == (ts.head?.map (·.pos.line)).getD 0 then some id else none
      | _ => none).length != ts.length || (ts.filterMap fun
      | .Name id pos => if sc.names.lookup id == some .local && pos.line == (ts.head?.map (·.pos.line)).getD 0 then some id else none
      | _ => none).eraseDups.length != (ts.filterMap fun
      | .Name id pos => if sc.names.lookup id == some .local && pos.line == (ts.head?.map (·.pos.line)).getD 0 then some id else none
      | _ => none).length) = true then some none
  else if (vs.all (foldedForSure 8)) = true then some none
  else if (vs.all (constantsAlone 8)) = true then none
  else some (some (ts.filterMap fun
      | .Name id pos => if sc.names.lookup id == some .local && pos.line == (ts.head?.map (·.pos.line)).getD 0 then some id else none
      | _ => none))
theorem sw_sc {ts vs : List Expr} {k k2 : Nat} {p p2 : Pos} {env : Env} {r : Option (List Str)} (h : swSc ts vs env.scope = some r) : swappedStores [.Tuple ts k p] (.Tuple vs k2 p2) env = pure r := by
  unfold swSc at h
  unfold swappedStores
  dsimp only
  split at h
  · rename_i c
    exact (if_pos c).trans (by cases h; rfl)
  · rename_i c
    refine (if_neg c).trans ?_
    split at h
    · rename_i c2
      exact (if_pos c2).trans (by cases h; rfl)
    · rename_i c2
      refine (if_neg c2).trans ?_
      split at h
      · rename_i c3
        exact (if_pos c3).trans (by cases h; rfl)
      · rename_i c3
        refine (if_neg c3).trans ?_
        split at h
        · rename_i c4
          exact (if_pos c4).trans (by cases h; rfl)
        · rename_i c4
          refine (if_neg c4).trans ?_
          split at h
          · cases h
          · rename_i c5
            exact (if_neg c5).trans (by cases h; rfl)
/-- the comprehension of a term, a cell or not -/
def compOf : IE → Option (List Nat × Pat × IE × IE × IE)
  | .comp own p it cc el => some (own, p, it, cc, el)
  | .alloc (.comp own p it cc el) => some (own, p, it, cc, el)
  | _ => none
def setC (c : CC) (e : IE) (x : Str) (py : Pos) (v : Expr) : Bool := match compOf e, v with
  | some (own, p, it, cc, el), .ListComp elt [⟨tg, iter, ifs, 0⟩] scope pos => chk (.comp own p it cc el) c false v && plB c.sc x && decide (c.sc.kind = .function) && (py.line == pos.line) &&
      !(scope.names.any fun (n, k) => n == x && (k == .local || k == .cell))
  | _, _ => false
def stNone (c : CC) (ts : List Expr) (v : Expr) : Bool := match v with
  | .Tuple vs _ _ => decide (swSc ts vs c.sc = some none)
  | _ => true
/-- a suite's expression -/
def chkHL (d : D) (e : Expr) : Bool := match d, e with
  | .int i, .Constant (.int j) _ _ => decide (i = j)
  | .bl b, .Constant (.bool b') _ _ => b == b'
  | .non, .Constant .none _ _ => true
  | .str x, .Constant (.str y) _ _ => decide (y = SO x) && okS x
  | _, _ => false
mutual
def chkH (c : CC) (nm : Option Nat) : HE → Expr → Bool
  | .lit d, e => chkHL d e
  | .fld k j, e => (match e with
    | .Attribute (.Name x _) f _ => (match nm with
      | some i => decide (c.N[i]? = some x) && visB c.sc x && (x == ("__debug__" : Str)) == false && (x == ("__classdict__" : Str)) == false
      | none => false) && (match c.xt[k]? with
      | some (_, fs) => decide (fs[j]? = some f)
      | none => false)
    | _ => false)
  | .tup es, e => (match e with
    | .Tuple l _ _ => chkHs c nm es l
    | _ => false)
  | _, _ => false
def chkHs (c : CC) (nm : Option Nat) : HE → List Expr → Bool
  | .nil, l => l.isEmpty
  | .cons a r, l => (match l with
    | e :: es => notStar e && chkH c nm a e && chkHs c nm r es
    | [] => false)
  | _, _ => false
end
/-- the classes that a clause names -/
def clsE : Expr → Option (List (Str × Pos))
  | .Name x p => some [(x, p)]
  | .Tuple es _ _ => nmOf es
  | _ => none
def chkHd (c : CC) (h : Hnd) : ExceptHandler → Bool
  | .ExceptHandler (some te) n [st] _ => (match clsE te with
    | some xs => decide (xs.map (·.1) = h.ns.map SO) && decide ((xs.map (·.1), h.cs) ∈ c.ht) && (xs.all fun q => glB c.sc q.1 && (q.1 == ("__debug__" : Str)) == false) && decide (xs.length ≤ 100)
    | none => false) && (match n, h.nm with
    | none, none => true
    | some x, some i => decide (c.N[i]? = some x) && plB c.sc x
    | _, _ => false) && HE.ok (bodyHE h.body) && (!fldsIn (bodyHE h.body) || h.nm.isSome) && (match h.body, st with
    | .ret e, .Return (some v) _ => chkH c h.nm e v
    | .set i e, .Assign [.Name x _] v _ => nameB c i x && notComp v && chkH c h.nm e v
    | _, _ => false)
  | _ => false
def chkHds (c : CC) : List Hnd → List ExceptHandler → Bool
  | [], [] => true
  | h :: r, e :: es => chkHd c h e && chkHds c r es
  | _, _ => false
mutual
def chkS : IS → CC → Stmt → Bool
  | .skip, _, st => (match st with
    | .Pass _ => true
    | _ => false)
  | .ex e, c, st => (match st with
    | .Expr v _ => notComp v && chk e c false v
    | _ => false)
  | .set i e, c, st => (match st with
    | .Assign [.Name x py] v _ => nameB c i x && ((notComp v && chk e c false v) || setC c e x py v)
    | _ => false)
  | .setP is e, c, st => (match st with
    | .Assign [.Tuple ts _ _] v _ => (match nmOf ts with
      | some xs => namesB c is xs && chk e c false v && stNone c ts v
      | none => false)
    | _ => false)
  | .par is es, c, st => (match st with
    | .Assign [.Tuple [.Name x px, .Name y py] _ _] (.Tuple [a, b] _ _) _ => (match is with
      | [i, j] => nameB c i x && nameB c j y && plB c.sc x && plB c.sc y && decide (i ≠ j) && chkA es c [a, b] && decide (swSc [.Name x px, .Name y py] [a, b] c.sc = some (some [x, y]))
      | _ => false)
    | .Assign [.Tuple [.Name x px, .Name y py, .Name z pz] _ _] (.Tuple [a, b, d] _ _) _ => (match is with
      | [i, j, l] => nameB c i x && nameB c j y && nameB c l z && plB c.sc x && plB c.sc y && plB c.sc z && decide (i ≠ j) && decide (i ≠ l) && decide (j ≠ l) && chkA es c [a, b, d] &&
          decide (swSc [.Name x px, .Name y py, .Name z pz] [a, b, d] c.sc = some (some [x, y, z]))
      | _ => false)
    | _ => false)
  | .put a i e, c, st => (match st with
    | .Assign [.Subscript ea ei _] v _ => plainIxB ei && chk a c false ea && chk i c false ei && chk e c false v
    | _ => false)
  | .aug o i e, c, st => (match st with
    | .AugAssign (.Name x _) op v _ => (decide (o = .add) || decide (o = .sub)) && opB o op && nameB c i x && chk e c false v
    | _ => false)
  | .ite k a b, c, st => (match st with
    | .If ek la lb _ => chk k c true ek && chkB a c la && chkB b c lb
    | _ => false)
  | .whl k b, c, st => (match st with
    | .While ek lb [] _ => chk k c true ek && chkB b c lb
    | _ => false)
  | .for p it b, c, st => (match st with
    | .For tg iter lb [] _ => notSet iter && chkI it c tg iter && patB' c p tg && chkB b c lb
    | _ => false)
  | .ret e, c, st => (match st with
    | .Return (some v) _ => chk e c false v
    | _ => false)
  | .retN, _, st => (match st with
    | .Return none _ => true
    | _ => false)
  | .brk, _, st => (match st with
    | .Break _ => true
    | _ => false)
  | .cnt, _, st => (match st with
    | .Continue _ => true
    | _ => false)
  | .augS o a i e, c, st => (match st with
    | .AugAssign (.Subscript ea ei _) op v _ => (decide (o = .add) || decide (o = .sub)) && opB o op && plainIxB ei && chk a c false ea && chk i c false ei && chk e c false v
    | _ => false)
  | .rse k n es, c, st => (match st with
    | .Raise (some (.Call (.Name x _) (e :: l) [] _)) none _ => (match c.xt[k]? with
      | some (y, fs) => decide (x = y) && decide (n = fs.length) && glB c.sc x && (x == ("__debug__" : Str)) == false && noStars (e :: l) && chkA es c (e :: l)
      | none => false)
    | _ => false)
  | .try b hs, c, st => (match st with
    | .Try body (h :: hds) [] [] _ => chkB b c body && chkHds c hs (h :: hds)
    | _ => false)
  | _, _, _ => false
def chkB : IS → CC → List Stmt → Bool
  | .skip, _, l => l.isEmpty
  | .seq a b, c, l => (match l with
    | st :: rest => chkS a c st && chkB b c rest
    | [] => false)
  | _, _, _ => false
end
section
variable {Z : Xt} {C : Cf}
/-- what a checked comprehension gives -/
theorem ss_setX {c : CC} {W : WX} {X : Cx} {e : IE} {i : Nat} {x : Str} {py pos : Pos} {v : Expr} (g : Gc Z C c W X) (hn : nameB c i x = true) (h : setC c e x py v = true) : PS X (.Assign [.Name x py] v pos) (Ss X.K Z C W (.set i e)) := by
  unfold setC at h
  split at h
  · rename_i own p it cc el elt tg iter ifs scope cpos q
    simp only [Bool.and_eq_true, Bool.not_eq_true', decide_eq_true_eq] at h
    obtain ⟨⟨⟨⟨h0, k1⟩, k2⟩, k3⟩, k4⟩ := h
    unfold chk at h0
    simp only [Bool.and_eq_true] at h0
    obtain ⟨⟨⟨⟨⟨⟨⟨h1, h2⟩, h3⟩, h4⟩, h5⟩, h6⟩, h7⟩, h8⟩ := h0
    obtain ⟨n1, n2, n3⟩ := g.name hn
    refine ss_setC g.nd n1 (by rw [g.sc]; exact pl_of k1) (by rw [g.sc]; exact k2) k3 k4 g.calm ((snd it).i c W X _ _ g h5) (blkOk_by (own := ownPs c own) (by rw [g.N, g.sc]; exact h1)) (fun s H Cc cl fp => (g.blk s H _ cl Cc fp).pat h6)
      (fun s H Cc cl fp => (snd cc).c _ _ _ _ (g.blk s H _ cl Cc fp) h7) (fun s H Cc cl fp => (snd el).e _ _ _ _ (g.blk s H _ cl Cc fp) h8) (notSet_of h4) (fun i hi => of_decide_eq_true (List.all_eq_true.mp h3 i hi)) (of_decide_eq_true h2) ?_
    intro σ H Q ht
    unfold compOf at q
    split at q
    · cases q; exact ht
    · cases q
      exact alloc_step rfl ht
    · cases q
  · cases h
/-- what is known of a def's body's context -/
structure Gs (Z : Xt) (C : Cf) (c : CC) (W : WX) (X : Cx) : Prop extends Gc Z C c W X where
  tks : Takes X W
  stk : X.stack = X.env :: X.outer
  frm : X.env.frame = some X.env.locals
  two : 2 ≤ C.lv → Room 2 X.A
  xcs : ∀ k x fs, c.xt[k]? = some (x, fs) → ∃ d : XcD, d.name = x ∧ d.flds = fs ∧ XcH X Z k d
  hts : ∀ xs ids, (xs, ids) ∈ c.ht → ∃ vs : List Value, vs.length = xs.length ∧ (∀ (i : Nat) (x : Str), xs[i]? = some x → ∃ v, vs[i]? = some v ∧ X.mg x = some v) ∧ ∀ k C fs, Z[k]? = some (C, fs) → PySem.W.exmAny X.K (.ref C) vs = some (ids.contains k)
theorem Gs.tr {c : CC} {W W' : WX} {X : Cx} (g : Gs Z C c W X) (pn : List (Addr × Obj)) (xe : Value → Shared → Prop) (tk : Takes (X.tr pn xe) W') : Gs Z C c W' (X.tr pn xe) :=
  ⟨⟨g.calm, g.nd, g.N, g.sc, g.fn, g.un, fun σ => passAt tk σ, g.fns, g.csk, g.fre⟩, tk, g.stk, g.frm, g.two, fun k x fs h => by
    obtain ⟨d, h1, h2, h3⟩ := g.xcs k x fs h
    exact ⟨d, h1, h2, ⟨h3.z, h3.ok, h3.fn, h3.nd, h3.mg, h3.few⟩⟩, g.hts⟩
section
variable {c : CC} {W : WX} {X : Cx} {a : Addr} {oe : Obj} {cls : Value} {dd : Option Addr} {pn : List (Addr × Obj)} {nm : Option Nat}
theorem pe_lit {X : Cx} {d : D} {e : Expr} {cls : Value} (h : chkHL d e = true) : PE X e (tHE Z a cls dd nm (.lit d)) := by
  unfold chkHL at h
  split at h
  · rename_i i j k p
    rw [of_decide_eq_true h]
    exact pe_int.imp' fun σ H Q ⟨v, hv, q⟩ => by cases hv; exact q
  · rename_i b b' k p
    have : b = b' := eq_of_beq h
    subst this
    exact pe_bl.imp' fun σ H Q ⟨v, hv, q⟩ => by cases hv; exact q
  · exact pe_non.imp' fun σ H Q ⟨v, hv, q⟩ => by cases hv; exact q
  · rename_i x y k p
    have h2 := Bool.and_eq_true_iff.mp h
    rw [of_decide_eq_true h2.1]
    exact pe_str.imp' fun σ H Q ⟨v, hv, q⟩ => by
      have hv : (if okS x then some (V.str (SO x)) else none) = some v := hv
      rw [if_pos h2.2] at hv
      cases hv; exact q
  · cases h
theorem star_suite {e : Expr} {es : List Expr} {env : Env} (h : notStar e = true) : starEach (e :: es) env = (false, eval e env) :: starEach es env := star_cons h
theorem chkH_fld {c : CC} {nm : Option Nat} {k j : Nat} {e : Expr} (h : chkH c nm (.fld k j) e = true) : ∃ x p f p2 i y fs, e = .Attribute (.Name x p) f p2 ∧ nm = some i ∧ (c.N[i]? = some x ∧ visB c.sc x = true ∧ (x == ("__debug__" : Str)) = false ∧ (x == ("__classdict__" : Str)) = false) ∧ c.xt[k]? = some (y, fs) ∧ fs[j]? = some f := by
  unfold chkH at h
  split at h
  · rename_i x p f p2
    obtain ⟨h1, h2⟩ := Bool.and_eq_true_iff.mp h
    split at h1
    · rename_i i
      split at h2
      · rename_i y fs hk
        simp only [Bool.and_eq_true, decide_eq_true_eq, beq_iff_eq] at h1 h2
        exact ⟨x, p, f, p2, i, y, fs, rfl, rfl, ⟨h1.1.1.1, h1.1.1.2, h1.1.2, h1.2⟩, hk, h2⟩
      · cases h2
    · cases h1
  · cases h
theorem chkH_tup {c : CC} {nm : Option Nat} {es : HE} {e : Expr} (h : chkH c nm (.tup es) e = true) : ∃ l k p, e = .Tuple l k p ∧ chkHs c nm es l = true := by
  unfold chkH at h
  split at h
  · exact ⟨_, _, _, rfl, h⟩
  · cases h
theorem chkHs_cons {c : CC} {nm : Option Nat} {b r : HE} {e : Expr} {es : List Expr} (h : chkHs c nm (.cons b r) (e :: es) = true) : notStar e = true ∧ chkH c nm b e = true ∧ chkHs c nm r es = true := by
  unfold chkHs at h
  simp only [Bool.and_eq_true] at h
  exact ⟨h.1.1, h.1.2, h.2⟩
mutual
theorem pe_H (g : Gs Z C c W X) (hz : Zc cls dd oe) (hd : ∃ vs, oe.data = .fields vs) : ∀ (h : HE) {e : Expr}, chkH c nm h e = true → PE (X.suite a ((a, oe) :: pn)) e (tHE Z a cls dd nm h)
  | .lit d, e, h => pe_lit h
  | .fld k j, e, h => by
    obtain ⟨x, p, f, p2, i, y, fs, rfl, rfl, ⟨n1, n2, n3, n4⟩, hk, h4⟩ := chkH_fld h
    obtain ⟨d, rfl, rfl, xh⟩ := g.xcs k y fs hk
    have hf : f ∈ d.flds := List.mem_of_getElem? h4
    have pv : PE (X.suite a ((a, oe) :: pn)) (.Name x p) (tVar i) := pe_var (by show X.N[i]? = _; rw [g.N]; exact n1) (by show Vis X.env.scope x; rw [g.sc]; exact vis_of n2) n3 n4
    refine (pe_xf (pos := p2) xh.ok.xf (xh.ok.no f hf) hz hd pv rfl).imp' fun σ H Q ⟨i', C', fs', f', e1, e2, e3, q⟩ => ?_
    cases e1
    rw [xh.z] at e2
    cases e2
    rw [h4] at e3
    cases e3
    exact q
  | .tup es, e, h => by
    obtain ⟨l, k, p, rfl, h2⟩ := chkH_tup h
    exact pe_tup (pa_H g hz hd es h2)
  | .nil, e, h => by cases h
  | .cons _ _, e, h => by cases h
theorem pa_H (g : Gs Z C c W X) (hz : Zc cls dd oe) (hd : ∃ vs, oe.data = .fields vs) : ∀ (h : HE) {l : List Expr}, chkHs c nm h l = true → PA (X.suite a ((a, oe) :: pn)) l (tHA Z a cls dd nm h)
  | .nil, l, h => by
    cases l with
    | nil => exact pa_nil
    | cons => cases h
  | .cons b r, l, h => by
    cases l with
    | nil => cases h
    | cons e es =>
      obtain ⟨h1, h2, h3⟩ := chkHs_cons h
      exact pa_cons (pe_H g hz hd b h2) (pa_H g hz hd r h3) (star_cons h1)
  | .lit _, l, h => by cases h
  | .fld _ _, l, h => by cases h
  | .tup _, l, h => by cases h
end
/-- the values of a clause's classes -/
def cssOf (X : Cx) (h : Hnd) : List Value := h.ns.map fun x => (X.mg (SO x)).getD .none
theorem css_of {h : Hnd} {vs : List Value} {xs : List Str} (hx : xs = h.ns.map SO) (hl : vs.length = xs.length) (hm : ∀ (i : Nat) (x : Str), xs[i]? = some x → ∃ v, vs[i]? = some v ∧ X.mg x = some v) : cssOf X h = vs := by
  unfold cssOf
  subst hx
  apply List.ext_getElem?
  intro i
  rw [List.getElem?_map]
  cases q : h.ns[i]? with
  | none =>
    have : h.ns.length ≤ i := List.getElem?_eq_none_iff.mp q
    rw [List.getElem?_eq_none (by rw [hl, List.length_map]; exact this)]
    rfl
  | some y =>
    obtain ⟨v, h1, h2⟩ := hm i (SO y) (by rw [List.getElem?_map, q]; rfl)
    rw [h1]
    show some ((X.mg (SO y)).getD .none) = _
    rw [h2]; rfl
theorem cnames_of (g : Gs Z C c W X) : ∀ {xs : List (Str × Pos)} {vs : List Value}, vs.length = (xs.map (·.1)).length → (∀ (i : Nat) (x : Str), (xs.map (·.1))[i]? = some x → ∃ v, vs[i]? = some v ∧ X.mg x = some v) → (xs.all fun q => glB c.sc q.1 && (q.1 == ("__debug__" : Str)) == false) = true → CNames X xs vs
  | [], [], _, _, _ => trivial
  | [], _ :: _, h, _, _ => by cases h
  | _ :: _, [], h, _, _ => by cases h
  | (x, p) :: r, v :: vs, h, hm, ha => by
    rw [List.all_cons] at ha
    obtain ⟨h1, h2⟩ := Bool.and_eq_true_iff.mp ha
    obtain ⟨h3, h4⟩ := Bool.and_eq_true_iff.mp h1
    obtain ⟨v', e1, e2⟩ := hm 0 x rfl
    cases e1
    exact ⟨g.gl h3, eq_of_beq h4, e2, cnames_of g (by simpa using h) (fun i y hy => by
      obtain ⟨v, e3, e4⟩ := hm (i + 1) y (by simpa using hy)
      exact ⟨v, by simpa using e3, e4⟩) h2⟩
theorem hd_of1 (g : Gs Z C c W X) {h : Hnd} {eh : ExceptHandler} (q : chkHd c h eh = true) : HndOk X.K Z (cssOf X) X.N.length h ∧ ∀ {hds : List ExceptHandler} {l : List HM}, HdX X hds l → HdX X (eh :: hds) (toHM X.K Z (cssOf X) h :: l) := by
  unfold chkHd at q
  split at q
  · rename_i te n st p
    cases hc : clsE te with
    | none => simp only [hc, Bool.false_and] at q; exact ff q rfl
    | some xs =>
      simp only [hc, Bool.and_eq_true, decide_eq_true_eq] at q
      obtain ⟨⟨⟨⟨⟨⟨⟨q0, q1⟩, q2⟩, q3⟩, q4⟩, q5⟩, q6⟩, q7⟩ := q
      obtain ⟨vs, v1, v2, v3⟩ := g.hts _ _ q1
      have ecss : cssOf X h = vs := css_of q0 v1 v2
      have cn := cnames_of g v1 v2 q2
      have ht : HTest X te vs := by
        cases te with
        | Name x p => cases hc; 
                      cases vs with
                      | nil => cases v1
                      | cons v r =>
                        cases r with
                        | nil => exact .one cn
                        | cons => simp at v1
        | Tuple es k p =>
          have e := nm_of (show nmOf es = some xs from hc)
          have e2 : nmEs xs = tyEs xs := by
            clear e cn v1 v2 q0 q1 q2 q3 hc
            induction xs with
            | nil => rfl
            | cons y r ih => obtain ⟨y1, y2⟩ := y; show _ :: nmEs r = _ :: tyEs r; rw [ih]
          rw [e, e2]
          exact .tup cn (by rw [v1, List.length_map]; exact q3)
        | _ => cases hc
      have nmo : NmOk X n h.nm := by
        cases n with
        | none =>
          cases hnm : h.nm with
          | none => trivial
          | some i => rw [hnm] at q4; exact ff q4 rfl
        | some x =>
          cases hnm : h.nm with
          | none => rw [hnm] at q4; exact ff q4 rfl
          | some i =>
            rw [hnm] at q4
            simp only [Bool.and_eq_true, decide_eq_true_eq] at q4
            exact ⟨by rw [g.N]; exact q4.1, by show X.env.scope.names.lookup x = _; rw [g.sc]; exact pl_of q4.2⟩
      refine ⟨⟨q5, fun hf => ?_, fun k C fs hz => by rw [ecss]; exact v3 k C fs hz⟩, fun {hds l} r => ?_⟩
      · rw [hf] at q6
        obtain ⟨i, hi⟩ := Option.isSome_iff_exists.mp (show h.nm.isSome = true by simpa using q6)
        refine ⟨i, hi, ?_⟩
        cases n with
        | none => rw [hi] at nmo; exact False.elim nmo
        | some x =>
          rw [hi] at nmo
          exact (List.getElem?_eq_some_iff.mp nmo.1).1
      · refine .cons (h := toHM X.K Z (cssOf X) h) (by show HTest X te (cssOf X h); rw [ecss]; exact ht) nmo (fun a oe cls dd pn hz hd => ?_) r
        show PSs (X.suite a ((a, oe) :: pn)) [st] (match h.body with
          | .ret e => tRet (tHE Z a cls dd h.nm e)
          | .set i e => tAsg (tHE Z a cls dd h.nm e) (gName i))
        split at q7
        · rename_i e v p2 e1
          rw [e1]
          exact pss_one (ps_ret (pe_H g hz hd e q7))
        · rename_i i e x p1 v p2 e1
          rw [e1]
          simp only [Bool.and_eq_true] at q7
          obtain ⟨n1, n2, n3⟩ := g.name q7.1.1
          exact pss_one (ps_set (X := X.suite a ((a, oe) :: pn)) g.nd n1 n2 (pe_H g hz hd e q7.2) (sw_plain q7.1.2) n3)
        · cases q7
  · cases q
theorem hds_of (g : Gs Z C c W X) : ∀ {hs : List Hnd} {es : List ExceptHandler}, chkHds c hs es = true → (∀ h ∈ hs, HndOk X.K Z (cssOf X) X.N.length h) ∧ HdX X es (hs.map (toHM X.K Z (cssOf X)))
  | [], [], _ => ⟨fun _ z => (nomatch z), .nil⟩
  | [], _ :: _, h => by cases h
  | _ :: _, [], h => by cases h
  | hd :: hs, e :: es, h => by
    have h2 := Bool.and_eq_true_iff.mp (show (chkHd c hd e && chkHds c hs es) = true from h)
    obtain ⟨k1, k2⟩ := hd_of1 g h2.1
    obtain ⟨k3, k4⟩ := hds_of g h2.2
    refine ⟨fun z hz => ?_, k2 k4⟩
    rcases List.mem_cons.mp hz with rfl | hz
    · exact k1
    · exact k3 z hz
end
structure SndS (Z : Xt) (C : Cf) (is : IS) : Prop where
  s : ∀ (c : CC) (W : WX) (X : Cx) (st : Stmt), Gs Z C c W X → PassesOwn (model X.prog X.w) X.A X.env X.xe → chkS is c st = true → PS X st (Ss X.K Z C W is)
  b : ∀ (c : CC) (W : WX) (X : Cx) (l : List Stmt), Gs Z C c W X → PassesOwn (model X.prog X.w) X.A X.env X.xe → chkB is c l = true → PSs X l (Ss X.K Z C W is)
theorem snds (is : IS) : SndS Z C is := by
  induction is with
  | skip =>
    refine ⟨fun c W X st g hp h => ?_, fun c W X l g hp h => ?_⟩
    · unfold chkS at h
      split at h
      · exact ss_pass
      · cases h
    · cases l with
      | nil => exact ss_nil
      | cons => cases h
  | seq a b sa sb =>
    refine ⟨fun c W X st g hp h => ff h rfl, fun c W X l g hp h => ?_⟩
    cases l with
    | nil => cases h
    | cons st rest =>
      have h2 := Bool.and_eq_true_iff.mp (show (chkS a c st && chkB b c rest) = true from h)
      exact ss_cons (sa.s c W X st g hp h2.1) (sb.b c W X rest g hp h2.2)
  | ex e =>
    refine ⟨fun c W X st g hp h => ?_, fun c W X l g hp h => ff h rfl⟩
    unfold chkS at h
    split at h
    · have h2 := Bool.and_eq_true_iff.mp h
      exact ss_ex h2.1 ((snd e).e c W X _ g.toGc h2.2)
    · cases h
  | set i e =>
    refine ⟨fun c W X st g hp h => ?_, fun c W X l g hp h => ff h rfl⟩
    unfold chkS at h
    split at h
    · have h2 := Bool.and_eq_true_iff.mp h
      rcases Bool.or_eq_true_iff.mp h2.2 with h3 | h3
      · have h4 := Bool.and_eq_true_iff.mp h3
        obtain ⟨n1, n2, n3⟩ := g.name h2.1
        exact ss_set g.nd n1 n2 n3 h4.1 ((snd e).e c W X _ g.toGc h4.2)
      · exact ss_setX g.toGc h2.1 h3
    · cases h
  | setP is e =>
    refine ⟨fun c W X st g hp h => ?_, fun c W X l g hp h => ff h rfl⟩
    unfold chkS at h
    split at h
    · rename_i ts k p v pos
      split at h
      · rename_i xs q
        simp only [Bool.and_eq_true] at h
        obtain ⟨⟨h1, h2⟩, h3⟩ := h
        obtain ⟨n1, n2⟩ := g.names h1
        have hw : swappedStores [.Tuple ts k p] v X.env = pure none := by
          unfold stNone at h3
          split at h3
          · exact sw_sc (by rw [g.sc]; exact of_decide_eq_true h3)
          · rename_i nt
            refine st_plain ?_
            cases v <;> first | rfl | exact absurd rfl (nt _ _ _)
        rw [nm_of q] at hw ⊢
        exact ss_setP g.calm g.nd n1 n2 ((snd e).e c W X _ g.toGc h2) hw
      · cases h
    · cases h
  | par is es =>
    refine ⟨fun c W X st g hp h => ?_, fun c W X l g hp h => ff h rfl⟩
    unfold chkS at h
    split at h
    · split at h
      · simp only [Bool.and_eq_true, decide_eq_true_eq] at h
        obtain ⟨⟨⟨⟨⟨⟨h1, h2⟩, h3⟩, h4⟩, h5⟩, h6⟩, h7⟩ := h
        exact ss_par2 g.calm g.nd (g.name h1).1 (g.name h2).1 h5 (by rw [g.sc]; exact pl_of h3) (by rw [g.sc]; exact pl_of h4) ((snd es).a c W X _ g.toGc h6) (sw_sc (by rw [g.sc]; exact h7))
      · cases h
    · split at h
      · simp only [Bool.and_eq_true, decide_eq_true_eq] at h
        obtain ⟨⟨⟨⟨⟨⟨⟨⟨⟨⟨h1, h2⟩, h3⟩, h4⟩, h5⟩, h6⟩, h7⟩, h8⟩, h9⟩, h10⟩, h11⟩ := h
        exact ss_par3 g.calm g.nd (g.name h1).1 (g.name h2).1 (g.name h3).1 h7 h8 h9 (by rw [g.sc]; exact pl_of h4) (by rw [g.sc]; exact pl_of h5) (by rw [g.sc]; exact pl_of h6) ((snd es).a c W X _ g.toGc h10) (sw_sc (by rw [g.sc]; exact h11))
      · cases h
    · cases h
  | put a i e =>
    refine ⟨fun c W X st g hp h => ?_, fun c W X l g hp h => ff h rfl⟩
    unfold chkS at h
    split at h
    · rename_i ea ei p v pos
      simp only [Bool.and_eq_true] at h
      obtain ⟨⟨⟨h1, h2⟩, h3⟩, h4⟩ := h
      refine ss_put (plainIx_of h1) ((snd a).e c W X _ g.toGc h2) ((snd i).e c W X _ g.toGc h3) ((snd e).e c W X _ g.toGc h4) fun v => ?_
      cases ei <;> first | rfl | cases h1
    · cases h
  | aug o i e =>
    refine ⟨fun c W X st g hp h => ?_, fun c W X l g hp h => ff h rfl⟩
    unfold chkS at h
    split at h
    · simp only [Bool.and_eq_true, Bool.or_eq_true, decide_eq_true_eq] at h
      obtain ⟨⟨⟨h1, h2⟩, h3⟩, h4⟩ := h
      obtain ⟨n1, n2, n3⟩ := g.name h3
      rw [op_of h2]
      exact ss_aug h1 g.nd n1 n2 n3 ((snd e).e c W X _ g.toGc h4)
    · cases h
  | ite k a b sa sb =>
    refine ⟨fun c W X st g hp h => ?_, fun c W X l g hp h => ff h rfl⟩
    unfold chkS at h
    split at h
    · simp only [Bool.and_eq_true] at h
      exact ss_if ((snd k).t c W X _ g.toGc h.1.1).1 (sa.b c W X _ g hp h.1.2) (sb.b c W X _ g hp h.2)
    · cases h
  | whl k b sb =>
    refine ⟨fun c W X st g hp h => ?_, fun c W X l g hp h => ff h rfl⟩
    unfold chkS at h
    split at h
    · have h2 := Bool.and_eq_true_iff.mp h
      exact ss_while hp ((snd k).t c W X _ g.toGc h2.1).1 (sb.b c W X _ g hp h2.2)
    · cases h
  | «for» p it b sb =>
    refine ⟨fun c W X st g hp h => ?_, fun c W X l g hp h => ff h rfl⟩
    unfold chkS at h
    split at h
    · simp only [Bool.and_eq_true] at h
      obtain ⟨⟨⟨h1, h2⟩, h3⟩, h4⟩ := h
      exact ss_for hp g.calm ((snd it).i c W X _ _ g.toGc h2) (g.pat h3) (sb.b c W X _ g hp h4) (notSet_of h1)
    · cases h
  | ret e =>
    refine ⟨fun c W X st g hp h => ?_, fun c W X l g hp h => ff h rfl⟩
    unfold chkS at h
    split at h
    · exact ss_ret ((snd e).e c W X _ g.toGc h)
    · cases h
  | retN =>
    refine ⟨fun c W X st g hp h => ?_, fun c W X l g hp h => ff h rfl⟩
    unfold chkS at h
    split at h
    · exact ss_retN
    · cases h
  | brk =>
    refine ⟨fun c W X st g hp h => ?_, fun c W X l g hp h => ff h rfl⟩
    unfold chkS at h
    split at h
    · exact ss_brk
    · cases h
  | cnt =>
    refine ⟨fun c W X st g hp h => ?_, fun c W X l g hp h => ff h rfl⟩
    unfold chkS at h
    split at h
    · exact ss_cnt
    · cases h
  | augS o a i e =>
    refine ⟨fun c W X st g hp h => ?_, fun c W X l g hp h => ff h rfl⟩
    unfold chkS at h
    split at h
    · rename_i ea ei p op v pos
      simp only [Bool.and_eq_true, Bool.or_eq_true, decide_eq_true_eq] at h
      obtain ⟨⟨⟨⟨⟨h1, h2⟩, h3⟩, h4⟩, h5⟩, h6⟩ := h
      rw [op_of h2]
      refine ss_augS h1 ((snd a).e c W X _ g.toGc h4) ((snd i).e c W X _ g.toGc h5) ((snd e).e c W X _ g.toGc h6) fun ov iv new => ?_
      cases ei <;> first | rfl | cases h3
    · cases h
  | rse k n es =>
    refine ⟨fun c W X st g hp h => ?_, fun c W X l g hp h => ff h rfl⟩
    unfold chkS at h
    split at h
    · rename_i x p e l p2 p3
      cases q : c.xt[k]? with
      | none => rw [q] at h; exact ff h rfl
      | some y =>
        obtain ⟨y, fs⟩ := y
        rw [q] at h
        simp only [Bool.and_eq_true, decide_eq_true_eq, beq_iff_eq] at h
        obtain ⟨⟨⟨⟨⟨rfl, rfl⟩, h3⟩, h4⟩, h5⟩, h6⟩ := h
        obtain ⟨d, rfl, rfl, xh⟩ := g.xcs k _ fs q
        exact ss_rse g.calm g.tks xh g.two (g.gl h3) ((snd es).a c W X _ g.toGc h6) h4 h5
    · cases h
  | «try» b hs sb =>
    refine ⟨fun c W X st g hp h => ?_, fun c W X l g hp h => ff h rfl⟩
    unfold chkS at h
    split at h
    · have h2 := Bool.and_eq_true_iff.mp h
      obtain ⟨k1, k2⟩ := hds_of g h2.2
      exact ss_try g.stk g.frm g.nd g.tks (fun W' pn xe tk hp' => sb.b c W' (X.tr pn xe) _ (g.tr pn xe tk) hp' h2.1) k1 k2
    · cases h
end
/-! ### all defs, level by level -/
/-- a def's frame as the checker wants it -/
structure Df where
  name : Str
  qual : Str
  params : Arguments
  body : List Stmt
  scope : Scope
  dvs : List V
  N : List Str
  ps : List Str
  fa : Addr
  fd : FuncData
/-- the tables of a law -/
structure Tbl where
  cs : List (Str × D)
  fr : List Str
  db : List (Nat × List D) := []
  kb : List (Nat × Nat × List Str × List Nat) := []
  xt : List (Str × List Str) := []
  ht : List (List Str × List Nat) := []
def scB (N ps : List Str) (sc : Scope) : Bool :=
  decide (sc.kind = .function) && !sc.isCoroutine && !sc.isGenerator && decide N.Nodup && decide (N.take ps.length = ps) && (ps.all fun x => locB sc x) && (sc.names.all fun y => decide (y.2 ≠ .free))
theorem sc_of {N ps : List Str} {sc : Scope} (h : scB N ps sc = true) : FnScope N ps sc := by
  unfold scB at h
  simp only [Bool.and_eq_true, Bool.not_eq_true', decide_eq_true_eq, List.all_eq_true] at h
  obtain ⟨⟨⟨⟨⟨⟨h1, h2⟩, h3⟩, h4⟩, h5⟩, h6⟩, h7⟩ := h
  exact ⟨h1, h2, h3, h4, h5, fun x hx => loc_of (h6 x hx), h7⟩
def ccOf (gn : List Str) (t : Tbl) (N : List Str) (sc : Scope) : CC := ⟨N, sc, fun _ => true, gn, t.cs, t.fr, t.db, t.kb, t.xt, t.ht⟩
def dfB (gn : List Str) (t : Tbl) (d : Df) (fn : Fn) : Bool :=
  scB d.N d.ps d.scope && decide (d.ps.length = fn.np) && decide (fn.nl = d.N.length) && chkB fn.body (ccOf gn t d.N d.scope) d.body
/-- what the head gives -/
structure Hd (P : Program) (w : World) (K : Fg) (mg : Str → Option Value) (base : Heap) (Z : Xt) (ds : List Df) (t : Tbl) : Prop where
  fun_ : ∀ (f : Nat) (d : Df), ds[f]? = some d → FunD K d.name d.qual d.params d.body d.scope d.dvs [] d.fa d.fd ∧ PySem.W.keepIn K (.ref d.fa) = true ∧ Binds K d.fd d.ps [] ∧ mg d.name = some (.ref d.fa) ∧
    (∀ es, (f, es) ∈ t.db → ∃ dvs dus, Binds K d.fd d.ps dus ∧ Vals dvs dus ∧ FlatVs es dvs) ∧ ∀ n ks perm, (f, n, ks, perm) ∈ t.kb → KBn K d.fd d.ps ks n perm
  csk : ∀ x d, (x, d) ∈ t.cs → ∃ v u, mg x = some u ∧ RelV v u ∧ ∀ B m H, (∀ a ∈ m, H a ≠ none) → RelD K B m H d v
  fre : ∀ x, x ∈ t.fr → mg x = none
  xcs : ∀ k x fs, t.xt[k]? = some (x, fs) → ∃ d : XcD, d.name = x ∧ d.flds = fs ∧ ∀ X : Cx, X.prog = P → X.w = w → X.K = K → X.mg = mg → X.base = base → XcH X Z k d
  hts : ∀ xs ids, (xs, ids) ∈ t.ht → ∃ vs : List Value, vs.length = xs.length ∧ (∀ (i : Nat) (x : Str), xs[i]? = some x → ∃ v, vs[i]? = some v ∧ mg x = some v) ∧ ∀ k C fs, Z[k]? = some (C, fs) → PySem.W.exmAny K (.ref C) vs = some (ids.contains k)
def dfsB (gn : List Str) (t : Tbl) : List Df → List Fn → Bool
  | [], [] => true
  | d :: ds, f :: fs => dfB gn t d f && dfsB gn t ds fs
  | _, _ => false
theorem dfs_of {gn : List Str} {t : Tbl} : ∀ {ds : List Df} {fs : List Fn}, dfsB gn t ds fs = true → ds.length = fs.length ∧ ∀ (i : Nat) (d : Df), ds[i]? = some d → ∃ f, fs[i]? = some f ∧ dfB gn t d f = true
  | [], [], _ => ⟨rfl, fun i d h => by simp at h⟩
  | [], _ :: _, h => by cases h
  | _ :: _, [], h => by cases h
  | d :: ds, f :: fs, h => by
    have h2 := Bool.and_eq_true_iff.mp (show (dfB gn t d f && dfsB gn t ds fs) = true from h)
    obtain ⟨h3, h4⟩ := dfs_of h2.2
    refine ⟨by simp [h3], fun i d' e => ?_⟩
    cases i with
    | zero => simp at e; subst e; exact ⟨f, rfl, h2.1⟩
    | succ i => exact h4 i d' (by simpa using e)
theorem lv_all {P : Program} {w : World} {K : Fg} {mg : Str → Option Value} {base : Heap} {Z : Xt} {ds : List Df} {t : Tbl} {fs : List Fn} {fuel : Nat} (hd : Hd P w K mg base Z ds t) (hc : dfsB (ds.map (·.name)) t ds fs = true) :
    ∀ (l : Nat) (i : Nat) (d : Df), ds[i]? = some d → FnOk P w K mg base (L2.CX P w) l d.fa d.fd d.ps (spF K Z (callF fs fuel l i))
  | 0, i, d, e => ⟨fun vs H Q E ⟨B, m, S, us, t, r, h⟩ => h.elim, fun A outer s H args us vs Q E _ _ _ _ ⟨B, m, S, _, t, r, h⟩ => h.elim⟩
  | l + 1, i, d, e => by
    obtain ⟨hl, hi⟩ := dfs_of hc
    obtain ⟨fn, ef, hb⟩ := hi i d e
    obtain ⟨F, hk, hbi, _⟩ := hd.fun_ i d e
    unfold dfB at hb
    simp only [Bool.and_eq_true, decide_eq_true_eq] at hb
    obtain ⟨⟨⟨b1, b2⟩, b3⟩, b4⟩ := hb
    have ih := lv_all hd hc l (fuel := fuel)
    have main := fun_lv (Z := Z) (P := P) (w := w) (mg := mg) (base := base) (C := ⟨callF fs fuel l, fuel, l⟩) (l := l) F (sc_of b1) b2 b3 fun X W g hp => by
      obtain ⟨h1, h2, h3, h4, h5, gc, gN, gs, gf, gr, gt, gk, g1, g2⟩ := g
      have hx := fun k x fs h => hd.xcs k x fs h
      subst h1 h2 h3 h4 h5
      refine (snds fn.body).b _ W X d.body ⟨⟨gc, by rw [gN]; exact (sc_of b1).nd, gN, gs, gf, by have := gr.un; omega, gt, fun f x hx => ?_, hd.csk, hd.fre⟩, gk, g1, g2, fun h => gr.mono h, fun k x fs h => ?_, hd.hts⟩ hp b4
      · have hx : (ds.map (·.name))[f]? = some x := hx
        rw [List.getElem?_map] at hx
        cases q : ds[f]? with
        | none => rw [q] at hx; cases hx
        | some d2 =>
          rw [q] at hx
          cases hx
          obtain ⟨_, k2, k3, k4, k5, k6⟩ := hd.fun_ f d2 q
          exact ⟨l, d2.fa, d2.fd, d2.ps, ih f d2 q, gr, k4, k2, k3, k5, k6⟩
      · obtain ⟨d, e1, e2, h⟩ := hx k x fs h
        exact ⟨d, e1, e2, h X rfl rfl rfl rfl rfl⟩
    have e2 : callF fs fuel (l + 1) i = fun xs => if xs.length = fn.np then callFn ⟨callF fs fuel l, fuel, l⟩ fn xs else M.bad := by
      funext xs
      show (match fs[i]? with
        | none => M.bad
        | some fn => if xs.length = fn.np then callFn ⟨callF fs fuel l, fuel, l⟩ fn xs else M.bad) = _
      rw [ef]
    rw [e2]
    exact main
end Fb
set_option Elab.async false
set_option linter.all false
set_option maxRecDepth 100000
set_option maxHeartbeats 4000000
/-! Fb16: the head's facts, a law's end. -/
namespace Fb
open PySem PySem.Spec PyProof.Rows L2
/-! ### constants of the module -/
mutual
def valB (K : Fg) : Nat → Value → D → Bool
  | l, .none, .non => true
  | l, .bool b, .bl c => b == c
  | l, .int i _, .int j => i == j
  | l, .str s _, .str x => decide (s = SO x) && okS x
  | l + 1, .ref a, .tup ds => (match K.lookup a with
    | some ⟨.type c, _, .seq its _, _⟩ => c == "tuple" && decide (its.size ≤ sizeLine) && valsB K l its.toList ds
    | _ => false)
  | l + 1, .ref a, .ro ds => (match K.lookup a with
    | some ⟨.type c, none, .seq its _, _⟩ => c == "list" && decide (its.size ≤ sizeLine) && valsB K l its.toList ds
    | _ => false)
  | _, _, _ => false
def valsB (K : Fg) : Nat → List Value → List D → Bool
  | l, [], [] => true
  | l + 1, u :: us, d :: ds => valB K l u d && valsB K l us ds
  | _, _, _ => false
end
mutual
theorem val_of {K : Fg} : ∀ {l : Nat} {u : Value} {d : D}, valB K l u d = true → ∃ v, RelV v u ∧ ∀ B m H, RelD K B m H d v
  | l, .none, d, h => by
    cases d <;> first | exact ⟨.non, rfl, fun _ _ _ => .non⟩ | (cases l <;> cases h)
  | l, .bool b, d, h => by
    cases d with
    | bl c => exact ⟨.bl c, by rw [← eq_of_beq (show (b == c) = true by cases l <;> exact h)]; rfl, fun _ _ _ => .bl c⟩
    | _ => cases l <;> cases h
  | l, .int b t, d, h => by
    cases d with
    | int c => exact ⟨.int c, by rw [← eq_of_beq (show (b == c) = true by cases l <;> exact h)]; exact ⟨t, rfl⟩, fun _ _ _ => .int c⟩
    | _ => cases l <;> cases h
  | l, .str s t, d, h => by
    cases d with
    | str c =>
      have h2 := Bool.and_eq_true_iff.mp (show (decide (s = SO c) && okS c) = true by cases l <;> exact h)
      exact ⟨.str (SO c), by rw [← of_decide_eq_true h2.1]; exact ⟨t, rfl⟩, fun _ _ _ => .str c h2.2⟩
    | _ => cases l <;> cases h
  | l, .ref a, d, h => by
    cases l with
    | zero => cases d <;> cases h
    | succ l =>
      cases d with
      | tup ds =>
        unfold valB at h
        split at h
        · rename_i c od its n sl q
          simp only [Bool.and_eq_true, beq_iff_eq, decide_eq_true_eq] at h
          obtain ⟨⟨rfl, h2⟩, h3⟩ := h
          obtain ⟨vs, r, rd⟩ := vals_of h3
          exact ⟨.ref a, rfl, fun B m H => .tup (.inr ⟨_, its, n, q, rfl, rfl, h2, r⟩) (rd B m H)⟩
        · cases h
      | ro ds =>
        unfold valB at h
        split at h
        · rename_i c its n sl q
          simp only [Bool.and_eq_true, beq_iff_eq, decide_eq_true_eq] at h
          obtain ⟨⟨rfl, h2⟩, h3⟩ := h
          obtain ⟨vs, r, rd⟩ := vals_of h3
          exact ⟨.ref a, rfl, fun B m H => .ro (.inr ⟨_, its, n, q, rfl, rfl, rfl, h2, r⟩) (rd B m H)⟩
        · cases h
      | _ => cases h
  | l, .float .., d, h => by cases l <;> cases d <;> cases h
  | l, .bytes .., d, h => by cases l <;> cases d <;> cases h
  | l, .type .., d, h => by cases l <;> cases d <;> cases h
  | l, .builtin .., d, h => by cases l <;> cases d <;> cases h
  | l, .ellipsis, d, h => by cases l <;> cases d <;> cases h
  | l, .notImplemented, d, h => by cases l <;> cases d <;> cases h
theorem vals_of {K : Fg} : ∀ {l : Nat} {us : List Value} {ds : List D}, valsB K l us ds = true → ∃ vs, Vals vs us ∧ ∀ B m H, RelDs K B m H ds vs
  | l, [], ds, h => by
    cases ds with
    | nil => exact ⟨[], .nil, fun _ _ _ => .nil⟩
    | cons => cases l <;> cases h
  | 0, u :: us, ds, h => by cases ds <;> cases h
  | l + 1, u :: us, ds, h => by
    cases ds with
    | nil => cases h
    | cons d ds =>
      have h2 := Bool.and_eq_true_iff.mp (show (valB K l u d && valsB K l us ds) = true from h)
      obtain ⟨v, r1, r2⟩ := val_of h2.1
      obtain ⟨vs, r3, r4⟩ := vals_of h2.2
      exact ⟨v :: vs, .cons r1 r3, fun B m H => .cons (r2 B m H) (r4 B m H)⟩
end
/-- the module's constants -/
def cstB (K : Fg) (q : Str × D) : Bool := match PySem.W.nsIn K mainGlobals q.1 with
  | some (some u) => valB K 1000 u q.2
  | _ => false
theorem cst_of {K : Fg} {h : Heap} {mg : Str → Option Value} {q : Str × D} (X : K.In h) (G : h.Ns mainGlobals mg) (c : cstB K q = true) : ∃ v u, mg q.1 = some u ∧ RelV v u ∧ ∀ B m H, RelD K B m H q.2 v := by
  unfold cstB at c
  split at c
  · rename_i u e
    obtain ⟨v, r1, r2⟩ := val_of c
    exact ⟨v, u, PySem.W.mg_of X G e, r1, r2⟩
  · cases c
/-! ### the Hook -/
/-- a clause's classes: each a global, and which of the own exceptions they take -/
def htB (K : Fg) (xd : List XcD) (q : List Str × List Nat) : Bool :=
  (q.1.all fun x => He.eqO (PySem.W.nsIn K mainGlobals x) (some (some (.ref (He.ga K x))))) &&
  (xd.zipIdx.all fun d => decide (PySem.W.exmAny K (.ref (He.ga K d.1.name)) (q.1.map fun x => Value.ref (He.ga K x)) = some (q.2.contains d.2)))
def zOf (K : Fg) (xd : List XcD) : Xt := xd.map fun d => (He.ga K d.name, d.flds)
abbrev AlF : Type := Bool × He.AlD × List XW
def obsF (t : Tbl) (file : Str) (xd : List XcD) (fa : List He.Fa) (fn : List He.DefD) (K : Fg) : AlF :=
  ((t.cs.all fun q => cstB K q) && ((xd.all fun d => xcB K file d) && t.ht.all fun q => htB K xd q), He.obsD fa fn K, xd.map fun d => xW K d.at_)
def valF (xd : List XcD) (fn : List He.DefD) : AlF := (true, He.valD fn, xd.map XcD.val)
def obsFG (n : Nat) (t : Tbl) (file : Str) (xd : List XcD) (fa : List He.Fa) (fn : List He.DefD) (g : Addr → Option Obj) : AlF := obsF t file xd fa fn (He.frG g (cStatics :: He.asD g n))
def hookF (n : Nat) (t : Tbl) (file : Str) (xd : List XcD) (fa : List He.Fa) (fn : List He.DefD) : PySem.W.Hook where
  α := AlF
  obs := fun s => obsFG n t file xd fa fn s.heap.get?
  val := fun _ => valF xd fn
  says := fun _ h => ∃ K : Fg, K.In h ∧ obsF t file xd fa fn K = valF xd fn
  of := fun _ _ e => ⟨_, He.frG_in, e⟩
  keeps := fun _ _ _ ⟨K, hK, c⟩ k => ⟨K, PySem.W.Frag.In.keeps hK k, c⟩
theorem obsFG_eq {n : Nat} {t : Tbl} {file : Str} {xd : List XcD} {fa : List He.Fa} {fn : List He.DefD} {g : Addr → Option Obj} {s : Shared} (h : ∀ a, g a = s.heap.get? a) : obsFG n t file xd fa fn g = (hookF n t file xd fa fn).obs s := by
  have e : g = s.heap.get? := funext h
  rw [e] <;> rfl
/-! ### defs as the checker has them -/
def fdOf (K : Fg) (a : Addr) : FuncData := match K.lookup a with
  | some ⟨_, _, .func fd, _⟩ => fd
  | _ => default
def mkDf (K : Fg) (d : He.DefD) (n : List Str × List Str) : Df := ⟨d.name, d.qual, d.params, d.body, d.scope, d.dvs K, n.1, n.2, He.fAd K d.at_, fdOf K (He.fAd K d.at_)⟩
def dsOf (K : Fg) : List He.DefD → List (List Str × List Str) → List Df
  | d :: ds, n :: ns => mkDf K d n :: dsOf K ds ns
  | _, _ => []
/-- n values are written; the defaults from the j-th on fill up -/
def BD (d : He.DefD) (ps : List Str) (n j : Nat) : Prop := ∀ (T : Addr) (kV doc pm : Value) (an : Option Addr) (cdv ct : Value) (us its : List Value), us.length = n → its.length = d.dfl.length →
  ∃ k, bindArgs (PySem.W.fnOf d.name d.qual d.params d.body d.scope (.ref T) kV doc pm an cdv ct) ⟨us, []⟩ = seqItems? (.ref T) >>= k ∧ k (some its.toArray) = pure (ps.zip (us ++ its.drop j))
/-- without defaults -/
def BN (d : He.DefD) (ps : List Str) : Prop := ∀ (kV doc pm : Value) (an : Option Addr) (cdv ct : Value) (us : List Value), us.length = ps.length → bindArgs (PySem.W.fnOf d.name d.qual d.params d.body d.scope .none kV doc pm an cdv ct) ⟨us, []⟩ = pure (ps.zip us)
/-- a call binds its positional values -/
def BA (d : He.DefD) (ps : List Str) : Prop := (d.dfl = [] ∧ BN d ps) ∨ (d.dfl ≠ [] ∧ BD d ps ps.length d.dfl.length)
def BAs : List He.DefD → List (List Str × List Str) → Prop
  | d :: ds, n :: ns => BA d n.2 ∧ BAs ds ns
  | _, _ => True
theorem dsOf_get {K : Fg} {x : Df} : ∀ {ds : List He.DefD} {ns : List (List Str × List Str)} {f : Nat}, BAs ds ns → (dsOf K ds ns)[f]? = some x → ∃ d n, ds[f]? = some d ∧ ns[f]? = some n ∧ BA d n.2 ∧ x = mkDf K d n
  | [], _, f, _, h => by simp [dsOf] at h
  | _ :: _, [], f, _, h => by simp [dsOf] at h
  | d :: ds, n :: ns, 0, b, h => by
    have e : mkDf K d n = x := by simpa [dsOf] using h
    exact ⟨d, n, rfl, rfl, b.1, e.symm⟩
  | d :: ds, n :: ns, f + 1, b, h => dsOf_get (ds := ds) (ns := ns) (f := f) b.2 (by simpa [dsOf] using h)
/-- a default as data -/
def dvB : D → He.Dv → Bool
  | .non, .non => true
  | .bl b, .bl c => b == c
  | .int i, .int j => i == j
  | .str x, .str s => decide (s = SO x) && okS x
  | _, _ => false
def dvsB : List D → List He.Dv → Bool
  | [], [] => true
  | d :: ds, v :: vs => dvB d v && dvsB ds vs
  | _, _ => false
theorem dvs_of {K : Fg} : ∀ {ds : List D} {vs : List He.Dv}, dvsB ds vs = true → FlatVs ds (vs.map (He.Dv.v K))
  | [], [], _ => .nil
  | [], _ :: _, h => by cases h
  | _ :: _, [], h => by cases h
  | d :: ds, v :: vs, h => by
    have h2 := Bool.and_eq_true_iff.mp (show (dvB d v && dvsB ds vs) = true from h)
    refine .cons ?_ (dvs_of h2.2)
    have h1 := h2.1
    unfold dvB at h1
    split at h1
    · rfl
    · rw [eq_of_beq h1]; rfl
    · rw [eq_of_beq h1]; rfl
    · have h3 := Bool.and_eq_true_iff.mp h1
      rw [of_decide_eq_true h3.1]
      show (if okS _ then _ else _) = _
      rw [if_pos h3.2]; rfl
    · cases h1
/-- calls with a default -/
def DBA (fn : List He.DefD) (ns : List (List Str × List Str)) : List (Nat × List D) → Prop
  | [] => True
  | (f, es) :: r => (∃ d n, fn[f]? = some d ∧ ns[f]? = some n ∧ d.dfl ≠ [] ∧ es.length ≤ d.dfl.length ∧ es.length ≤ n.2.length ∧ dvsB es (d.dfl.drop (d.dfl.length - es.length)) = true ∧ BD d n.2 (n.2.length - es.length) (d.dfl.length - es.length)) ∧ DBA fn ns r
def KB1 (d : He.DefD) (ps : List Str) (n : Nat) (ks : List Str) (perm : List Nat) : Prop := ∀ (kV doc pm : Value) (an : Option Addr) (cdv ct : Value) (us ws zs : List Value), us.length = n → ws.length = ks.length → pickL perm (us ++ ws) = some zs →
  bindArgs (PySem.W.fnOf d.name d.qual d.params d.body d.scope .none kV doc pm an cdv ct) ⟨us, ks.zip ws⟩ = pure (ps.zip zs)
/-- calls with keywords -/
def KBA (fn : List He.DefD) (ns : List (List Str × List Str)) : List (Nat × Nat × List Str × List Nat) → Prop
  | [] => True
  | (f, n, ks, perm) :: r => (∃ d nn, fn[f]? = some d ∧ ns[f]? = some nn ∧ d.dfl = [] ∧ KB1 d nn.2 n ks perm) ∧ KBA fn ns r
theorem DBA.get {fn : List He.DefD} {ns : List (List Str × List Str)} {f : Nat} {es : List D} : ∀ {l : List (Nat × List D)}, DBA fn ns l → (f, es) ∈ l → ∃ d n, fn[f]? = some d ∧ ns[f]? = some n ∧ d.dfl ≠ [] ∧ es.length ≤ d.dfl.length ∧ es.length ≤ n.2.length ∧ dvsB es (d.dfl.drop (d.dfl.length - es.length)) = true ∧ BD d n.2 (n.2.length - es.length) (d.dfl.length - es.length)
  | [], _, h => nomatch h
  | (f', es') :: r, b, h => by
    rcases List.mem_cons.mp h with e | h
    · cases e; exact b.1
    · exact DBA.get b.2 h
theorem KBA.get {fn : List He.DefD} {ns : List (List Str × List Str)} {f n : Nat} {ks : List Str} {perm : List Nat} : ∀ {l : List (Nat × Nat × List Str × List Nat)}, KBA fn ns l → (f, n, ks, perm) ∈ l → ∃ d nn, fn[f]? = some d ∧ ns[f]? = some nn ∧ d.dfl = [] ∧ KB1 d nn.2 n ks perm
  | [], _, h => nomatch h
  | (f', n', ks', perm') :: r, b, h => by
    rcases List.mem_cons.mp h with e | h
    · cases e; exact b.1
    · exact KBA.get b.2 h
theorem binds_of {K : Fg} {d : He.DefD} {ps : List Str} {fa : Addr} {fd : FuncData} (F : FunD K d.name d.qual d.params d.body d.scope (d.dvs K) [] fa fd) (b : BA d ps) : Binds K fd ps [] := by
  rcases b with ⟨e, b⟩ | ⟨e, b⟩
  · have e3 : d.dvs K = [] := by unfold He.DefD.dvs; rw [e]; rfl
    rw [e3] at F
    exact F.bindsN b
  · have hl : (d.dvs K).length = d.dfl.length := by unfold He.DefD.dvs; rw [List.length_map]
    obtain ⟨ds, r, h⟩ := F.binds1 (ps := ps) ps.length (d.dvs K).length (fun z => e (List.eq_nil_of_length_eq_zero (by rw [← hl, z]; rfl))) (by omega) fun T kV doc pm an cdv ct us its h1 h2 => by
      have := b T kV doc pm an cdv ct us its h1 (by rw [h2, hl])
      rw [hl]; exact this
    have : ds = [] := by
      have := r.length
      rw [List.length_drop, Nat.sub_self] at this
      exact List.eq_nil_of_length_eq_zero this.symm
    rw [this] at h
    exact h
theorem dbinds_of {K : Fg} {d : He.DefD} {ps : List Str} {fa : Addr} {fd : FuncData} {es : List D} (F : FunD K d.name d.qual d.params d.body d.scope (d.dvs K) [] fa fd) (hn : d.dfl ≠ []) (h1 : es.length ≤ d.dfl.length) (h2 : es.length ≤ ps.length) (h3 : dvsB es (d.dfl.drop (d.dfl.length - es.length)) = true)
    (b : BD d ps (ps.length - es.length) (d.dfl.length - es.length)) : ∃ dvs dus, Binds K fd ps dus ∧ Vals dvs dus ∧ FlatVs es dvs := by
  have hl : (d.dvs K).length = d.dfl.length := by unfold He.DefD.dvs; rw [List.length_map]
  obtain ⟨ds, r, h⟩ := F.binds1 (ps := ps) (ps.length - es.length) (d.dfl.length - es.length) (fun z => hn (List.eq_nil_of_length_eq_zero (by rw [← hl, z]; rfl))) (by omega) fun T kV doc pm an cdv ct us its h1 h2 => b T kV doc pm an cdv ct us its h1 (by rw [h2, hl])
  refine ⟨_, ds, h, r, ?_⟩
  have e : (d.dvs K).drop (d.dfl.length - es.length) = (d.dfl.drop (d.dfl.length - es.length)).map (He.Dv.v K) := by unfold He.DefD.dvs; rw [List.map_drop]
  rw [e]
  exact dvs_of h3
theorem kbinds_of {K : Fg} {d : He.DefD} {ps ks : List Str} {n : Nat} {perm : List Nat} {fa : Addr} {fd : FuncData} (F : FunD K d.name d.qual d.params d.body d.scope (d.dvs K) [] fa fd) (hn : d.dfl = []) (b : KB1 d ps n ks perm) : KBn K fd ps ks n perm := by
  have e3 : d.dvs K = [] := by unfold He.DefD.dvs; rw [hn]; rfl
  rw [e3] at F
  obtain ⟨oc, od, dV, kV, doc, pm, an, cdv, ct, osl, rfl, lk, hcd, hD, hK⟩ := F.ex
  rcases hD with ⟨_, rfl⟩ | ⟨e, _⟩
  · exact fun s us ws zs X h1 h2 h3 => .of_eq (b kV doc pm an cdv ct us ws zs h1 h2 h3)
  · exact absurd rfl e
/-- a def in the plain way: a global of its own name -/
def plainD (d : He.DefD) : Bool := decide (d.at_ = (d.name, none)) && d.kwd.isEmpty
/-- the facts asked for -/
def faOf (fn : List He.DefD) (fr : List Str) : List He.Fa := (fn.map fun d => He.Fa.glo d.name) ++ fr.map .free
/-- a class's lines -/
def clsLines : Stmt → List Stmt
  | .ClassDef _ _ _ b _ _ _ _ _ _ _ => b
  | _ => []
/-- an own exception's text -/
def xdB (d : XcD) : Bool := shapeB d && decide d.flds.Nodup && decide (d.flds.length ≤ 20)
def XBAs : List XcD → Prop
  | [] => True
  | d :: r => XBA d ∧ XBAs r
theorem XBAs.get : ∀ {l : List XcD} {i : Nat} {d : XcD}, XBAs l → l[i]? = some d → XBA d
  | [], i, d, _, h => by simp at h
  | x :: r, 0, d, b, h => by
    have : x = d := by simpa using h
    rw [← this]; exact b.1
  | x :: r, i + 1, d, b, h => XBAs.get (l := r) (i := i) b.2 (by simpa using h)
/-- what the head asks of a law's text -/
structure Lk (P : Program) (t : Tbl) (file : Str) (xd : List XcD) (fn : List He.DefD) (ns : List (List Str × List Str)) : Prop where
  plain : fn.all plainD = true
  ba : BAs fn ns
  db : DBA fn ns t.db
  kb : KBA fn ns t.kb
  xd_ : xd.all xdB = true
  xba : XBAs xd
  xt : t.xt = xd.map fun d => (d.name, d.flds)
  file_ : (P.main.file : Str) = file
  sup : (P.main.scope.names.lookup ("super" : Str)).isSome = false
theorem hd_of {P : Program} {w : World} {K : Fg} {h : Heap} {mg : Str → Option Value} {base : Heap} {t : Tbl} {file : Str} {xd : List XcD} {fn : List He.DefD} {ns : List (List Str × List Str)} (X : K.In h) (G : h.Ns mainGlobals mg)
    (c : obsF t file xd (faOf fn t.fr) fn K = valF xd fn) (L : Lk P t file xd fn ns) : Hd P w K mg base (zOf K xd) (dsOf K fn ns) t := by
  have c0 : ((t.cs.all fun q => cstB K q) && ((xd.all fun d => xcB K file d) && t.ht.all fun q => htB K xd q)) = true := congrArg (fun z : AlF => z.1) c
  have c2 : He.SaysD (faOf fn t.fr) fn K := congrArg (fun z : AlF => z.2.1) c
  have c3 : xd.map (fun d => xW K d.at_) = xd.map XcD.val := congrArg (fun z : AlF => z.2.2) c
  simp only [Bool.and_eq_true, List.all_eq_true] at c0
  obtain ⟨c1, c4, c5⟩ := c0
  have fact : ∀ f ∈ faOf fn t.fr, f.ok K = true := fun f hf => by
    obtain ⟨i, hi, e⟩ := List.mem_iff_getElem.mp hf
    exact c2.fact i (f := f) (by rw [List.getElem?_eq_getElem hi, e])
  have dfl : ∀ d ∈ fn, d.at_ = (d.name, none) ∧ d.kwd = [] := fun d hd => by
    have z := List.all_eq_true.mp L.plain d hd
    unfold plainD at z
    simp only [Bool.and_eq_true, decide_eq_true_eq, List.isEmpty_iff] at z
    exact ⟨z.1, z.2⟩
  have fund : ∀ d ∈ fn, FunD K d.name d.qual d.params d.body d.scope (d.dvs K) [] (He.fAd K d.at_) (fdOf K (He.fAd K d.at_)) := fun d hd => by
    obtain ⟨i, hi, e⟩ := List.mem_iff_getElem.mp hd
    obtain ⟨fd, F⟩ := c2.def_ i (d := d) (by rw [List.getElem?_eq_getElem hi, e])
    obtain ⟨_, e2⟩ := dfl d hd
    have e4 : d.kws K = [] := by unfold He.DefD.kws; rw [e2]; rfl
    rw [e4] at F
    have e5 : fdOf K (He.fAd K d.at_) = fd := by
      obtain ⟨oc, od, dV, kV, doc, pm, an, cdv, ct, osl, rfl, lk, _⟩ := F.ex
      unfold fdOf
      rw [lk]
    rw [e5]; exact F
  refine ⟨fun f x hx => ?_, fun x d hx => ?_, fun x hx => ?_, fun k x fs hk => ?_, fun xs ids hm => ?_⟩
  · obtain ⟨d, n, h1, h2, h3, rfl⟩ := dsOf_get L.ba hx
    have hd : d ∈ fn := List.mem_of_getElem? h1
    have F := fund d hd
    have e := He.glo_ok X G (fact (.glo d.name) (List.mem_append_left _ (List.mem_map.mpr ⟨d, hd, rfl⟩)))
    refine ⟨F, F.kp, binds_of F h3, ?_, fun es he => ?_, fun m ks perm he => ?_⟩
    · show mg d.name = some (.ref (He.fAd K d.at_))
      rw [(dfl d hd).1, e]
      rfl
    · obtain ⟨d', n', g1, g2, g3, g4, g5, g6, g7⟩ := L.db.get he
      rw [h1] at g1; cases g1
      rw [h2] at g2; cases g2
      exact dbinds_of F g3 g4 g5 g6 g7
    · obtain ⟨d', n', g1, g2, g3, g4⟩ := L.kb.get he
      rw [h1] at g1; cases g1
      rw [h2] at g2; cases g2
      exact kbinds_of F g3 g4
  · obtain ⟨v, u, k1, k2, k3⟩ := cst_of X G (c1 (x, d) hx)
    exact ⟨v, u, k1, k2, fun B m H _ => k3 B m H⟩
  · exact He.free_ok X G (fact (.free x) (List.mem_append_right _ (List.mem_map.mpr ⟨x, hx, rfl⟩)))
  · rw [L.xt, List.getElem?_map] at hk
    cases q : xd[k]? with
    | none => rw [q] at hk; cases hk
    | some d =>
      rw [q] at hk
      cases hk
      have hm : d ∈ xd := List.mem_of_getElem? q
      have b1 := List.all_eq_true.mp L.xd_ d hm
      unfold xdB at b1
      simp only [Bool.and_eq_true, decide_eq_true_eq] at b1
      obtain ⟨⟨b1, b2⟩, b3⟩ := b1
      have b4 : xW K d.at_ = d.val := by
        have := congrArg (fun l => l[k]?) c3
        simpa [q] using this
      have b5 := c4 d hm
      have ok := xc_of (P := P) b5 b4 b1 L.file_ L.sup
      have hs : mg "super" = none := by
        unfold xcB at b5
        simp only [Bool.and_eq_true] at b5
        exact PySem.W.mg_none_of X G (He.eqO_ok b5.1.1.1.2)
      refine ⟨d, rfl, rfl, fun X' e1 e2 e3 e4 e5 => ?_⟩
      subst e1 e2 e3 e4 e5
      exact ⟨by unfold zOf; rw [List.getElem?_map, q]; rfl, ok, init_fn ok b1 (L.xba.get q) hs, b2, PySem.W.mg_of X G ok.glo, b3⟩
  · have h5 := c5 (xs, ids) hm
    unfold htB at h5
    simp only [Bool.and_eq_true, List.all_eq_true, decide_eq_true_eq] at h5
    obtain ⟨h6, h7⟩ := h5
    refine ⟨xs.map fun x => Value.ref (He.ga K x), by rw [List.length_map], fun i x hi => ⟨_, by rw [List.getElem?_map, hi]; rfl, PySem.W.mg_of X G (He.eqO_ok (h6 x (List.mem_of_getElem? hi)))⟩, fun k C fs hz => ?_⟩
    unfold zOf at hz
    rw [List.getElem?_map] at hz
    cases q : xd[k]? with
    | none => rw [q] at hz; cases hz
    | some d =>
      rw [q] at hz
      cases hz
      exact h7 (d, k) (List.mem_iff_getElem?.mpr ⟨k, by simp [List.getElem?_zipIdx, q]⟩)
theorem noCX {P : Program} {w : World} (H : Hp) (s : Shared) (e : Value) (s' : Shared) (h : L2.CX P w [] H s (fun _ _ _ => False) e s') : False := by
  obtain ⟨_, _, _, _, _, _, _, _, _, _, _, _, z⟩ := h
  exact z
/-- the evaluator's answer is the law's -/
theorem law_sp {K : Fg} {Z : Xt} {f : List D → M D} {H : Hp} {a : Addr} {ns : List Int} (hS : SqL K H a (ns.map V.int)) (hf : ∃ S, f [.ro (ns.map .int)] [] = .ok (.bl true) S) : spF K Z f [.ref a] H (fun v _ => v = .bl true) fun _ _ _ => False := by
  have ri : ∀ ns : List Int, RelDs K [] [] H (ns.map .int) (ns.map V.int) := fun ns => by
    induction ns with
    | nil => exact .nil
    | cons i r ih => exact .cons (.int i) ih
  refine ⟨[], [], [], [.ro (ns.map .int)], ⟨rfl, .nil, fun _ h => (nomatch h), fun i c a h _ => by simp at h⟩, .cons (.ro (hS.imp (fun h => ⟨h, by simp, by simp⟩) id) (ri ns)) .nil, ?_⟩
  obtain ⟨S, e⟩ := hf
  rw [e]
  exact fun m' H' _ _ v r => r.bl_of
/-- a law by the evaluator -/
theorem law_of {l : PySem.W.OpenLaw} {n k : Nat} {q : Program} {loose : List Str} {XP : (Str → Option Value) → Heap → Prop} {d : DefRec} {x : Str} {hn : Nat} {t : Tbl} {file : Str} {xd : List XcD} {fn : List He.DefD} {ns : List (List Str × List Str)} {fs : List Fn} {fuel L : Nat} {dl : He.DefD} {N : List Str}
    (hm : l.most = some n) (hn2 : n ≤ sizeLine) (hdf : d.params.defaults = []) (hr : Room k callerA) (lk : Lk l.prog t file xd fn ns) (hc : ∀ K, dfsB ((dsOf K fn ns).map (·.name)) t (dsOf K fn ns) fs = true)
    (hL : ∀ K, (dsOf K fn ns)[L]? = some (mkDf K dl (N, [x]))) (hx : dl.name = d.name) (hbl : BN dl [x]) (hdl : dl.dfl = [])
    (ev : ∀ is : List Int, is.length ≤ n → ∃ S, callF fs fuel k L [.ro (is.map .int)] [] = .ok (.bl true) S) :
    PySem.W.WalkO q loose XP (hookF hn t file xd (faOf fn t.fr) fn).says l.row.toRowW d [] (fun f vs => PySem.call f vs) := by
  refine Att.attach_call hm hdf fun w s₀ s₁ mg mb fa o pm cd doc a vs is G Y _ _ _ hmg ha hi hle hgn => ?_
  obtain ⟨K, KX, c⟩ := Y
  have heads : ∀ base : Heap, Hd l.prog w K mg base (zOf K xd) (dsOf K fn ns) t := fun base => hd_of KX G.T.g c lk
  obtain ⟨F, hk, hbi, hmg', _⟩ := (heads s₁.heap).fun_ _ _ (hL K)
  have efa : fa = He.fAd K dl.at_ := by
    have e1 := hmg'
    rw [show (mkDf K dl (N, [x])).name = d.name from hx, hmg] at e1
    exact Value.ref.inj (Option.some.inj e1)
  have lv := fun base => lv_all (fuel := fuel) (heads base) (hc K) k L _ (hL K)
  subst efa
  refine L2.law_call (x := x) KX G.T.g G.T.b G.T.builtins G.T.nolimit hgn ha hi (Nat.le_trans hle hn2) hr (fun base _ _ => lv base) (fun s u => ?_) (fun H _ hS => law_sp hS (ev is hle)) fun H e s' => noCX H s₁ e s'
  have F' : FunD K dl.name dl.qual dl.params dl.body dl.scope (dl.dvs K) [] (He.fAd K dl.at_) (fdOf K (He.fAd K dl.at_)) := F
  have e3 : dl.dvs K = [] := by unfold He.DefD.dvs; rw [hdl]; rfl
  rw [e3] at F'
  exact FunD.bindsA (ps := [x]) F' hbl s [u] rfl
end Fb
set_option Elab.async false
set_option linter.all false
set_option maxRecDepth 100000
set_option maxHeartbeats 0
namespace Lw
open PySem PySem.Spec PyProof.Rows L2 Fb
def top (i : Nat) : Stmt := PySem.Challenge.pw_fewbodies_k02_types.main.body.getD i (.Pass ⟨0, 0, 0, 0⟩)
def dd (i : Nat) (n : String) (dfl : List He.Dv) : He.DefD := ⟨(PySem.Str.ofString n, none), PySem.Str.ofString n, PySem.Str.ofString n, defArgs (top i), defBody (top i), defScope (top i), dfl, []⟩
def dd0 : He.DefD := dd 17 "are_texts" []
def dd1 : He.DefD := dd 18 "is_name" []
def dd2 : He.DefD := dd 20 "is_type" []
def dd3 : He.DefD := dd 21 "type_text" []
def dd4 : He.DefD := dd 22 "read_type" []
def dd5 : He.DefD := dd 24 "_law_box" []
def dd6 : He.DefD := dd 25 "_law_take" []
def dd7 : He.DefD := dd 26 "_law_bias" []
def dd8 : He.DefD := dd 27 "_law_reserved" []
def dd9 : He.DefD := dd 28 "_law_letter" []
def dd10 : He.DefD := dd 29 "_law_fresh" []
def dd11 : He.DefD := dd 30 "_law_lot" []
def dd12 : He.DefD := dd 31 "_law_program" []
def dd13 : He.DefD := dd 32 "_law_name_due" []
def dd14 : He.DefD := dd 33 "_law_type_due" []
def dd15 : He.DefD := dd 34 "_law_is" []
def dd16 : He.DefD := dd 35 "_law_near_names" []
def dd17 : He.DefD := dd 36 "_law_names_right" []
def dd18 : He.DefD := dd 37 "_law_drawn" []
def dd19 : He.DefD := dd 38 "_law_near_types" []
def dd20 : He.DefD := dd 39 "_law_types_right" []
def dd21 : He.DefD := dd 40 "_law_spaced" []
def dd22 : He.DefD := dd 41 "_law_fitting" []
def dd23 : He.DefD := dd 42 "_law_told" []
def dd24 : He.DefD := dd 43 "_law_read_due" []
def dd25 : He.DefD := dd 44 "_law_alike" []
def dd26 : He.DefD := dd 45 "_law_read_right" []
def dd27 : He.DefD := dd 46 "_law_odd_word" []
def dd28 : He.DefD := dd 47 "_law_reading_right" []
def dd29 : He.DefD := dd 48 "law" []
def fn : List He.DefD := [dd0, dd1, dd2, dd3, dd4, dd5, dd6, dd7, dd8, dd9, dd10, dd11, dd12, dd13, dd14, dd15, dd16, dd17, dd18, dd19, dd20, dd21, dd22, dd23, dd24, dd25, dd26, dd27, dd28, dd29]
def ns0 : List PySem.Str := ["thing", "part"]
def ps0 : List PySem.Str := ["thing"]
def ns1 : List PySem.Str := ["thing", "sign"]
def ps1 : List PySem.Str := ["thing"]
def ns2 : List PySem.Str := ["program", "thing", "name"]
def ps2 : List PySem.Str := ["program", "thing"]
def ns3 : List PySem.Str := ["names"]
def ps3 : List PySem.Str := ["names"]
def ns4 : List PySem.Str := ["program", "text", "words", "at", "word"]
def ps4 : List PySem.Str := ["program", "text"]
def ns5 : List PySem.Str := ["script", "cells", "k"]
def ps5 : List PySem.Str := ["script"]
def ns6 : List PySem.Str := ["box", "many", "cells"]
def ps6 : List PySem.Str := ["box", "many"]
def ns7 : List PySem.Str := ["box", "place", "many", "cell", "habit"]
def ps7 : List PySem.Str := ["box", "place", "many"]
def ns8 : List PySem.Str := []
def ps8 : List PySem.Str := []
def ns9 : List PySem.Str := ["box"]
def ps9 : List PySem.Str := ["box"]
def ns10 : List PySem.Str := ["box", "place", "taken", "word", "k"]
def ps10 : List PySem.Str := ["box", "place", "taken"]
def ns11 : List PySem.Str := ["box", "place", "many", "taken", "row", "k"]
def ps11 : List PySem.Str := ["box", "place", "many", "taken"]
def ns12 : List PySem.Str := ["box", "wraps", "grounds", "block", "plain", "cased", "name"]
def ps12 : List PySem.Str := ["box"]
def ns13 : List PySem.Str := ["thing", "sign"]
def ps13 : List PySem.Str := ["thing"]
def ns14 : List PySem.Str := ["program", "thing", "k", "lot"]
def ps14 : List PySem.Str := ["program", "thing"]
def ns15 : List PySem.Str := ["told", "due"]
def ps15 : List PySem.Str := ["told", "due"]
def ns16 : List PySem.Str := ["box", "name", "at", "sign", "kept", "long", "row"]
def ps16 : List PySem.Str := ["box", "name"]
def ns17 : List PySem.Str := ["box", "program", "names", "name", "thing"]
def ps17 : List PySem.Str := ["box", "program"]
def ns18 : List PySem.Str := ["box", "program", "most", "row", "k", "wraps", "grounds"]
def ps18 : List PySem.Str := ["box", "program", "most"]
def ns19 : List PySem.Str := ["box", "program", "names", "at", "fresh", "row", "wrap", "wraps", "grounds"]
def ps19 : List PySem.Str := ["box", "program", "names"]
def ns20 : List PySem.Str := ["box", "program", "k", "names", "text", "thing"]
def ps20 : List PySem.Str := ["box", "program"]
def ns21 : List PySem.Str := ["box", "words", "rest", "text", "k", "tail", "many"]
def ps21 : List PySem.Str := ["box", "words"]
def ns22 : List PySem.Str := ["words", "k"]
def ps22 : List PySem.Str := ["words"]
def ns23 : List PySem.Str := ["program", "text", "e"]
def ps23 : List PySem.Str := ["program", "text"]
def ns24 : List PySem.Str := ["program", "words", "at"]
def ps24 : List PySem.Str := ["program", "words"]
def ns25 : List PySem.Str := ["told", "due", "k"]
def ps25 : List PySem.Str := ["told", "due"]
def ns26 : List PySem.Str := ["box", "program", "words", "fit"]
def ps26 : List PySem.Str := ["box", "program", "words"]
def ns27 : List PySem.Str := ["box", "program", "known", "fresh", "other", "row"]
def ps27 : List PySem.Str := ["box", "program"]
def ns28 : List PySem.Str := ["box", "program", "short", "k", "wraps", "grounds", "words", "at", "later", "rows", "row"]
def ps28 : List PySem.Str := ["box", "program"]
def ns29 : List PySem.Str := ["script", "box", "k", "program"]
def ps29 : List PySem.Str := ["script"]
def ns : List (List PySem.Str × List PySem.Str) := [(ns0, ps0), (ns1, ps1), (ns2, ps2), (ns3, ps3), (ns4, ps4), (ns5, ps5), (ns6, ps6), (ns7, ps7), (ns8, ps8), (ns9, ps9), (ns10, ps10), (ns11, ps11), (ns12, ps12), (ns13, ps13), (ns14, ps14), (ns15, ps15), (ns16, ps16), (ns17, ps17), (ns18, ps18), (ns19, ps19), (ns20, ps20), (ns21, ps21), (ns22, ps22), (ns23, ps23), (ns24, ps24), (ns25, ps25), (ns26, ps26), (ns27, ps27), (ns28, ps28), (ns29, ps29)]
theorem bn0 : BN dd0 ps0 := fun _ _ _ _ _ _ us hl => match us, hl with | [_], _ => rfl
theorem ba0 : BA dd0 ps0 := .inl ⟨rfl, bn0⟩
theorem bn1 : BN dd1 ps1 := fun _ _ _ _ _ _ us hl => match us, hl with | [_], _ => rfl
theorem ba1 : BA dd1 ps1 := .inl ⟨rfl, bn1⟩
theorem bn2 : BN dd2 ps2 := fun _ _ _ _ _ _ us hl => match us, hl with | [_, _], _ => rfl
theorem ba2 : BA dd2 ps2 := .inl ⟨rfl, bn2⟩
theorem bn3 : BN dd3 ps3 := fun _ _ _ _ _ _ us hl => match us, hl with | [_], _ => rfl
theorem ba3 : BA dd3 ps3 := .inl ⟨rfl, bn3⟩
theorem bn4 : BN dd4 ps4 := fun _ _ _ _ _ _ us hl => match us, hl with | [_, _], _ => rfl
theorem ba4 : BA dd4 ps4 := .inl ⟨rfl, bn4⟩
theorem bn5 : BN dd5 ps5 := fun _ _ _ _ _ _ us hl => match us, hl with | [_], _ => rfl
theorem ba5 : BA dd5 ps5 := .inl ⟨rfl, bn5⟩
theorem bn6 : BN dd6 ps6 := fun _ _ _ _ _ _ us hl => match us, hl with | [_, _], _ => rfl
theorem ba6 : BA dd6 ps6 := .inl ⟨rfl, bn6⟩
theorem bn7 : BN dd7 ps7 := fun _ _ _ _ _ _ us hl => match us, hl with | [_, _, _], _ => rfl
theorem ba7 : BA dd7 ps7 := .inl ⟨rfl, bn7⟩
theorem bn8 : BN dd8 ps8 := fun _ _ _ _ _ _ us hl => match us, hl with | [], _ => rfl
theorem ba8 : BA dd8 ps8 := .inl ⟨rfl, bn8⟩
theorem bn9 : BN dd9 ps9 := fun _ _ _ _ _ _ us hl => match us, hl with | [_], _ => rfl
theorem ba9 : BA dd9 ps9 := .inl ⟨rfl, bn9⟩
theorem bn10 : BN dd10 ps10 := fun _ _ _ _ _ _ us hl => match us, hl with | [_, _, _], _ => rfl
theorem ba10 : BA dd10 ps10 := .inl ⟨rfl, bn10⟩
theorem bn11 : BN dd11 ps11 := fun _ _ _ _ _ _ us hl => match us, hl with | [_, _, _, _], _ => rfl
theorem ba11 : BA dd11 ps11 := .inl ⟨rfl, bn11⟩
theorem bn12 : BN dd12 ps12 := fun _ _ _ _ _ _ us hl => match us, hl with | [_], _ => rfl
theorem ba12 : BA dd12 ps12 := .inl ⟨rfl, bn12⟩
theorem bn13 : BN dd13 ps13 := fun _ _ _ _ _ _ us hl => match us, hl with | [_], _ => rfl
theorem ba13 : BA dd13 ps13 := .inl ⟨rfl, bn13⟩
theorem bn14 : BN dd14 ps14 := fun _ _ _ _ _ _ us hl => match us, hl with | [_, _], _ => rfl
theorem ba14 : BA dd14 ps14 := .inl ⟨rfl, bn14⟩
theorem bn15 : BN dd15 ps15 := fun _ _ _ _ _ _ us hl => match us, hl with | [_, _], _ => rfl
theorem ba15 : BA dd15 ps15 := .inl ⟨rfl, bn15⟩
theorem bn16 : BN dd16 ps16 := fun _ _ _ _ _ _ us hl => match us, hl with | [_, _], _ => rfl
theorem ba16 : BA dd16 ps16 := .inl ⟨rfl, bn16⟩
theorem bn17 : BN dd17 ps17 := fun _ _ _ _ _ _ us hl => match us, hl with | [_, _], _ => rfl
theorem ba17 : BA dd17 ps17 := .inl ⟨rfl, bn17⟩
theorem bn18 : BN dd18 ps18 := fun _ _ _ _ _ _ us hl => match us, hl with | [_, _, _], _ => rfl
theorem ba18 : BA dd18 ps18 := .inl ⟨rfl, bn18⟩
theorem bn19 : BN dd19 ps19 := fun _ _ _ _ _ _ us hl => match us, hl with | [_, _, _], _ => rfl
theorem ba19 : BA dd19 ps19 := .inl ⟨rfl, bn19⟩
theorem bn20 : BN dd20 ps20 := fun _ _ _ _ _ _ us hl => match us, hl with | [_, _], _ => rfl
theorem ba20 : BA dd20 ps20 := .inl ⟨rfl, bn20⟩
theorem bn21 : BN dd21 ps21 := fun _ _ _ _ _ _ us hl => match us, hl with | [_, _], _ => rfl
theorem ba21 : BA dd21 ps21 := .inl ⟨rfl, bn21⟩
theorem bn22 : BN dd22 ps22 := fun _ _ _ _ _ _ us hl => match us, hl with | [_], _ => rfl
theorem ba22 : BA dd22 ps22 := .inl ⟨rfl, bn22⟩
theorem bn23 : BN dd23 ps23 := fun _ _ _ _ _ _ us hl => match us, hl with | [_, _], _ => rfl
theorem ba23 : BA dd23 ps23 := .inl ⟨rfl, bn23⟩
theorem bn24 : BN dd24 ps24 := fun _ _ _ _ _ _ us hl => match us, hl with | [_, _], _ => rfl
theorem ba24 : BA dd24 ps24 := .inl ⟨rfl, bn24⟩
theorem bn25 : BN dd25 ps25 := fun _ _ _ _ _ _ us hl => match us, hl with | [_, _], _ => rfl
theorem ba25 : BA dd25 ps25 := .inl ⟨rfl, bn25⟩
theorem bn26 : BN dd26 ps26 := fun _ _ _ _ _ _ us hl => match us, hl with | [_, _, _], _ => rfl
theorem ba26 : BA dd26 ps26 := .inl ⟨rfl, bn26⟩
theorem bn27 : BN dd27 ps27 := fun _ _ _ _ _ _ us hl => match us, hl with | [_, _], _ => rfl
theorem ba27 : BA dd27 ps27 := .inl ⟨rfl, bn27⟩
theorem bn28 : BN dd28 ps28 := fun _ _ _ _ _ _ us hl => match us, hl with | [_, _], _ => rfl
theorem ba28 : BA dd28 ps28 := .inl ⟨rfl, bn28⟩
theorem bn29 : BN dd29 ps29 := fun _ _ _ _ _ _ us hl => match us, hl with | [_], _ => rfl
theorem ba29 : BA dd29 ps29 := .inl ⟨rfl, bn29⟩
theorem bas : BAs fn ns := ⟨ba0, ba1, ba2, ba3, ba4, ba5, ba6, ba7, ba8, ba9, ba10, ba11, ba12, ba13, ba14, ba15, ba16, ba17, ba18, ba19, ba20, ba21, ba22, ba23, ba24, ba25, ba26, ba27, ba28, ba29, trivial⟩
def cs : List (PySem.Str × D) := [("LETTERS", (.str [97, 98, 99, 100, 101, 102, 103, 104, 105, 106, 107, 108, 109, 110, 111, 112, 113, 114, 115, 116, 117, 118, 119, 120, 121, 122])), ("WORDS", (.tup [(.str [98, 97, 115, 101]), (.str [99, 97, 108, 108]), (.str [99, 97, 115, 101]), (.str [101, 108, 115, 101]), (.str [101, 110, 100]), (.str [102, 117, 110]), (.str [103, 105, 118, 101]), (.str [103, 114, 111, 117, 110, 100, 115]), (.str [105, 102]), (.str [108, 101, 116]), (.str [111, 117, 116]), (.str [115, 116, 97, 114, 116]), (.str [119, 114, 97, 112, 115])])), ("NAME_MOST", (.int 8)), ("TYPE_MOST", (.int 60))]
def fr : List PySem.Str := ["ValueError", "all", "bool", "enumerate", "int", "isinstance", "len", "list", "min", "range", "sorted", "str", "super", "tuple"]
def db : List (Nat × List D) := []
def kb : List (Nat × Nat × List PySem.Str × List Nat) := []
def xt : List (PySem.Str × List PySem.Str) := [("BadProgram", ["part", "at", "word"]), ("BadType", ["at", "word"]), ("BadBook", ["at", "word"]), ("BadCode", ["at", "word"]), ("BadLine", ["line", "word"]), ("BadStep", ["word"]), ("BadCommand", ["line"]), ("NoSuch", ["kind", "name"]), ("Taken", ["name"]), ("Endless", ["function"])]
def ht : List (List PySem.Str × List Nat) := [(["BadProgram", "BadBook", "BadCode", "BadLine", "BadCommand", "BadStep", "Endless", "NoSuch", "Taken"], [0, 2, 3, 4, 5, 6, 7, 8, 9]), (["BadType"], [1]), (["FewError"], [0, 1, 2, 3, 4, 5, 6, 7, 8, 9])]
def tb : Tbl := ⟨cs, fr, db, kb, xt, ht⟩
theorem dbas : DBA fn ns db := trivial
theorem kbas : KBA fn ns kb := trivial
def xi0 : Stmt := (clsLines (top 4)).getD 0 (.Pass ⟨0, 0, 0, 0⟩)
def xd0 : XcD := ⟨"BadProgram", ["part", "at", "word"], "self", "__init__", "BadProgram.__init__", defArgs xi0, defBody xi0, defScope xi0⟩
theorem xba0 : XBA xd0 := fun _ _ _ _ _ _ _ us hl => match us, hl with | [_, _, _, _], _ => rfl
def xi1 : Stmt := (clsLines (top 5)).getD 0 (.Pass ⟨0, 0, 0, 0⟩)
def xd1 : XcD := ⟨"BadType", ["at", "word"], "self", "__init__", "BadType.__init__", defArgs xi1, defBody xi1, defScope xi1⟩
theorem xba1 : XBA xd1 := fun _ _ _ _ _ _ _ us hl => match us, hl with | [_, _, _], _ => rfl
def xi2 : Stmt := (clsLines (top 6)).getD 0 (.Pass ⟨0, 0, 0, 0⟩)
def xd2 : XcD := ⟨"BadBook", ["at", "word"], "self", "__init__", "BadBook.__init__", defArgs xi2, defBody xi2, defScope xi2⟩
theorem xba2 : XBA xd2 := fun _ _ _ _ _ _ _ us hl => match us, hl with | [_, _, _], _ => rfl
def xi3 : Stmt := (clsLines (top 7)).getD 0 (.Pass ⟨0, 0, 0, 0⟩)
def xd3 : XcD := ⟨"BadCode", ["at", "word"], "self", "__init__", "BadCode.__init__", defArgs xi3, defBody xi3, defScope xi3⟩
theorem xba3 : XBA xd3 := fun _ _ _ _ _ _ _ us hl => match us, hl with | [_, _, _], _ => rfl
def xi4 : Stmt := (clsLines (top 8)).getD 0 (.Pass ⟨0, 0, 0, 0⟩)
def xd4 : XcD := ⟨"BadLine", ["line", "word"], "self", "__init__", "BadLine.__init__", defArgs xi4, defBody xi4, defScope xi4⟩
theorem xba4 : XBA xd4 := fun _ _ _ _ _ _ _ us hl => match us, hl with | [_, _, _], _ => rfl
def xi5 : Stmt := (clsLines (top 9)).getD 0 (.Pass ⟨0, 0, 0, 0⟩)
def xd5 : XcD := ⟨"BadStep", ["word"], "self", "__init__", "BadStep.__init__", defArgs xi5, defBody xi5, defScope xi5⟩
theorem xba5 : XBA xd5 := fun _ _ _ _ _ _ _ us hl => match us, hl with | [_, _], _ => rfl
def xi6 : Stmt := (clsLines (top 10)).getD 0 (.Pass ⟨0, 0, 0, 0⟩)
def xd6 : XcD := ⟨"BadCommand", ["line"], "self", "__init__", "BadCommand.__init__", defArgs xi6, defBody xi6, defScope xi6⟩
theorem xba6 : XBA xd6 := fun _ _ _ _ _ _ _ us hl => match us, hl with | [_, _], _ => rfl
def xi7 : Stmt := (clsLines (top 11)).getD 0 (.Pass ⟨0, 0, 0, 0⟩)
def xd7 : XcD := ⟨"NoSuch", ["kind", "name"], "self", "__init__", "NoSuch.__init__", defArgs xi7, defBody xi7, defScope xi7⟩
theorem xba7 : XBA xd7 := fun _ _ _ _ _ _ _ us hl => match us, hl with | [_, _, _], _ => rfl
def xi8 : Stmt := (clsLines (top 12)).getD 0 (.Pass ⟨0, 0, 0, 0⟩)
def xd8 : XcD := ⟨"Taken", ["name"], "self", "__init__", "Taken.__init__", defArgs xi8, defBody xi8, defScope xi8⟩
theorem xba8 : XBA xd8 := fun _ _ _ _ _ _ _ us hl => match us, hl with | [_, _], _ => rfl
def xi9 : Stmt := (clsLines (top 13)).getD 0 (.Pass ⟨0, 0, 0, 0⟩)
def xd9 : XcD := ⟨"Endless", ["function"], "self", "__init__", "Endless.__init__", defArgs xi9, defBody xi9, defScope xi9⟩
theorem xba9 : XBA xd9 := fun _ _ _ _ _ _ _ us hl => match us, hl with | [_, _], _ => rfl
def xd : List XcD := [xd0, xd1, xd2, xd3, xd4, xd5, xd6, xd7, xd8, xd9]
theorem xbas : XBAs xd := ⟨xba0, xba1, xba2, xba3, xba4, xba5, xba6, xba7, xba8, xba9, trivial⟩
abbrev R : PySem.W.OpenRow := PySem.W.OpenLaw.row PySem.Challenge.rw_fewbodies_k02_types
def file : PySem.Str := R.prog.main.file
theorem ck0 (K : PySem.W.Frag) : dfB ((dsOf K fn ns).map (·.name)) tb (mkDf K dd0 (ns0, ps0)) f_are_texts = true := by kernel_rfl
theorem ck1 (K : PySem.W.Frag) : dfB ((dsOf K fn ns).map (·.name)) tb (mkDf K dd1 (ns1, ps1)) f_is_name = true := by kernel_rfl
theorem ck2 (K : PySem.W.Frag) : dfB ((dsOf K fn ns).map (·.name)) tb (mkDf K dd2 (ns2, ps2)) f_is_type = true := by kernel_rfl
theorem ck3 (K : PySem.W.Frag) : dfB ((dsOf K fn ns).map (·.name)) tb (mkDf K dd3 (ns3, ps3)) f_type_text = true := by kernel_rfl
theorem ck4 (K : PySem.W.Frag) : dfB ((dsOf K fn ns).map (·.name)) tb (mkDf K dd4 (ns4, ps4)) f_read_type = true := by kernel_rfl
theorem ck5 (K : PySem.W.Frag) : dfB ((dsOf K fn ns).map (·.name)) tb (mkDf K dd5 (ns5, ps5)) f_law_box = true := by kernel_rfl
theorem ck6 (K : PySem.W.Frag) : dfB ((dsOf K fn ns).map (·.name)) tb (mkDf K dd6 (ns6, ps6)) f_law_take = true := by kernel_rfl
theorem ck7 (K : PySem.W.Frag) : dfB ((dsOf K fn ns).map (·.name)) tb (mkDf K dd7 (ns7, ps7)) f_law_bias = true := by kernel_rfl
theorem ck8 (K : PySem.W.Frag) : dfB ((dsOf K fn ns).map (·.name)) tb (mkDf K dd8 (ns8, ps8)) f_law_reserved = true := by kernel_rfl
theorem ck9 (K : PySem.W.Frag) : dfB ((dsOf K fn ns).map (·.name)) tb (mkDf K dd9 (ns9, ps9)) f_law_letter = true := by kernel_rfl
theorem ck10 (K : PySem.W.Frag) : dfB ((dsOf K fn ns).map (·.name)) tb (mkDf K dd10 (ns10, ps10)) f_law_fresh = true := by kernel_rfl
theorem ck11 (K : PySem.W.Frag) : dfB ((dsOf K fn ns).map (·.name)) tb (mkDf K dd11 (ns11, ps11)) f_law_lot = true := by kernel_rfl
theorem ck12 (K : PySem.W.Frag) : dfB ((dsOf K fn ns).map (·.name)) tb (mkDf K dd12 (ns12, ps12)) f_law_program = true := by kernel_rfl
theorem ck13 (K : PySem.W.Frag) : dfB ((dsOf K fn ns).map (·.name)) tb (mkDf K dd13 (ns13, ps13)) f_law_name_due = true := by kernel_rfl
theorem ck14 (K : PySem.W.Frag) : dfB ((dsOf K fn ns).map (·.name)) tb (mkDf K dd14 (ns14, ps14)) f_law_type_due = true := by kernel_rfl
theorem ck15 (K : PySem.W.Frag) : dfB ((dsOf K fn ns).map (·.name)) tb (mkDf K dd15 (ns15, ps15)) f_law_is = true := by kernel_rfl
theorem ck16 (K : PySem.W.Frag) : dfB ((dsOf K fn ns).map (·.name)) tb (mkDf K dd16 (ns16, ps16)) f_law_near_names = true := by kernel_rfl
theorem ck17 (K : PySem.W.Frag) : dfB ((dsOf K fn ns).map (·.name)) tb (mkDf K dd17 (ns17, ps17)) f_law_names_right = true := by kernel_rfl
theorem ck18 (K : PySem.W.Frag) : dfB ((dsOf K fn ns).map (·.name)) tb (mkDf K dd18 (ns18, ps18)) f_law_drawn = true := by kernel_rfl
theorem ck19 (K : PySem.W.Frag) : dfB ((dsOf K fn ns).map (·.name)) tb (mkDf K dd19 (ns19, ps19)) f_law_near_types = true := by kernel_rfl
theorem ck20 (K : PySem.W.Frag) : dfB ((dsOf K fn ns).map (·.name)) tb (mkDf K dd20 (ns20, ps20)) f_law_types_right = true := by kernel_rfl
theorem ck21 (K : PySem.W.Frag) : dfB ((dsOf K fn ns).map (·.name)) tb (mkDf K dd21 (ns21, ps21)) f_law_spaced = true := by kernel_rfl
theorem ck22 (K : PySem.W.Frag) : dfB ((dsOf K fn ns).map (·.name)) tb (mkDf K dd22 (ns22, ps22)) f_law_fitting = true := by kernel_rfl
theorem ck23 (K : PySem.W.Frag) : dfB ((dsOf K fn ns).map (·.name)) tb (mkDf K dd23 (ns23, ps23)) f_law_told = true := by kernel_rfl
theorem ck24 (K : PySem.W.Frag) : dfB ((dsOf K fn ns).map (·.name)) tb (mkDf K dd24 (ns24, ps24)) f_law_read_due = true := by kernel_rfl
theorem ck25 (K : PySem.W.Frag) : dfB ((dsOf K fn ns).map (·.name)) tb (mkDf K dd25 (ns25, ps25)) f_law_alike = true := by kernel_rfl
theorem ck26 (K : PySem.W.Frag) : dfB ((dsOf K fn ns).map (·.name)) tb (mkDf K dd26 (ns26, ps26)) f_law_read_right = true := by kernel_rfl
theorem ck27 (K : PySem.W.Frag) : dfB ((dsOf K fn ns).map (·.name)) tb (mkDf K dd27 (ns27, ps27)) f_law_odd_word = true := by kernel_rfl
theorem ck28 (K : PySem.W.Frag) : dfB ((dsOf K fn ns).map (·.name)) tb (mkDf K dd28 (ns28, ps28)) f_law_reading_right = true := by kernel_rfl
theorem ck29 (K : PySem.W.Frag) : dfB ((dsOf K fn ns).map (·.name)) tb (mkDf K dd29 (ns29, ps29)) f_law = true := by kernel_rfl
theorem ck (K : PySem.W.Frag) : dfsB ((dsOf K fn ns).map (·.name)) tb (dsOf K fn ns) fs = true := by
  show dfsB ((dsOf K fn ns).map (·.name)) tb [mkDf K dd0 (ns0, ps0), mkDf K dd1 (ns1, ps1), mkDf K dd2 (ns2, ps2), mkDf K dd3 (ns3, ps3), mkDf K dd4 (ns4, ps4), mkDf K dd5 (ns5, ps5), mkDf K dd6 (ns6, ps6), mkDf K dd7 (ns7, ps7), mkDf K dd8 (ns8, ps8), mkDf K dd9 (ns9, ps9), mkDf K dd10 (ns10, ps10), mkDf K dd11 (ns11, ps11), mkDf K dd12 (ns12, ps12), mkDf K dd13 (ns13, ps13), mkDf K dd14 (ns14, ps14), mkDf K dd15 (ns15, ps15), mkDf K dd16 (ns16, ps16), mkDf K dd17 (ns17, ps17), mkDf K dd18 (ns18, ps18), mkDf K dd19 (ns19, ps19), mkDf K dd20 (ns20, ps20), mkDf K dd21 (ns21, ps21), mkDf K dd22 (ns22, ps22), mkDf K dd23 (ns23, ps23), mkDf K dd24 (ns24, ps24), mkDf K dd25 (ns25, ps25), mkDf K dd26 (ns26, ps26), mkDf K dd27 (ns27, ps27), mkDf K dd28 (ns28, ps28), mkDf K dd29 (ns29, ps29)] [f_are_texts, f_is_name, f_is_type, f_type_text, f_read_type, f_law_box, f_law_take, f_law_bias, f_law_reserved, f_law_letter, f_law_fresh, f_law_lot, f_law_program, f_law_name_due, f_law_type_due, f_law_is, f_law_near_names, f_law_names_right, f_law_drawn, f_law_near_types, f_law_types_right, f_law_spaced, f_law_fitting, f_law_told, f_law_read_due, f_law_alike, f_law_read_right, f_law_odd_word, f_law_reading_right, f_law] = true
  simp only [dfsB, ck0, ck1, ck2, ck3, ck4, ck5, ck6, ck7, ck8, ck9, ck10, ck11, ck12, ck13, ck14, ck15, ck16, ck17, ck18, ck19, ck20, ck21, ck22, ck23, ck24, ck25, ck26, ck27, ck28, ck29, Bool.and_self]
theorem lk : Lk PySem.Challenge.rw_fewbodies_k02_types.prog tb file xd fn ns := ⟨by kernel_rfl, bas, dbas, kbas, by kernel_rfl, xbas, by rfl, by rfl, by kernel_rfl⟩
abbrev hk : PySem.W.Hook := hookF 5 tb file xd (faOf fn fr) fn
def ob (s : PySem.W.SharedT) : AlF := obsFG 5 tb file xd (faOf fn fr) fn (HandSHeadRun.getT s)
theorem ob_eq (s : PySem.W.SharedT) : ob s = hk.obs s.abs := obsFG_eq (HandSHeadRun.getT_eq s)
def lo0 : List PySem.Str := ["NAME_MOST", "TYPE_MOST", "FewError", "BadProgram", "BadType", "BadBook", "BadCode", "BadLine", "BadStep", "BadCommand", "NoSuch", "Taken", "Endless", "LETTERS", "WORDS", "are_texts", "is_name", "is_type", "type_text", "read_type", "_law_box", "_law_take", "_law_bias", "_law_reserved", "_law_letter", "_law_fresh", "_law_lot", "_law_program", "_law_name_due", "_law_type_due"]
def lo1 : List PySem.Str := ["_law_is", "_law_near_names", "_law_names_right", "_law_drawn", "_law_near_types", "_law_types_right", "_law_spaced", "_law_fitting", "_law_told", "_law_read_due", "_law_alike", "_law_read_right", "_law_odd_word", "_law_reading_right"]
def loose : List PySem.Str := lo0 ++ lo1
theorem run (w : World) : HandSHeadRun.RunEq R (PySem.W.view R.prog [48]) hk ob 8000 loose w := by
  intro os
  kernel_rfl
theorem done_of (k fuel : Nat) (hr : Room k callerA) (ev : ∀ is : List Int, is.length ≤ 63 → ∃ S, callF fs fuel k 29 [.ro (is.map .int)] [] = .ok (.bl true) S) : PySem.Challenge.rw_fewbodies_k02_types.Holds := by
  w_on; o_law
  refine HandSHeadRun.head_any (r := R) (q := PySem.W.view R.prog [48]) (H := hk) (ob := ob) (M := 8000) (loose := loose) (d := HandSHeadRun.topDef R.prog 48) (kwd := []) ob_eq
    (by kernel_rfl) (fun s => by kernel_rfl) run (by kernel_rfl) (by kernel_rfl) (by kernel_rfl) (by rfl) (by first | assumption | decide +kernel) (by decide +kernel) ⟨rfl, rfl, rfl, rfl, rfl, by decide +kernel⟩ ?hw ?hc
  case hw => w_witness2
  case hc => exact law_of (l := PySem.Challenge.rw_fewbodies_k02_types) (n := 63) (k := k) (x := "script") (hn := 5) (t := tb) (file := file) (xd := xd) (fn := fn) (ns := ns) (fs := fs) (fuel := fuel) (L := 29) (dl := dd29) (N := ns29) rfl (by decide) (by kernel_rfl) hr lk ck (fun K => rfl) (by kernel_rfl) bn29 rfl ev
end Lw
set_option maxHeartbeats 4000000
theorem PySem.Challenge.cw_fewbodies_k02_types_holds : PySem.Challenge.rw_fewbodies_k02_types.Holds := by
  refine Lw.done_of (0 + 8) 20000 ⟨rfl, by decide, by decide⟩ fun is hn => ?_
  exact Lw.law_ev hn
