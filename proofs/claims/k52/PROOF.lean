import PyProof.Rows.All
import Open.Row
import Wide.All
import OpenK.AllK
import Wide.FinOn
import KE.KExcSuper
import HandS.ForMost
import HandS.ForExc
import HandS.WordsExc
import HandS.ExcInit
import HandS.ExcField
import HandS.TryMany
import HandS.Nested
import HandS.NestedK
import HandS.Iter
import HandS.Zip
import KE.GoesMore
import HandS.Style
import HandS.TupAny
import KE.KRevSl
import KE.KItemsList
import KE.KDictZip
import KE.GoesEnum
import HandS.ListItems
import HandS.Defaults
import HandS.CallSlots
import HandS.Flow
import HandS.TupMul
import HandS.IsInst
import HandS.Deep
import HandS.Wide
import KE.KStateDown
import HandS.Head0
import HandS.Head1
import HandS.Head2
import HandS.HeadEnd
import HandS.HeadHook1
import HandS.HeadHook2
import HandS.RaiseMore
import HandS.Comp
import HandS.TryOnly
import HandS.SortRule
import KE.KSortKeySt
import Lean
import PySem.Challenge.RW_fewbodies_k52_state_texts
set_option linter.all false
set_option maxRecDepth 100000
/-! Fb1: plain values, a small store of mutable cells, the IR and its evaluator. No program in sight. -/
namespace Fb
inductive D where
  | non | bl (b : Bool) | int (i : Int) | str (x : List Nat) | tup (xs : List D) | lst (xs : List D) | ro (xs : List D) | cell (n : Nat)
  deriving Inhabited
inductive Cell where
  | lst (xs : List D)
abbrev Store := List Cell
inductive Res (α : Type) where
  | ok (a : α) (S : Store) | exc (c : Nat) (as : List D) (S : Store) | bad
abbrev M (α : Type) := Store → Res α
def M.ret {α : Type} (a : α) : M α := fun S => .ok a S
def M.bind {α β : Type} (m : M α) (f : α → M β) : M β := fun S => match m S with
  | .ok a S' => f a S'
  | .exc c as S' => .exc c as S'
  | .bad => .bad
instance : Monad M where
  pure := M.ret
  bind := M.bind
def M.bad {α : Type} : M α := fun _ => .bad
def M.opt {α : Type} (o : Option α) : M α := fun S => match o with
  | some a => .ok a S
  | none => .bad
def SL : Nat := 16777216
abbrev Ev := List (Option D)

/-! ### what a value holds -/
/-- the items of a list that is the call's own (in either mode) -/
def ownOf (S : Store) : D → Option (List D)
  | .lst xs => some xs
  | .cell n => match S[n]? with
    | some (.lst xs) => some xs
    | none => none
  | _ => none
/-- the items of a list, of one that is but read, too -/
def lstOf (S : Store) : D → Option (List D)
  | .ro xs => some xs
  | d => ownOf S d
/-- the items of a list or tuple -/
def seqOf (S : Store) : D → Option (List D)
  | .tup xs => some xs
  | d => lstOf S d
def truthD (S : Store) : D → Option Bool
  | .non => some false
  | .bl b => some b
  | .int i => some (i != 0)
  | .str x => if x.length ≤ SL then some (!x.isEmpty) else none
  | d => (seqOf S d).map fun xs => !xs.isEmpty
def truthM (d : D) : M Bool := fun S => M.opt (truthD S d) S
mutual
def D.free : D → Bool
  | .tup xs => D.frees xs
  | .lst xs => D.frees xs
  | .ro xs => D.frees xs
  | .cell _ => false
  | _ => true
def D.frees : List D → Bool
  | [] => true
  | x :: xs => D.free x && D.frees xs
end
/-- Python's ==, of cell-free data -/
def beqI (a : Bool) (i : Int) : Bool := (if a then 1 else 0) == i
mutual
def D.eqv : D → D → Bool
  | .non, .non => true
  | .bl a, .bl b => a == b
  | .bl a, .int j => beqI a j
  | .int i, .bl b => beqI b i
  | .int i, .int j => i == j
  | .str x, .str y => x == y
  | .lst xs, .lst ys => D.eqvs xs ys
  | .lst xs, .ro ys => D.eqvs xs ys
  | .ro xs, .lst ys => D.eqvs xs ys
  | .ro xs, .ro ys => D.eqvs xs ys
  | .tup xs, .tup ys => D.eqvs xs ys
  | _, _ => false
def D.eqvs : List D → List D → Bool
  | [], [] => true
  | x :: xs, y :: ys => D.eqv x y && D.eqvs xs ys
  | _, _ => false
end
mutual
def D.depth : D → Nat
  | .tup xs => D.depths xs + 1
  | .lst xs => D.depths xs + 1
  | .ro xs => D.depths xs + 1
  | _ => 0
def D.depths : List D → Nat
  | [] => 0
  | x :: xs => max (D.depth x) (D.depths xs)
end
mutual
/-- one above the highest cell named -/
def D.top : D → Nat
  | .tup xs => D.tops xs
  | .lst xs => D.tops xs
  | .ro xs => D.tops xs
  | .cell n => n + 1
  | _ => 0
def D.tops : List D → Nat
  | [] => 0
  | x :: xs => max (D.top x) (D.tops xs)
end
def Cell.topB (k : Nat) : Cell → Bool
  | .lst xs => decide (D.tops xs ≤ k)
/-- a flat value: not an object -/
def D.flat : D → Bool
  | .non | .bl _ | .int _ | .str _ => true
  | _ => false

/-! ### texts -/
/-- split at one sign -/
def splitD (c : Nat) : List Nat → List Nat → List (List Nat)
  | acc, [] => [acc]
  | acc, x :: r => if x = c then acc :: splitD c [] r else splitD c (acc ++ [x]) r
def digV (acc : Nat) : List Nat → Nat
  | [] => acc
  | c :: r => digV (acc * 10 + (c - 48)) r
def isDig (c : Nat) : Bool := decide (48 ≤ c) && decide (c ≤ 57)
/-- int(text), of figures, with one sign ahead of them or none -/
def intOf (x : List Nat) : Option Int := match x with
  | [] => none
  | 45 :: r => if r.all isDig && !r.isEmpty && decide (r.length ≤ 600) then some (-(digV 0 r : Nat)) else none
  | x => if x.all isDig && decide (x.length ≤ 600) then some (digV 0 x : Nat) else none
def countD (c : Nat) : List Nat → Nat
  | [] => 0
  | x :: r => (if x = c then 1 else 0) + countD c r
def upC (c : Nat) : Nat := if 97 ≤ c ∧ c ≤ 122 then c - 32 else c
/-- each k-th item from the first on -/
def stepL {α : Type} (k : Nat) : Nat → List α → List α
  | _, [] => []
  | 0, x :: r => x :: stepL k (k - 1) r
  | j + 1, _ :: r => stepL k j r
def pickL {α : Type} : List Nat → List α → Option (List α)
  | [], _ => some []
  | i :: is, xs => match xs[i]?, pickL is xs with
    | some x, some ys => some (x :: ys)
    | _, _ => none
/-- the first place where it stands -/
def indexD (x : D) : Nat → List D → Option Nat
  | _, [] => none
  | i, y :: r => if D.eqv y x then some i else indexD x (i + 1) r
/-! ### operators -/
inductive Bo where
  | add | sub | mul | mod | fdiv | pow | shl
  deriving DecidableEq
inductive Co where
  | eq | ne | lt | le | gt | ge | isIn | notIn
  deriving DecidableEq
def two64 : Int := 18446744073709551616
def mulOk (i j : Int) : Bool := decide ((-two64 < i ∧ i < two64) ∨ (-two64 < j ∧ j < two64)) || decide (i.natAbs.log2 + j.natAbs.log2 < 1000000)
def cut1 (n : Nat) (o : Option Int) (d : Nat) : Nat := match o with
  | none => d
  | some i => if i < 0 then (i + n).toNat else min i.toNat n
def cutL {α : Type} (xs : List α) (lo hi : Option Int) : List α :=
  (xs.drop (cut1 xs.length lo 0)).take (cut1 xs.length hi xs.length - cut1 xs.length lo 0)
def ixL {α : Type} (xs : List α) (i : Int) : Option α := if i < 0 then (if i + xs.length < 0 then none else xs[(i + xs.length).toNat]?) else xs[i.toNat]?
def addD (S : Store) (x y : D) : Option D := match x, y with
  | .int i, .int j => some (.int (i + j))
  | .str a, .str b => if a.length + b.length ≤ SL then some (.str (a ++ b)) else none
  | .tup a, .tup b => if a.length + b.length ≤ SL then some (.tup (a ++ b)) else none
  | x, y => match ownOf S x, ownOf S y with
    | some a, some b => if a.length + b.length ≤ SL then some (.lst (a ++ b)) else none
    | _, _ => none
def repL {α : Type} (a : List α) (k : Int) : List α := (List.replicate k.toNat a).flatten
def mulD (S : Store) (x y : D) : Option D := match x, y with
  | .int i, .int j => if mulOk i j then some (.int (i * j)) else none
  | .tup a, .int k => if a.length ≤ 1000 ∧ k ≤ 1000 ∧ -1000000 ≤ k then some (.tup (repL a k)) else none
  | .str a, .int k => if a.length ≤ 1000 ∧ k ≤ 1000 ∧ -1000000 ≤ k then some (.str (repL a k)) else none
  | x, .int k => match ownOf S x with
    | some a => if a.length ≤ 1000 ∧ k ≤ 1000 ∧ -1000000 ≤ k then some (.lst (repL a k)) else none
    | none => none
  | _, _ => none
def binD (S : Store) (o : Bo) (x y : D) : Option D := match o with
  | .add => addD S x y
  | .mul => mulD S x y
  | .sub => match x, y with
    | .int i, .int j => some (.int (i - j))
    | _, _ => none
  | .mod => match x, y with
    | .int i, .int j => if 0 < j then some (.int (i % j)) else none
    | _, _ => none
  | .fdiv => match x, y with
    | .int i, .int j => if 0 < j ∧ j.natAbs.log2 < 9000 then some (.int (i / j)) else none
    | _, _ => none
  | .pow => match x, y with
    | .int i, .int j => if 0 ≤ j ∧ j ≤ 1000000 ∧ -two64 < i ∧ i < two64 then some (.int (i ^ j.toNat)) else none
    | _, _ => none
  | .shl => match x, y with
    | .int i, .int j => if 0 ≤ j ∧ j ≤ 1000000 ∧ -two64 < i ∧ i < two64 then some (.int (i * 2 ^ j.toNat)) else none
    | _, _ => none
def binM (o : Bo) (x y : D) : M D := fun S => M.opt (binD S o x y) S
/-- x among data -/
def memD (x : D) : List D → Bool
  | [] => false
  | y :: r => D.eqv y x || memD x r
/-- a list in either mode, as data; tuples and lists within stay as they are -/
def dataOf (S : Store) (d : D) : Option D := match d with
  | .cell _ => (lstOf S d).map .lst
  | d => some d
def inD (S : Store) (x y : D) : Option Bool := match y with
  | .str b => match x with
    | .str [c] => some (b.contains c)
    | _ => none
  | .tup ys => if x.flat && ys.all D.flat then some (memD x ys) else none
  | y => match lstOf S y with
    | some ys => if x.free && D.frees ys && decide (D.depth x ≤ 60) && decide (D.depths ys ≤ 60) then some (memD x ys) else none
    | none => none
def eqD (S : Store) (x y : D) : Option Bool := match dataOf S x, dataOf S y with
  | some a, some b => if a.free && b.free && decide (D.depth a ≤ 60) && decide (D.depth b ≤ 60) then some (D.eqv a b) else none
  | _, _ => none
def ltD (f : Int → Int → Bool) (x y : D) : Option Bool := match x, y with
  | .int i, .int j => some (f i j)
  | _, _ => none
def cmpD (S : Store) (o : Co) (x y : D) : Option Bool := match o with
  | .lt => ltD (fun i j => decide (i < j)) x y
  | .le => ltD (fun i j => decide (i ≤ j)) x y
  | .gt => ltD (fun i j => decide (j < i)) x y
  | .ge => ltD (fun i j => decide (j ≤ i)) x y
  | .eq => eqD S x y
  | .ne => (eqD S x y).map (!·)
  | .isIn => inD S x y
  | .notIn => (inD S x y).map (!·)
def cmpM (o : Co) (x y : D) : M Bool := fun S => M.opt (cmpD S o x y) S
def idxM (x y : D) : M D := fun S => match x, y with
  | .str a, .int i => if a.length ≤ SL then M.opt ((ixL a i).map fun c => .str [c]) S else .bad
  | x, .int i => match seqOf S x with
    | some xs => M.opt (ixL xs i) S
    | none => .bad
  | _, _ => .bad
def partI : D → Option (Option Int)
  | .non => some none
  | .int i => some (some i)
  | _ => none
def cutD (S : Store) (x : D) (lo hi : Option Int) : Option D := match x with
  | .str a => if a.length ≤ SL then some (.str (cutL a lo hi)) else none
  | .tup xs => some (.tup (cutL xs lo hi))
  | x => (lstOf S x).map fun xs => .lst (cutL xs lo hi)
def revD (S : Store) (x : D) : Option D := match x with
  | .tup xs => some (.tup xs.reverse)
  | x => (lstOf S x).map fun xs => .lst xs.reverse
/-- a stable sort by a key -/
def insBy {α : Type} (k : α → Nat) (x : α) : List α → List α
  | [] => [x]
  | y :: r => if k x ≤ k y then x :: y :: r else y :: insBy k x r
def sortBy {α : Type} (k : α → Nat) : List α → List α
  | [] => []
  | x :: r => insBy k x (sortBy k r)
/-- x[lo::k] -/
def stpD (S : Store) (x : D) (lo k : Nat) : Option D := (lstOf S x).map fun xs => .lst (stepL k 0 (xs.drop lo))

/-! ### built-ins -/
inductive Ty where
  | str | int | bool | tup | lst
  deriving DecidableEq
def D.isTy (S : Store) : D → Ty → Bool
  | .str _, .str => true
  | .int _, .int => true
  | .bl _, .int => true
  | .bl _, .bool => true
  | .tup _, .tup => true
  | .lst _, .lst => true
  | .ro _, .lst => true
  | .cell n, .lst => (ownOf S (.cell n)).isSome
  | _, _ => false
inductive Bt where
  | len | int | str | tuple | list | min | max | abs | all | any | sum
  deriving DecidableEq
inductive Mt where
  | append | pop | popAt | extend | join | split | startswith | upper | index | count
  deriving DecidableEq
def digitsOf (n : Nat) : List Nat := (Nat.toDigits 10 n).map Char.toNat
def intText (i : Int) : List Nat := if i < 0 then 45 :: digitsOf i.natAbs else digitsOf i.natAbs
def boolsOf : List D → Option (List Bool)
  | [] => some []
  | .bl b :: r => (boolsOf r).map (b :: ·)
  | _ => none
def intsOf : List D → Option (List Int)
  | [] => some []
  | .int b :: r => (intsOf r).map (b :: ·)
  | _ => none
def strsOf : List D → Option (List (List Nat))
  | [] => some []
  | .str b :: r => (strsOf r).map (b :: ·)
  | _ => none
/-- sorted(x, key=len) -/
def srtD (S : Store) (x : D) : Option D := match lstOf S x with
  | some xs => match strsOf xs with
    | some ss => if ss.all (fun z => decide (z.length ≤ SL)) = true then some (.lst ((sortBy List.length ss).map .str)) else none
    | none => none
  | none => none
def joinD (s : List Nat) : List (List Nat) → List Nat
  | [] => []
  | [x] => x
  | x :: r => x ++ s ++ joinD s r
def bltD (S : Store) (b : Bt) (xs : List D) : Option D := match b, xs with
  | .len, [.str a] => if a.length ≤ SL then some (.int a.length) else none
  | .len, [x] => (seqOf S x).map fun ys => .int ys.length
  | .int, [.int i] => some (.int i)
  | .int, [.bl b] => some (.int (if b then 1 else 0))
  | .int, [.str a] => (intOf a).map .int
  | .str, [.int i] => if i.natAbs.log2 < 1920 then some (.str (intText i)) else none
  | .str, [.str a] => some (.str a)
  | .tuple, [x] => (seqOf S x).map .tup
  | .list, [x] => (seqOf S x).map .lst
  | .min, [.int i, .int j] => some (.int (if j < i then j else i))
  | .max, [.int i, .int j] => some (.int (if j > i then j else i))
  | .abs, [.int i] => some (.int (if i < 0 then -i else i))
  | .all, [x] => match lstOf S x with
    | some ys => (boolsOf ys).map fun bs => .bl (bs.all id)
    | none => none
  | .any, [x] => match lstOf S x with
    | some ys => (boolsOf ys).map fun bs => .bl (bs.any id)
    | none => none
  | .sum, [x] => match lstOf S x with
    | some ys => (intsOf ys).map fun ns => .int ns.sum
    | none => none
  | _, _ => none
/-- a method: its answer and the store behind it -/
def mthD (S : Store) (m : Mt) (x : D) (xs : List D) : Option (D × Store) := match m, x, xs with
  | .append, .cell n, [y] => match S[n]? with
    | some (.lst ys) => if ys.length < SL then some (.non, S.set n (.lst (ys ++ [y]))) else none
    | none => none
  | .extend, .cell n, [y] => match S[n]?, ownOf S y with
    | some (.lst ys), some zs => if ys.length + zs.length ≤ SL then some (.non, S.set n (.lst (ys ++ zs))) else none
    | _, _ => none
  | .pop, .cell n, [] => match S[n]? with
    | some (.lst ys) => (ys[ys.length - 1]?).map fun y => (y, S.set n (.lst ys.dropLast))
    | none => none
  | .popAt, .cell n, [.int i] => match S[n]? with
    | some (.lst ys) => if 0 ≤ i ∧ i < ys.length ∧ ys.length ≤ SL then (ys[i.toNat]?).map fun y => (y, S.set n (.lst (ys.eraseIdx i.toNat))) else none
    | none => none
  | .join, .str s, [x] => match seqOf S x with
    | some ys => match strsOf ys with
      | some zs => if (zs.map (·.length)).sum + zs.length * s.length ≤ SL then some (.str (joinD s zs), S) else none
      | none => none
    | none => none
  | .split, .str x, [.str [c]] => if x.length + 2 ≤ SL ∧ c < 256 then some (.lst ((splitD c [] x).map .str), S) else none
  | .startswith, .str x, [.str y] => some (.bl (x.take y.length == y), S)
  | .count, .str x, [.str [c]] => some (.int (countD c x), S)
  | .upper, .str x, [] => if x.length ≤ 5000000 ∧ x.all (fun c => decide (c < 128)) = true then some (.str (x.map upC), S) else none
  | .index, x, [y] => match lstOf S x with
    | some ys => if y.flat && ys.all D.flat then (indexD y 0 ys).map fun i => (.int (i : Nat), S) else none
    | none => none
  | _, _, _ => none

/-- the receiver's kind -/
def recvOk : Mt → D → Bool
  | .append, .cell _ => true
  | .pop, .cell _ => true
  | .popAt, .cell _ => true
  | .extend, .cell _ => true
  | .join, .str _ => true
  | .split, .str _ => true
  | .startswith, .str _ => true
  | .upper, .str _ => true
  | .count, .str _ => true
  | .index, .lst _ => true
  | .index, .ro _ => true
  | .index, .cell _ => true
  | _, _ => false
/-! ### the IR -/
inductive Pat where
  | nm (i : Nat) | tp (is : List Nat) | tq (ps : Pat) | pn | pc (p r : Pat)
inductive IE where
  | lit (d : D) | glo (x : List Nat) (d : D) | var (i : Nat) | nil | cons (a r : IE)
  | bin (o : Bo) (a b : IE) | neg (a : IE) | not (a : IE) | and (a b : IE) | or (a b : IE) | ite (c a b : IE)
  | cmp (o : Co) (a b : IE) | chn (o o' : Co) (a b c : IE) | isN (a : IE) | notN (a : IE)
  | tup (es : IE) | lst (es : IE) | idx (a b : IE) | sli (a lo hi : IE) | rev (a : IE)
  | call (f : Nat) (es : IE) | blt (b : Bt) (es : IE) | isi (a : IE) (t : List Ty) | mth (m : Mt) (a es : IE)
  | comp (own : List Nat) (p : Pat) (it c e : IE)
  | rng1 (a : IE) | rng2 (a b : IE) | rng3 (a b : IE) (k : Nat) | srt (a : IE) | enum (a : IE) | zip (a b : IE)
  | alloc (a : IE) | lzip (a b : IE) | stp (a : IE) (lo k : Nat) | callk (f n m : Nat) (a b : IE) (perm : List Nat) | calld (f : Nat) (a : IE) (ds : List D)
/-- what a clause's suite does with the caught error: its fields -/
inductive HE where
  | lit (d : D) | fld (c k : Nat) | tup (es : HE) | nil | cons (a r : HE)
inductive HS where
  | ret (e : HE) | set (i : Nat) (e : HE)
structure Hnd where
  ns : List (List Nat)
  cs : List Nat
  nm : Option Nat
  body : HS
inductive IS where
  | skip | seq (a b : IS) | ex (e : IE) | set (i : Nat) (e : IE) | setP (is : List Nat) (e : IE) | par (is : List Nat) (es : IE) | put (a i e : IE)
  | aug (o : Bo) (i : Nat) (e : IE) | setQ (p : Pat) (e : IE) | ite (c : IE) (a b : IS) | whl (c : IE) (b : IS) | for (p : Pat) (it : IE) (b : IS)
  | ret (e : IE) | retN | brk | cnt
  | augS (o : Bo) (a i e : IE) | rse (c n : Nat) (es : IE) | try (b : IS) (hs : List Hnd)
structure Cf where
  call : Nat → List D → M D
  fuel : Nat
  lv : Nat
/-- what a for walks -/
inductive Src where
  | xs (xs : List D) | cl (n : Nat)
def allocM (d : D) : M D := fun S => match d with
  | .lst xs => .ok (.cell S.length) (S ++ [.lst xs])
  | d => .ok d S
def wipeE (σ : Ev) : List Nat → Ev
  | [] => σ
  | v :: vs => (wipeE σ vs).set v none
def setAll : List Nat → List D → Ev → Option Ev
  | [], [], σ => some σ
  | i :: is, x :: xs, σ => setAll is xs (σ.set i (some x))
  | _, _, _ => none
mutual
def patE : Pat → D → Store → Ev → Option Ev
  | .nm i, d, _, σ => some (σ.set i (some d))
  | .tp is, d, S, σ => match seqOf S d with
    | some xs => setAll is xs σ
    | none => none
  | .tq ps, d, S, σ => match seqOf S d with
    | some xs => patL ps xs S σ
    | none => none
  | _, _, _, _ => none
/-- targets one behind another -/
def patL : Pat → List D → Store → Ev → Option Ev
  | .pn, [], _, σ => some σ
  | .pc p r, x :: xs, S, σ => match patE p x S σ with
    | some σ' => patL r xs S σ'
    | none => none
  | _, _, _, _ => none
end
def rngD (lo : Int) (n : Nat) : List D := (List.range n).map fun (i : Nat) => .int (lo + i)
def big62 : Int := 4611686018427387904
def rngK (lo : Int) (k n : Nat) : List D := (List.range n).map fun (i : Nat) => .int (lo + (i : Int) * k)
def rngN (i j : Int) (k : Nat) : Nat := if i < j then ((j - i - 1) / k + 1).toNat else 0
/-- the items of a list that is no cell -/
def valL : D → Option (List D)
  | .lst xs => some xs
  | .ro xs => some xs
  | _ => none
def enumV : D → Option (List D)
  | .tup xs => some xs
  | d => valL d
def enumD (i : Nat) : List D → List D
  | [] => []
  | x :: r => .tup [.int i, x] :: enumD (i + 1) r
def zipD : List D → List D → List D
  | x :: xs, y :: ys => .tup [x, y] :: zipD xs ys
  | _, _ => []
def zipS (x y : D) : Option Src := match x, y with
  | .tup xs, .tup ys => some (.xs (zipD xs ys))
  | x, y => match valL x, valL y with
    | some xs, some ys => some (.xs (zipD xs ys))
    | _, _ => none
def srcD (d : D) : Option Src := match d with
  | .tup xs => some (.xs xs)
  | .lst xs => some (.xs xs)
  | .ro xs => some (.xs xs)
  | .str x => some (.xs (x.map fun c => .str [c]))
  | .cell n => some (.cl n)
  | _ => none
/-- no error leaves a comprehension -/
def M.nox {α : Type} (f : M α) : M α := fun S => match f S with
  | .exc _ _ _ => .bad
  | r => r
/-- a comprehension's loop: f tells an item's element, or none -/
def compM (f : D → M (Option D)) : List D → Nat → M (List D)
  | [], _ => M.ret []
  | x :: r, k => M.bind (f x) fun o => match o with
    | none => compM f r k
    | some y => if k < SL then M.bind (compM f r (k + 1)) fun ys => M.ret (y :: ys) else M.bad
/-- .. over a cell as it stands at each turn -/
def compN (f : D → M (Option D)) (n : Nat) : Nat → Nat → Nat → M (List D)
  | 0, _, _ => M.bad
  | l + 1, i, k => fun S => match lstOf S (.cell n) with
    | none => .bad
    | some xs => match xs[i]? with
      | none => .ok [] S
      | some x => M.bind (f x) (fun o => match o with
        | none => compN f n l (i + 1) k
        | some y => if k < SL then M.bind (compN f n l (i + 1) (k + 1)) fun ys => M.ret (y :: ys) else M.bad) S
def compS (f : D → M (Option D)) (l : Nat) (s : Src) : M (List D) := match s with
  | .xs xs => compM f xs 0
  | .cl n => compN f n l 0 0
mutual
def evE (C : Cf) : IE → Ev → M D
  | .lit d, _ => M.ret d
  | .glo _ d, _ => M.ret d
  | .var i, σ => M.opt (σ[i]?.join)
  | .bin o a b, σ => M.bind (evE C a σ) fun x => M.bind (evE C b σ) fun y => binM o x y
  | .neg a, σ => M.bind (evE C a σ) fun x => match x with
    | .int i => M.ret (.int (-i))
    | _ => M.bad
  | .not a, σ => M.bind (M.bind (evE C a σ) truthM) fun b => M.ret (.bl !b)
  | .and a b, σ => M.bind (evE C a σ) fun x => M.bind (truthM x) fun t => if t then evE C b σ else M.ret x
  | .or a b, σ => M.bind (evE C a σ) fun x => M.bind (truthM x) fun t => if t then M.ret x else evE C b σ
  | .ite c a b, σ => M.bind (M.bind (evE C c σ) truthM) fun t => if t then evE C a σ else evE C b σ
  | .cmp o a b, σ => M.bind (evE C a σ) fun x => M.bind (evE C b σ) fun y => M.bind (cmpM o x y) fun t => M.ret (.bl t)
  | .chn o o' a b c, σ => M.bind (evE C a σ) fun x => M.bind (evE C b σ) fun y => M.bind (cmpM o x y) fun t =>
      if t then M.bind (evE C c σ) fun z => M.bind (cmpM o' y z) fun t' => M.ret (.bl t') else M.ret (.bl false)
  | .isN a, σ => M.bind (evE C a σ) fun x => M.ret (.bl (match x with
    | .non => true
    | _ => false))
  | .notN a, σ => M.bind (evE C a σ) fun x => M.ret (.bl (match x with
    | .non => false
    | _ => true))
  | .tup es, σ => M.bind (evA C es σ) fun xs => if xs.length ≤ SL then M.ret (.tup xs) else M.bad
  | .lst es, σ => M.bind (evA C es σ) fun xs => if xs.length ≤ SL then M.ret (.lst xs) else M.bad
  | .idx a b, σ => M.bind (evE C a σ) fun x => M.bind (evE C b σ) fun y => idxM x y
  | .sli a lo hi, σ => M.bind (evE C a σ) fun x => M.bind (evP C lo σ) fun l => M.bind (evP C hi σ) fun h => fun S => M.opt (cutD S x l h) S
  | .rev a, σ => M.bind (evE C a σ) fun x => fun S => M.opt (revD S x) S
  | .srt a, σ => M.bind (evE C a σ) fun x => fun S => M.opt (srtD S x) S
  | .call f es, σ => M.bind (evA C es σ) fun xs => C.call f xs
  | .blt b es, σ => M.bind (evA C es σ) fun xs => fun S => M.opt (bltD S b xs) S
  | .isi a t, σ => M.bind (evE C a σ) fun x => fun S => .ok (.bl (t.any (D.isTy S x))) S
  | .mth m a es, σ => M.bind (evE C a σ) fun x => if recvOk m x then M.bind (evA C es σ) fun xs => fun S => match mthD S m x xs with
    | some (d, S') => .ok d S'
    | none => .bad
    else M.bad
  | .comp own p it c e, σ => M.bind (evI C it σ) fun s =>
      M.bind (compS (fun x => M.nox fun S => match patE p x S (wipeE σ own) with
        | none => .bad
        | some σ' => M.bind (evC C c σ') (fun t => if t then M.bind (evE C e σ') fun y => M.ret (some y) else M.ret none) S) C.fuel s) fun ys => M.ret (.lst ys)
  | .alloc a, σ => M.bind (evE C a σ) allocM
  | .lzip a b, σ => M.bind (evE C a σ) fun x => M.bind (evE C b σ) fun y => fun S => match seqOf S x, seqOf S y with
    | some xs, some ys => .ok (.lst (zipD xs ys)) S
    | _, _ => .bad
  | .stp a lo k, σ => M.bind (evE C a σ) fun x => fun S => M.opt (stpD S x lo k) S
  | .callk f n m a b perm, σ => M.bind (evA C a σ) fun xs => M.bind (evA C b σ) fun ys => if xs.length = n ∧ ys.length = m then (match pickL perm (xs ++ ys) with
    | some zs => C.call f zs
    | none => M.bad) else M.bad
  | .calld f a ds, σ => M.bind (evA C a σ) fun xs => C.call f (xs ++ ds)
  | _, _ => M.bad
/-- an argument list -/
def evA (C : Cf) : IE → Ev → M (List D)
  | .nil, _ => M.ret []
  | .cons a r, σ => M.bind (evE C a σ) fun x => M.bind (evA C r σ) fun xs => M.ret (x :: xs)
  | _, _ => M.bad
/-- a slice's part -/
def evP (C : Cf) : IE → Ev → M (Option Int)
  | .nil, _ => M.ret none
  | .cons a _, σ => M.bind (evE C a σ) fun x => match x with
    | .int i => M.ret (some i)
    | _ => M.bad
  | _, _ => M.bad
/-- a clause's test -/
def evC (C : Cf) : IE → Ev → M Bool
  | .nil, _ => M.ret true
  | .cons a _, σ => M.bind (evE C a σ) truthM
  | _, _ => M.bad
/-- what is walked -/
def evI (C : Cf) : IE → Ev → M Src
  | .rng1 a, σ => M.bind (evE C a σ) fun x => match x with
    | .int j => if -big62 ≤ j ∧ j < big62 then M.ret (.xs (rngD 0 j.toNat)) else M.bad
    | _ => M.bad
  | .rng2 a b, σ => M.bind (evE C a σ) fun x => M.bind (evE C b σ) fun y => match x, y with
    | .int i, .int j => if -big62 ≤ i ∧ i < big62 ∧ -big62 ≤ j ∧ j < big62 then M.ret (.xs (rngD i (j - i).toNat)) else M.bad
    | _, _ => M.bad
  | .rng3 a b k, σ => M.bind (evE C a σ) fun x => M.bind (evE C b σ) fun y => match x, y with
    | .int i, .int j => if -big62 ≤ i ∧ i < big62 ∧ -big62 ≤ j ∧ j < big62 ∧ 0 < k ∧ k < 1000000 then M.ret (.xs (rngK i k (rngN i j k))) else M.bad
    | _, _ => M.bad
  | .enum a, σ => M.bind (evE C a σ) fun x => match enumV x with
    | some xs => M.ret (.xs (enumD 0 xs))
    | none => M.bad
  | .zip a b, σ => M.bind (evE C a σ) fun x => M.bind (evE C b σ) fun y => M.opt (zipS x y)
  | .cons a _, σ => M.bind (evE C a σ) fun x => M.opt (srcD x)
  | _, _ => M.bad
end
/-- as a test -/
def evT (C : Cf) (e : IE) (σ : Ev) : M Bool := M.bind (evE C e σ) truthM
/-! ### statements -/
inductive Fl where
  | nx (σ : Ev) | rt (d : D) | bk (σ : Ev) | ct (σ : Ev) | xc (c : Nat) (as : List D) (σ : Ev)
/-- an expression within a statement: an error is kept with the slots -/
def liftE {α : Type} (f : M α) (σ : Ev) (k : α → M Fl) : M Fl := fun S => match f S with
  | .ok a S' => k a S'
  | .exc c as S' => .ok (.xc c as σ) S'
  | .bad => .bad
def forL (f : D → Ev → M Fl) : List D → Ev → M Fl
  | [], σ => M.ret (.nx σ)
  | x :: r, σ => M.bind (f x σ) fun o => match o with
    | .nx σ' => forL f r σ'
    | .ct σ' => forL f r σ'
    | .bk σ' => M.ret (.nx σ')
    | .rt d => M.ret (.rt d)
    | .xc c as σ' => M.ret (.xc c as σ')
/-- over a cell as it stands at each turn -/
def forN (f : D → Ev → M Fl) (n : Nat) : Nat → Nat → Ev → M Fl
  | 0, _, _ => M.bad
  | k + 1, i, σ => fun S => match lstOf S (.cell n) with
    | none => .bad
    | some xs => match xs[i]? with
      | none => .ok (.nx σ) S
      | some x => M.bind (f x σ) (fun o => match o with
        | .nx σ' => forN f n k (i + 1) σ'
        | .ct σ' => forN f n k (i + 1) σ'
        | .bk σ' => M.ret (.nx σ')
        | .rt d => M.ret (.rt d)
        | .xc c as σ' => M.ret (.xc c as σ')) S
def whlN (c : Ev → M Bool) (f : Ev → M Fl) : Nat → Ev → M Fl
  | 0, _ => M.bad
  | k + 1, σ => liftE (c σ) σ fun t => if t then M.bind (f σ) fun o => match o with
      | .nx σ' => whlN c f k σ'
      | .ct σ' => whlN c f k σ'
      | .bk σ' => M.ret (.nx σ')
      | .rt d => M.ret (.rt d)
      | .xc c as σ' => M.ret (.xc c as σ')
    else M.ret (.nx σ)
/-- x[i] = v -/
def putD (S : Store) (x i v : D) : Option Store := match x, i with
  | .cell n, .int k => match S[n]? with
    | some (.lst ys) => if k < 0 then (if 0 ≤ k + ys.length then some (S.set n (.lst (ys.set (k + ys.length).toNat v))) else none)
        else if k < ys.length then some (S.set n (.lst (ys.set k.toNat v))) else none
    | none => none
  | _, _ => none
def putM (x i v : D) : M Unit := fun S => match putD S x i v with
  | some S' => .ok () S'
  | none => .bad
/-- an item of a cell's list -/
def cellIx (S : Store) (x i : D) : Option D := match x, i with
  | .cell n, .int k => match S[n]? with
    | some (.lst xs) => ixL xs k
    | none => none
  | _, _ => none
/-- x op= y, of ints -/
def augM (o : Bo) (x y : D) : M D := match o, x, y with
  | .add, .int i, .int j => M.ret (.int (i + j))
  | .sub, .int i, .int j => M.ret (.int (i - j))
  | _, _, _ => M.bad
mutual
/-- an error's fields in a suite -/
def evH (c : Nat) (as : List D) : HE → Option D
  | .lit d => some d
  | .fld c' k => if c' = c then as[k]? else none
  | .tup es => match evHs c as es with
    | some xs => if xs.length ≤ SL then some (.tup xs) else none
    | none => none
  | _ => none
def evHs (c : Nat) (as : List D) : HE → Option (List D)
  | .nil => some []
  | .cons a r => match evH c as a, evHs c as r with
    | some x, some xs => some (x :: xs)
    | _, _ => none
  | _ => none
end
def wipeO (σ : Ev) : Option Nat → Ev
  | none => σ
  | some i => σ.set i none
def hdS : List Hnd → Nat → List D → Ev → M Fl
  | [], c, as, σ => M.ret (.xc c as σ)
  | h :: r, c, as, σ => if h.cs.contains c then (match h.body with
      | .ret e => (match evH c as e with
        | some d => M.ret (.rt d)
        | none => M.bad)
      | .set i e => (match evH c as e with
        | some d => M.ret (.nx (wipeO ((wipeO σ h.nm).set i (some d)) h.nm))
        | none => M.bad))
    else hdS r c as σ
/-- an item to its target, then the body -/
def patB (p : Pat) (k : Ev → M Fl) (x : D) (σ : Ev) : M Fl := fun S => match patE p x S σ with
  | some σ' => k σ' S
  | none => .bad
def exS (C : Cf) : IS → Ev → M Fl
  | .skip, σ => M.ret (.nx σ)
  | .seq a b, σ => M.bind (exS C a σ) fun o => match o with
    | .nx σ' => exS C b σ'
    | o => M.ret o
  | .ex e, σ => liftE (evE C e σ) σ fun _ => M.ret (.nx σ)
  | .set i e, σ => liftE (evE C e σ) σ fun x => M.ret (.nx (σ.set i (some x)))
  | .setP is e, σ => liftE (evE C e σ) σ fun x => patB (.tp is) (fun σ' => M.ret (.nx σ')) x σ
  | .setQ p e, σ => liftE (evE C e σ) σ fun x => patB p (fun σ' => M.ret (.nx σ')) x σ
  | .par is es, σ => liftE (evA C es σ) σ fun xs => patB (.tp is) (fun σ' => M.ret (.nx σ')) (.tup xs) σ
  | .put a i e, σ => liftE (evE C e σ) σ fun v => liftE (evE C a σ) σ fun x => liftE (evE C i σ) σ fun k => liftE (putM x k v) σ fun _ => M.ret (.nx σ)
  | .aug o i e, σ => liftE (M.opt (σ[i]?.join)) σ fun x => liftE (evE C e σ) σ fun y => liftE (augM o x y) σ fun z => M.ret (.nx (σ.set i (some z)))
  | .ite c a b, σ => liftE (evT C c σ) σ fun t => if t then exS C a σ else exS C b σ
  | .whl c b, σ => whlN (fun σ => evT C c σ) (fun σ => exS C b σ) C.fuel σ
  | .for p it b, σ => liftE (evI C it σ) σ fun s => match s with
    | .xs xs => forL (patB p fun σ' => exS C b σ') xs σ
    | .cl n => forN (patB p fun σ' => exS C b σ') n C.fuel 0 σ
  | .ret e, σ => liftE (evE C e σ) σ fun x => M.ret (.rt x)
  | .retN, _ => M.ret (.rt .non)
  | .brk, σ => M.ret (.bk σ)
  | .cnt, σ => M.ret (.ct σ)
  | .augS o a i e, σ => liftE (evE C a σ) σ fun x => liftE (evE C i σ) σ fun k => fun S => match cellIx S x k with
    | some v => liftE (evE C e σ) σ (fun y => liftE (augM o v y) σ fun z => liftE (putM x k z) σ fun _ => M.ret (.nx σ)) S
    | none => .bad
  | .rse c n es, σ => if 2 ≤ C.lv then liftE (evA C es σ) σ fun xs => if xs.length = n then M.ret (.xc c xs σ) else M.bad else M.bad
  | .try b hs, σ => M.bind (exS C b σ) fun o => match o with
    | .xc c as σ' => hdS hs c as σ'
    | o => M.ret o

/-! ### calls -/
structure Fn where
  np : Nat
  nl : Nat
  keep : Bool
  body : IS
mutual
def D.sub (g : Nat → Option D) : D → Option D
  | .tup xs => (D.subs g xs).map .tup
  | .lst xs => (D.subs g xs).map .lst
  | .ro xs => (D.subs g xs).map .ro
  | .cell n => g n
  | d => some d
def D.subs (g : Nat → Option D) : List D → Option (List D)
  | [] => some []
  | x :: xs => match D.sub g x, D.subs g xs with
    | some y, some ys => some (y :: ys)
    | _, _ => none
end
/-- cells from k on become what they hold; l: how deep -/
def frz (k : Nat) (S : Store) : Nat → D → Option D
  | 0 => D.sub fun n => if n < k then some (.cell n) else none
  | l + 1 => D.sub fun n => if n < k then some (.cell n) else match S[n]? with
    | some (.lst xs) => (xs.mapM (frz k S l)).map .lst
    | none => none
def frzC (k : Nat) (S : Store) : Cell → Option Cell
  | .lst xs => (xs.mapM (frz k S 4)).map .lst
def frzS (k : Nat) (S : Store) : Option Store := (S.take k).mapM (frzC k S)
/-- at a def's end: the own cells are let go -/
def leave (k : Nat) (d : D) (S : Store) : Res D := match frz k S 4 d, frzS k S with
  | some d', some S' => .ok d' S'
  | _, _ => .bad
/-- how many of the caller's cells a call is shown -/
def shown (xs : List D) (S : Store) : Nat := if D.tops xs ≤ S.length ∧ (S.take (D.tops xs)).all (Cell.topB (D.tops xs)) = true then D.tops xs else S.length
def runFn (C : Cf) (fn : Fn) (xs : List D) : M D := fun S =>
  match exS C fn.body (xs.map some ++ List.replicate (fn.nl - fn.np) none) S with
  | .ok (.rt d) S' => .ok d S'
  | .ok (.nx _) S' => .ok .non S'
  | .ok (.xc c as _) S' => .exc c as S'
  | .ok _ _ => .bad
  | .exc _ _ _ => .bad
  | .bad => .bad
def callFn (C : Cf) (fn : Fn) (xs : List D) : M D := fun S =>
  if fn.keep then runFn C fn xs S
  else match runFn C fn xs (S.take (shown xs S)) with
    | .ok d S' => (match frz (shown xs S) S' 4 d, frzS (shown xs S) S' with
      | some d', some S'' => .ok d' (S'' ++ S.drop (shown xs S))
      | _, _ => .bad)
    | .exc c as S' => (match as.mapM (frz (shown xs S) S' 4), frzS (shown xs S) S' with
      | some as', some S'' => .exc c as' (S'' ++ S.drop (shown xs S))
      | _, _ => .bad)
    | .bad => .bad
def callF (P : List Fn) (fuel : Nat) : Nat → Nat → List D → M D
  | 0, _, _ => M.bad
  | l + 1, f, xs => match P[f]? with
    | none => M.bad
    | some fn => if xs.length = fn.np then callFn ⟨callF P fuel l, fuel, l⟩ fn xs else M.bad
end Fb
set_option linter.all false
set_option maxRecDepth 100000
set_option maxHeartbeats 1000000
/-! Pw: weakest preconditions of the evaluator. -/
namespace Fb
def W {α : Type} (f : M α) (S : Store) (Q : α → Store → Prop) (E : Nat → List D → Store → Prop) : Prop := match f S with
  | .ok a S' => Q a S'
  | .exc c as S' => E c as S'
  | .bad => False
abbrev NE : Nat → List D → Store → Prop := fun _ _ _ => False
section
variable {α β : Type} {f : M α} {g : α → M β} {S S' : Store} {E : Nat → List D → Store → Prop}
theorem W_bind {Q : β → Store → Prop} : W (M.bind f g) S Q E ↔ W f S (fun a S1 => W (g a) S1 Q E) E := by
  unfold W M.bind
  cases f S <;> rfl
theorem W_ret {a : α} {Q : α → Store → Prop} : W (M.ret a) S Q E ↔ Q a S := Iff.rfl
theorem W_bad {Q : α → Store → Prop} : W (M.bad : M α) S Q E ↔ False := Iff.rfl
theorem W_opt {o : Option α} {Q : α → Store → Prop} : W (M.opt o) S Q E ↔ ∃ a, o = some a ∧ Q a S := by
  cases o with
  | none => exact ⟨fun h => h.elim, fun ⟨_, h, _⟩ => by cases h⟩
  | some a => exact ⟨fun h => ⟨a, rfl, h⟩, fun ⟨_, h, q⟩ => by cases h; exact q⟩
theorem W_optS {o : Store → Option α} {Q : α → Store → Prop} : W (fun S => M.opt (o S) S) S Q E ↔ ∃ a, o S = some a ∧ Q a S := W_opt (o := o S) (S := S)
theorem W_ok {o : Store → α} {Q : α → Store → Prop} : W (fun S => .ok (o S) S) S Q E ↔ Q (o S) S := Iff.rfl
theorem W_mono {Q Q' : α → Store → Prop} {E' : Nat → List D → Store → Prop} (h : W f S Q E) (hq : ∀ a S, Q a S → Q' a S) (he : ∀ c as S, E c as S → E' c as S) : W f S Q' E' := by
  unfold W at *
  cases q : f S with
  | ok a S' => rw [q] at h; exact hq _ _ h
  | exc c as S' => rw [q] at h; exact he _ _ _ h
  | bad => rw [q] at h; exact h
theorem W_mono' {Q Q' : α → Store → Prop} (h : W f S Q NE) (hq : ∀ a S, Q a S → Q' a S) : W f S Q' E := W_mono h hq fun _ _ _ z => z.elim
theorem W_eq {a : α} {Q : α → Store → Prop} (h : f S = .ok a S') (q : Q a S') : W f S Q E := by unfold W; rw [h]; exact q
theorem W_eq_iff {a : α} {Q : α → Store → Prop} (h : f S = .ok a S') : W f S Q E ↔ Q a S' := by unfold W; rw [h]
theorem W_get {Q : α → Store → Prop} (h : W f S Q NE) : ∃ a S', f S = .ok a S' ∧ Q a S' := by
  unfold W at h
  cases q : f S with
  | ok a S' => rw [q] at h; exact ⟨a, S', rfl, h⟩
  | exc c as S' => rw [q] at h; exact h.elim
  | bad => rw [q] at h; exact h.elim
theorem W_lift {σ : Ev} {k : α → M Fl} {Q : Fl → Store → Prop} : W (liftE f σ k) S Q E ↔ W f S (fun a S1 => W (k a) S1 Q E) (fun c as S1 => Q (.xc c as σ) S1) := by
  unfold W liftE
  cases f S <;> rfl
theorem W_seq {C : Cf} {a b : IS} {σ : Ev} {Q : Fl → Store → Prop} : W (exS C (.seq a b) σ) S Q E ↔ W (exS C a σ) S (fun o S1 => match o with
    | .nx σ' => W (exS C b σ') S1 Q E
    | o => Q o S1) E := by
  show W (M.bind (exS C a σ) _) S Q E ↔ _
  rw [W_bind]
  unfold W
  cases exS C a σ S with
  | ok o S1 => cases o <;> rfl
  | exc => rfl
  | bad => rfl
/-- a for over data, with an invariant by the items left -/
theorem W_forL {f : D → Ev → M Fl} {Q : Fl → Store → Prop} (I : List D → Ev → Store → Prop) :
    ∀ {xs : List D} {σ : Ev} {S : Store}, I xs σ S → (∀ x r σ S, I (x :: r) σ S → W (f x σ) S (fun o S1 => match o with
      | .nx σ' => I r σ' S1
      | .ct σ' => I r σ' S1
      | .bk σ' => Q (.nx σ') S1
      | .rt d => Q (.rt d) S1
      | .xc c as σ' => Q (.xc c as σ') S1) E) → (∀ σ S, I [] σ S → Q (.nx σ) S) → W (forL f xs σ) S Q E
  | [], σ, S, h, _, he => he σ S h
  | x :: r, σ, S, h, hs, he => by
    show W (M.bind (f x σ) _) S Q E
    rw [W_bind]
    have h1 := hs x r σ S h
    unfold W at h1
    show W (f x σ) S _ E
    unfold W
    cases q : f x σ S with
    | bad => rw [q] at h1; exact h1
    | exc c as S1 => rw [q] at h1; exact h1
    | ok o S1 =>
      rw [q] at h1
      cases o with
      | nx σ' => exact W_forL I h1 hs he
      | ct σ' => exact W_forL I h1 hs he
      | bk σ' => exact h1
      | rt d => exact h1
      | xc c as σ' => exact h1
/-- a comprehension's loop over data: items, elements so far, left -/
theorem W_compM {f : D → M (Option D)} {Q : List D → Store → Prop} (I : List D → List D → Store → Prop) :
    ∀ {xs acc : List D} {S : Store} {k : Nat}, I xs acc S → k = acc.length → (∀ x r acc S, I (x :: r) acc S → W (f x) S (fun o S1 => match o with
      | none => I r acc S1
      | some y => acc.length < SL ∧ I r (acc ++ [y]) S1) E) → (∀ acc S, I [] acc S → Q acc S) → W (compM f xs k) S (fun ys S1 => Q (acc ++ ys) S1) E
  | [], acc, S, k, h, _, _, he => by
    show Q (acc ++ []) S
    rw [List.append_nil]; exact he acc S h
  | x :: r, acc, S, k, h, hk, hs, he => by
    show W (M.bind (f x) _) S _ E
    rw [W_bind]
    have h1 := hs x r acc S h
    unfold W at h1
    show W (f x) S _ E
    unfold W
    cases q : f x S with
    | bad => rw [q] at h1; exact h1
    | exc c as S1 => rw [q] at h1; exact h1
    | ok o S1 =>
      rw [q] at h1
      cases o with
      | none => exact W_compM I h1 hk hs he
      | some y =>
        have h1 : acc.length < SL ∧ I r (acc ++ [y]) S1 := h1
        show W (if k < SL then M.bind (compM f r (k + 1)) fun ys => M.ret (y :: ys) else M.bad) S1 _ E
        rw [hk, if_pos h1.1, W_bind]
        have h2 := W_compM (Q := Q) I (k := acc.length + 1) h1.2 (by simp) hs he
        refine W_mono h2 (fun ys S2 q2 => ?_) fun _ _ _ z => z
        show Q (acc ++ (y :: ys)) S2
        rw [List.append_assoc] at q2
        exact q2
theorem W_comp {f : D → M (Option D)} {Q : List D → Store → Prop} (I : List D → List D → Store → Prop) {xs : List D} {S : Store} (h0 : I xs [] S) (hs : ∀ x r acc S, I (x :: r) acc S → W (f x) S (fun o S1 => match o with
      | none => I r acc S1
      | some y => acc.length < SL ∧ I r (acc ++ [y]) S1) E) (he : ∀ acc S, I [] acc S → Q acc S) : W (compM f xs 0) S Q E := by
  have h := W_compM (Q := Q) I (acc := []) (k := 0) h0 rfl hs he
  simpa using h
/-- an element with its exceptions barred -/
theorem W_nox {Q : α → Store → Prop} : W (M.nox f) S Q E ↔ W f S Q NE := by
  unfold W M.nox
  cases f S <;> rfl
end
/-! ### calls -/
theorem callF_succ {fs : List Fn} {fuel l f : Nat} {fn : Fn} {xs : List D} (h : fs[f]? = some fn) (hl : xs.length = fn.np) : callF fs fuel (l + 1) f xs = callFn ⟨callF fs fuel l, fuel, l⟩ fn xs := by
  show (match fs[f]? with
    | none => M.bad
    | some fn => if xs.length = fn.np then callFn ⟨callF fs fuel l, fuel, l⟩ fn xs else M.bad) = _
  rw [h]
  exact if_pos hl
/-- a body's ends -/
def EndR (Q : D → Store → Prop) (E : Nat → List D → Store → Prop) : Fl → Store → Prop
  | .rt d, S => Q d S
  | .nx _, S => Q .non S
  | .xc c as _, S => E c as S
  | _, _ => False
theorem W_run {C : Cf} {fn : Fn} {xs : List D} {S : Store} {Q : D → Store → Prop} {E : Nat → List D → Store → Prop} (h : W (exS C fn.body (xs.map some ++ List.replicate (fn.nl - fn.np) none)) S (EndR Q E) NE) : W (runFn C fn xs) S Q E := by
  unfold W at *
  unfold runFn
  cases q : exS C fn.body (xs.map some ++ List.replicate (fn.nl - fn.np) none) S with
  | bad => rw [q] at h; exact h
  | exc => rw [q] at h; exact h.elim
  | ok o S1 =>
    rw [q] at h
    cases o with
    | nx => exact h
    | rt => exact h
    | xc => exact h
    | bk => exact h.elim
    | ct => exact h.elim
/-! ### what is frozen -/
mutual
/-- cells below k alone -/
def D.low (k : Nat) : D → Bool
  | .tup xs => D.lows k xs
  | .lst xs => D.lows k xs
  | .ro xs => D.lows k xs
  | .cell n => decide (n < k)
  | _ => true
def D.lows (k : Nat) : List D → Bool
  | [] => true
  | x :: xs => D.low k x && D.lows k xs
end
mutual
theorem sub_low {k : Nat} {g : Nat → Option D} (hg : ∀ n, n < k → g n = some (.cell n)) : ∀ {d : D}, D.low k d = true → D.sub g d = some d
  | .non, _ => rfl
  | .bl _, _ => rfl
  | .int _, _ => rfl
  | .str _, _ => rfl
  | .tup xs, h => by show (D.subs g xs).map D.tup = _; rw [subs_low hg (show D.lows k xs = true from h)]; rfl
  | .lst xs, h => by show (D.subs g xs).map D.lst = _; rw [subs_low hg (show D.lows k xs = true from h)]; rfl
  | .ro xs, h => by show (D.subs g xs).map D.ro = _; rw [subs_low hg (show D.lows k xs = true from h)]; rfl
  | .cell n, h => hg n (of_decide_eq_true h)
theorem subs_low {k : Nat} {g : Nat → Option D} (hg : ∀ n, n < k → g n = some (.cell n)) : ∀ {ds : List D}, D.lows k ds = true → D.subs g ds = some ds
  | [], _ => rfl
  | x :: xs, h => by
    have h2 := Bool.and_eq_true_iff.mp (show (D.low k x && D.lows k xs) = true from h)
    unfold D.subs
    rw [sub_low hg h2.1, subs_low hg h2.2]
end
theorem frz_low {k : Nat} {S : Store} {d : D} (l : Nat) (h : D.low k d = true) : frz k S l d = some d := by
  cases l with
  | zero => exact sub_low (fun n hn => by simp only [hn, if_true]) h
  | succ l => exact sub_low (fun n hn => by simp only [hn, if_true]) h
def Cell.low (k : Nat) : Cell → Bool
  | .lst xs => D.lows k xs
theorem mapM_frz_low {k : Nat} {S : Store} {l : Nat} : ∀ {xs : List D}, D.lows k xs = true → xs.mapM (frz k S l) = some xs
  | [], _ => rfl
  | x :: xs, h => by
    have h2 := Bool.and_eq_true_iff.mp (show (D.low k x && D.lows k xs) = true from h)
    rw [List.mapM_cons, frz_low l h2.1, mapM_frz_low h2.2]; rfl
theorem frzC_low {k : Nat} {S : Store} {c : Cell} (h : c.low k = true) : frzC k S c = some c := by
  cases c with
  | lst xs =>
    show (xs.mapM (frz k S 4)).map Cell.lst = _
    rw [mapM_frz_low (show D.lows k xs = true from h)]; rfl
theorem mapM_id {α : Type} {f : α → Option α} : ∀ {xs : List α}, (∀ x ∈ xs, f x = some x) → xs.mapM f = some xs
  | [], _ => rfl
  | x :: xs, h => by
    rw [List.mapM_cons, h x List.mem_cons_self, mapM_id fun y hy => h y (List.mem_cons_of_mem _ hy)]; rfl
theorem frzS_low {k : Nat} {S : Store} (h : ∀ c ∈ S.take k, c.low k = true) : frzS k S = some (S.take k) := mapM_id fun c hc => frzC_low (h c hc)
mutual
theorem low_mono {k j : Nat} (hkj : k ≤ j) : ∀ {d : D}, D.low k d = true → D.low j d = true
  | .non, _ => rfl
  | .bl _, _ => rfl
  | .int _, _ => rfl
  | .str _, _ => rfl
  | .tup xs, h => lows_mono hkj (show D.lows k xs = true from h)
  | .lst xs, h => lows_mono hkj (show D.lows k xs = true from h)
  | .ro xs, h => lows_mono hkj (show D.lows k xs = true from h)
  | .cell n, h => decide_eq_true (Nat.lt_of_lt_of_le (of_decide_eq_true h) hkj)
theorem lows_mono {k j : Nat} (hkj : k ≤ j) : ∀ {ds : List D}, D.lows k ds = true → D.lows j ds = true
  | [], _ => rfl
  | x :: xs, h => by
    have h2 := Bool.and_eq_true_iff.mp (show (D.low k x && D.lows k xs) = true from h)
    exact Bool.and_eq_true_iff.mpr ⟨low_mono hkj h2.1, lows_mono hkj h2.2⟩
end
mutual
theorem low_free {k : Nat} : ∀ {d : D}, D.free d = true → D.low k d = true
  | .non, _ => rfl
  | .bl _, _ => rfl
  | .int _, _ => rfl
  | .str _, _ => rfl
  | .tup xs, h => lows_free (show D.frees xs = true from h)
  | .lst xs, h => lows_free (show D.frees xs = true from h)
  | .ro xs, h => lows_free (show D.frees xs = true from h)
  | .cell n, h => by cases h
theorem lows_free {k : Nat} : ∀ {ds : List D}, D.frees ds = true → D.lows k ds = true
  | [], _ => rfl
  | x :: xs, h => by
    have h2 := Bool.and_eq_true_iff.mp (show (D.free x && D.frees xs) = true from h)
    exact Bool.and_eq_true_iff.mpr ⟨low_free h2.1, lows_free h2.2⟩
end
mutual
theorem top_free : ∀ {d : D}, D.free d = true → D.top d = 0
  | .non, _ => rfl
  | .bl _, _ => rfl
  | .int _, _ => rfl
  | .str _, _ => rfl
  | .tup xs, h => tops_free (show D.frees xs = true from h)
  | .lst xs, h => tops_free (show D.frees xs = true from h)
  | .ro xs, h => tops_free (show D.frees xs = true from h)
  | .cell n, h => by cases h
theorem tops_free : ∀ {ds : List D}, D.frees ds = true → D.tops ds = 0
  | [], _ => rfl
  | x :: xs, h => by
    have h2 := Bool.and_eq_true_iff.mp (show (D.free x && D.frees xs) = true from h)
    show max (D.top x) (D.tops xs) = 0
    rw [top_free h2.1, tops_free h2.2]; rfl
end
theorem shown0 {xs : List D} {S : Store} (h : D.tops xs = 0) : shown xs S = 0 := by
  unfold shown
  rw [h]
  exact if_pos ⟨Nat.zero_le _, rfl⟩
theorem shown1 {xs : List D} {c : Cell} {R : Store} (h : D.tops xs = 1) (hc : c.topB 1 = true) : shown xs (c :: R) = 1 := by
  unfold shown
  rw [h]
  exact if_pos ⟨by simp, by simp [hc]⟩
/-- a call of cell-free arguments, by an equation -/
theorem call_freeZ {C : Cf} {fn : Fn} {xs : List D} {S S' : Store} {d d' : D} (hk : fn.keep = false) (hf : D.tops xs = 0) (h : exS C fn.body (xs.map some ++ List.replicate (fn.nl - fn.np) none) [] = .ok (.rt d) S') (hz : frz 0 S' 4 d = some d') : callFn C fn xs S = .ok d' S := by
  unfold callFn runFn
  rw [hk, shown0 hf]
  simp only [Bool.false_eq_true, if_false, List.take_zero, List.drop_zero, h, hz, frzS]
  rfl
theorem call_freeE {C : Cf} {fn : Fn} {xs : List D} {S S' : Store} {d : D} (hk : fn.keep = false) (hf : D.tops xs = 0) (hd : D.free d = true) (h : exS C fn.body (xs.map some ++ List.replicate (fn.nl - fn.np) none) [] = .ok (.rt d) S') : callFn C fn xs S = .ok d S :=
  call_freeZ hk hf h (frz_low 4 (low_free hd))
/-- .. that raises -/
theorem call_freeX {C : Cf} {fn : Fn} {xs : List D} {S S' : Store} {c : Nat} {as : List D} {σ : Ev} (hk : fn.keep = false) (hf : D.tops xs = 0) (hd : D.frees as = true) (h : exS C fn.body (xs.map some ++ List.replicate (fn.nl - fn.np) none) [] = .ok (.xc c as σ) S') : callFn C fn xs S = .exc c as S := by
  unfold callFn runFn
  rw [hk, shown0 hf]
  simp only [Bool.false_eq_true, if_false, List.take_zero, List.drop_zero, h, mapM_frz_low (lows_free (k := 0) hd), frzS]
  rfl
/-- a call that is handed the cell 0 -/
theorem call_oneZ {C : Cf} {fn : Fn} {xs : List D} {c c' : Cell} {R S1 : Store} {d d' : D} (hk : fn.keep = false) (ht : D.tops xs = 1) (hc : c.topB 1 = true) (h : exS C fn.body (xs.map some ++ List.replicate (fn.nl - fn.np) none) [c] = .ok (.rt d) (c' :: S1))
    (hd : frz 1 (c' :: S1) 4 d = some d') (hl : c'.low 1 = true) : callFn C fn xs (c :: R) = .ok d' (c' :: R) := by
  have e : frzS 1 (c' :: S1) = some [c'] := by
    have := frzS_low (k := 1) (S := c' :: S1) fun z hz => by
      have : z = c' := by simpa using hz
      rw [this]; exact hl
    simpa using this
  unfold callFn runFn
  rw [hk, shown1 ht hc]
  simp only [Bool.false_eq_true, if_false, List.take_succ_cons, List.take_zero, List.drop_succ_cons, List.drop_zero, h, hd, e]
  rfl
theorem call_oneE {C : Cf} {fn : Fn} {xs : List D} {c c' : Cell} {R S1 : Store} {d : D} (hk : fn.keep = false) (ht : D.tops xs = 1) (hc : c.topB 1 = true) (h : exS C fn.body (xs.map some ++ List.replicate (fn.nl - fn.np) none) [c] = .ok (.rt d) (c' :: S1))
    (hd : d.low 1 = true) (hl : c'.low 1 = true) : callFn C fn xs (c :: R) = .ok d (c' :: R) := call_oneZ hk ht hc h (frz_low 4 hd) hl
theorem shown2 {xs : List D} {c0 c : Cell} {R : Store} (h : D.tops xs = 2) (h0 : c0.topB 2 = true) (hc : c.topB 2 = true) : shown xs (c0 :: c :: R) = 2 := by
  unfold shown
  rw [h]
  exact if_pos ⟨by simp, by simp [h0, hc]⟩
/-- a call that is handed the cell 1, which may name the cell 0 -/
theorem call_twoZ {C : Cf} {fn : Fn} {xs : List D} {c0 c0' c c' : Cell} {R S1 : Store} {d d' : D} (hk : fn.keep = false) (ht : D.tops xs = 2) (h0 : c0.topB 2 = true) (hc : c.topB 2 = true) (h : exS C fn.body (xs.map some ++ List.replicate (fn.nl - fn.np) none) [c0, c] = .ok (.rt d) (c0' :: c' :: S1))
    (hd : frz 2 (c0' :: c' :: S1) 4 d = some d') (hl0 : c0'.low 2 = true) (hl : c'.low 2 = true) : callFn C fn xs (c0 :: c :: R) = .ok d' (c0' :: c' :: R) := by
  have e : frzS 2 (c0' :: c' :: S1) = some [c0', c'] := by
    have := frzS_low (k := 2) (S := c0' :: c' :: S1) fun z hz => by
      have : z = c0' ∨ z = c' := by simpa using hz
      rcases this with rfl | rfl
      · exact hl0
      · exact hl
    simpa using this
  unfold callFn runFn
  rw [hk, shown2 ht h0 hc]
  simp only [Bool.false_eq_true, if_false, List.take_succ_cons, List.take_zero, List.drop_succ_cons, List.drop_zero, h, hd, e]
  rfl
/-- a cell of cell-free items is frozen to a list -/
theorem frz_cell {k : Nat} {S : Store} {n : Nat} {xs : List D} (l : Nat) (hn : k ≤ n) (h : S[n]? = some (.lst xs)) (hf : D.frees xs = true) : frz k S (l + 1) (.cell n) = some (.lst xs) := by
  show (if n < k then some (D.cell n) else match S[n]? with
    | some (.lst xs) => (xs.mapM (frz k S l)).map D.lst
    | none => none) = _
  rw [if_neg (by omega), h]
  simp only [mapM_frz_low (lows_free (k := k) hf)]
  rfl
theorem call_keepE {C : Cf} {fn : Fn} {xs : List D} {S S' : Store} {d : D} (hk : fn.keep = true) (h : exS C fn.body (xs.map some ++ List.replicate (fn.nl - fn.np) none) S = .ok (.rt d) S') : callFn C fn xs S = .ok d S' := by
  unfold callFn runFn
  rw [hk, h]
  rfl
theorem perm_erase {α : Type} {l : List α} {i : Nat} (h : i < l.length) : (l[i] :: l.eraseIdx i).Perm l := by
  have e : l = l.take i ++ l[i] :: l.drop (i + 1) := by
    rw [← List.drop_eq_getElem_cons h, List.take_append_drop]
  rw [List.eraseIdx_eq_take_drop_succ]
  exact List.perm_middle.symm.trans (List.Perm.of_eq e.symm)
end Fb
set_option linter.all false
set_option maxRecDepth 100000
set_option maxHeartbeats 1000000
/-! Sx: the evaluator run by simp on terms whose shape is known. -/
namespace Fb
section
variable {α β : Type} {C : Cf} {σ : Ev} {S S' : Store}
def Res.bnd (r : Res α) (g : α → M β) : Res β := match r with
  | .ok a S' => g a S'
  | .exc c as S' => .exc c as S'
  | .bad => .bad
def Res.lft (r : Res α) (σ : Ev) (g : α → M Fl) : Res Fl := match r with
  | .ok a S' => g a S'
  | .exc c as S' => .ok (.xc c as σ) S'
  | .bad => .bad
def Res.sqn (r : Res Fl) (g : Ev → M Fl) : Res Fl := match r with
  | .ok (.nx σ) S' => g σ S'
  | .ok o S' => .ok o S'
  | .exc c as S' => .exc c as S'
  | .bad => .bad
@[simp] theorem bnd_ok {a : α} {g : α → M β} : Res.bnd (.ok a S) g = g a S := (rfl)
@[simp] theorem lft_ok {a : α} {g : α → M Fl} : Res.lft (.ok a S) σ g = g a S := (rfl)
@[simp] theorem sqn_nx {δ : Ev} {g : Ev → M Fl} : Res.sqn (.ok (.nx δ) S) g = g δ S := (rfl)
@[simp] theorem sqn_rt {d : D} {g : Ev → M Fl} : Res.sqn (.ok (.rt d) S) g = .ok (.rt d) S := (rfl)
@[simp] theorem bind_bnd {f : M α} {g : α → M β} : M.bind f g S = Res.bnd (f S) g := (rfl)
@[simp] theorem lift_lft {f : M α} {k : α → M Fl} : liftE f σ k S = Res.lft (f S) σ k := (rfl)
@[simp] theorem ret_ok {a : α} : M.ret a S = .ok a S := (rfl)
@[simp] theorem opt_some {a : α} : M.opt (some a) S = .ok a S := (rfl)
@[simp] theorem x_lit {d : D} : evE C (.lit d) σ S = .ok d S := (rfl)
@[simp] theorem x_glo {x : List Nat} {d : D} : evE C (.glo x d) σ S = .ok d S := (rfl)
@[simp] theorem x_var {i : Nat} : evE C (.var i) σ S = M.opt (σ[i]?.join) S := (rfl)
@[simp] theorem x_bin {o : Bo} {a b : IE} : evE C (.bin o a b) σ S = Res.bnd (evE C a σ S) fun x => M.bind (evE C b σ) fun y => binM o x y := (rfl)
@[simp] theorem x_not {a : IE} : evE C (.not a) σ S = Res.bnd (evT C a σ S) fun b => M.ret (.bl !b) := (rfl)
@[simp] theorem x_and {a b : IE} : evE C (.and a b) σ S = Res.bnd (evE C a σ S) fun x => M.bind (truthM x) fun t => if t then evE C b σ else M.ret x := (rfl)
@[simp] theorem x_or {a b : IE} : evE C (.or a b) σ S = Res.bnd (evE C a σ S) fun x => M.bind (truthM x) fun t => if t then M.ret x else evE C b σ := (rfl)
@[simp] theorem x_ite {c a b : IE} : evE C (.ite c a b) σ S = Res.bnd (evT C c σ S) fun t => if t then evE C a σ else evE C b σ := (rfl)
@[simp] theorem x_evT {a : IE} : evT C a σ S = Res.bnd (evE C a σ S) truthM := (rfl)
@[simp] theorem x_cmp {o : Co} {a b : IE} : evE C (.cmp o a b) σ S = Res.bnd (evE C a σ S) fun x => M.bind (evE C b σ) fun y => M.bind (cmpM o x y) fun t => M.ret (.bl t) := (rfl)
@[simp] theorem x_tup {es : IE} : evE C (.tup es) σ S = Res.bnd (evA C es σ S) fun xs => if xs.length ≤ SL then M.ret (.tup xs) else M.bad := (rfl)
@[simp] theorem x_lst {es : IE} : evE C (.lst es) σ S = Res.bnd (evA C es σ S) fun xs => if xs.length ≤ SL then M.ret (.lst xs) else M.bad := (rfl)
@[simp] theorem x_idx {a b : IE} : evE C (.idx a b) σ S = Res.bnd (evE C a σ S) fun x => M.bind (evE C b σ) fun y => idxM x y := (rfl)
@[simp] theorem x_sli {a lo hi : IE} : evE C (.sli a lo hi) σ S = Res.bnd (evE C a σ S) fun x => M.bind (evP C lo σ) fun l => M.bind (evP C hi σ) fun h => fun S => M.opt (cutD S x l h) S := (rfl)
@[simp] theorem x_call {f : Nat} {es : IE} : evE C (.call f es) σ S = Res.bnd (evA C es σ S) fun xs => C.call f xs := (rfl)
@[simp] theorem x_blt {b : Bt} {es : IE} : evE C (.blt b es) σ S = Res.bnd (evA C es σ S) fun xs => fun S => M.opt (bltD S b xs) S := (rfl)
@[simp] theorem x_isi {a : IE} {t : List Ty} : evE C (.isi a t) σ S = Res.bnd (evE C a σ S) fun x => fun S => .ok (.bl (t.any (D.isTy S x))) S := (rfl)
@[simp] theorem x_mth {m : Mt} {a es : IE} : evE C (.mth m a es) σ S = Res.bnd (evE C a σ S) fun x => if recvOk m x then M.bind (evA C es σ) fun xs => fun S => match mthD S m x xs with
    | some (d, S') => .ok d S'
    | none => .bad
    else M.bad := (rfl)
@[simp] theorem x_alloc {a : IE} : evE C (.alloc a) σ S = Res.bnd (evE C a σ S) allocM := (rfl)
@[simp] theorem x_nil : evA C .nil σ S = .ok [] S := (rfl)
@[simp] theorem x_cons {a r : IE} : evA C (.cons a r) σ S = Res.bnd (evE C a σ S) fun x => M.bind (evA C r σ) fun xs => M.ret (x :: xs) := (rfl)
@[simp] theorem x_pnil : evP C .nil σ S = .ok none S := (rfl)
@[simp] theorem x_pcons {a r : IE} : evP C (.cons a r) σ S = Res.bnd (evE C a σ S) fun x => match x with
    | .int i => M.ret (some i)
    | _ => M.bad := (rfl)
@[simp] theorem x_cnil : evC C .nil σ S = .ok true S := (rfl)
@[simp] theorem x_ccons {a r : IE} : evC C (.cons a r) σ S = Res.bnd (evE C a σ S) truthM := (rfl)
@[simp] theorem x_ival {a r : IE} : evI C (.cons a r) σ S = Res.bnd (evE C a σ S) fun x => M.opt (srcD x) := (rfl)
@[simp] theorem x_comp {own : List Nat} {p : Pat} {it c e : IE} : evE C (.comp own p it c e) σ S = Res.bnd (evI C it σ S) fun s =>
      M.bind (compS (fun x => M.nox fun S => match patE p x S (wipeE σ own) with
        | none => .bad
        | some σ' => M.bind (evC C c σ') (fun t => if t then M.bind (evE C e σ') fun y => M.ret (some y) else M.ret none) S) C.fuel s) fun ys => M.ret (.lst ys) := (rfl)
@[simp] theorem x_skip : exS C .skip σ S = .ok (.nx σ) S := (rfl)
@[simp] theorem x_seq {a b : IS} : exS C (.seq a b) σ S = Res.sqn (exS C a σ S) fun σ' => exS C b σ' := by
  show M.bind (exS C a σ) _ S = _
  unfold M.bind Res.sqn
  cases exS C a σ S with
  | ok o S1 => cases o <;> rfl
  | exc => rfl
  | bad => rfl
@[simp] theorem x_ex {e : IE} : exS C (.ex e) σ S = Res.lft (evE C e σ S) σ fun _ => M.ret (.nx σ) := (rfl)
@[simp] theorem x_set {i : Nat} {e : IE} : exS C (.set i e) σ S = Res.lft (evE C e σ S) σ fun x => M.ret (.nx (σ.set i (some x))) := (rfl)
@[simp] theorem x_setP {is : List Nat} {e : IE} : exS C (.setP is e) σ S = Res.lft (evE C e σ S) σ fun x => patB (.tp is) (fun σ' => M.ret (.nx σ')) x σ := (rfl)
@[simp] theorem x_par {is : List Nat} {es : IE} : exS C (.par is es) σ S = Res.lft (evA C es σ S) σ fun xs => patB (.tp is) (fun σ' => M.ret (.nx σ')) (.tup xs) σ := (rfl)
@[simp] theorem x_put {a i e : IE} : exS C (.put a i e) σ S = Res.lft (evE C e σ S) σ fun v => liftE (evE C a σ) σ fun x => liftE (evE C i σ) σ fun k => liftE (putM x k v) σ fun _ => M.ret (.nx σ) := (rfl)
@[simp] theorem x_sit {c : IE} {a b : IS} : exS C (.ite c a b) σ S = Res.lft (evT C c σ S) σ fun t => if t then exS C a σ else exS C b σ := (rfl)
@[simp] theorem x_for {p : Pat} {it : IE} {b : IS} : exS C (.for p it b) σ S = Res.lft (evI C it σ S) σ fun s => match s with
    | .xs xs => forL (patB p fun σ' => exS C b σ') xs σ
    | .cl n => forN (patB p fun σ' => exS C b σ') n C.fuel 0 σ := (rfl)
@[simp] theorem x_ret {e : IE} : exS C (.ret e) σ S = Res.lft (evE C e σ S) σ fun x => M.ret (.rt x) := (rfl)
@[simp] theorem x_retN : exS C .retN σ S = .ok (.rt .non) S := (rfl)
@[simp] theorem SL_val : SL = 16777216 := (rfl)
@[simp] theorem x_neg {a : IE} : evE C (.neg a) σ S = Res.bnd (evE C a σ S) fun x => match x with
    | .int i => M.ret (.int (-i))
    | _ => M.bad := (rfl)
@[simp] theorem x_chn {o o' : Co} {a b c : IE} : evE C (.chn o o' a b c) σ S = Res.bnd (evE C a σ S) fun x => M.bind (evE C b σ) fun y => M.bind (cmpM o x y) fun t =>
      if t then M.bind (evE C c σ) fun z => M.bind (cmpM o' y z) fun t' => M.ret (.bl t') else M.ret (.bl false) := (rfl)
@[simp] theorem x_rev {a : IE} : evE C (.rev a) σ S = Res.bnd (evE C a σ S) fun x => fun S => M.opt (revD S x) S := (rfl)
@[simp] theorem x_srt {a : IE} : evE C (.srt a) σ S = Res.bnd (evE C a σ S) fun x => fun S => M.opt (srtD S x) S := (rfl)
@[simp] theorem x_stp {a : IE} {lo k : Nat} : evE C (.stp a lo k) σ S = Res.bnd (evE C a σ S) fun x => fun S => M.opt (stpD S x lo k) S := (rfl)
@[simp] theorem x_isN {a : IE} : evE C (.isN a) σ S = Res.bnd (evE C a σ S) fun x => M.ret (.bl (match x with
    | .non => true
    | _ => false)) := (rfl)
@[simp] theorem x_calld {f : Nat} {a : IE} {ds : List D} : evE C (.calld f a ds) σ S = Res.bnd (evA C a σ S) fun xs => C.call f (xs ++ ds) := (rfl)
@[simp] theorem x_enum {a : IE} : evI C (.enum a) σ S = Res.bnd (evE C a σ S) fun x => match enumV x with
    | some xs => M.ret (.xs (enumD 0 xs))
    | none => M.bad := (rfl)
@[simp] theorem x_aug {o : Bo} {i : Nat} {e : IE} : exS C (.aug o i e) σ S = Res.lft (M.opt (σ[i]?.join) S) σ fun x => liftE (evE C e σ) σ fun y => liftE (augM o x y) σ fun z => M.ret (.nx (σ.set i (some z))) := (rfl)
@[simp] theorem x_rse {c n : Nat} {es : IE} (h : 2 ≤ C.lv) : exS C (.rse c n es) σ S = Res.lft (evA C es σ S) σ fun xs => if xs.length = n then M.ret (.xc c xs σ) else M.bad := by
  show (if 2 ≤ C.lv then _ else M.bad : M Fl) S = _
  rw [if_pos h]; rfl
@[simp] theorem x_brk : exS C .brk σ S = .ok (.bk σ) S := (rfl)
@[simp] theorem x_cnt : exS C .cnt σ S = .ok (.ct σ) S := (rfl)
@[simp] theorem lft_exc {α : Type} {c : Nat} {as : List D} {g : α → M Fl} : Res.lft (.exc c as S) σ g = .ok (.xc c as σ) S := (rfl)
@[simp] theorem bnd_exc {α β : Type} {c : Nat} {as : List D} {g : α → M β} : Res.bnd (.exc c as S) g = .exc c as S := (rfl)
@[simp] theorem sqn_xc {c : Nat} {as : List D} {δ : Ev} {g : Ev → M Fl} : Res.sqn (.ok (.xc c as δ) S) g = .ok (.xc c as δ) S := (rfl)
@[simp] theorem sqn_bk {δ : Ev} {g : Ev → M Fl} : Res.sqn (.ok (.bk δ) S) g = .ok (.bk δ) S := (rfl)
@[simp] theorem sqn_ct {δ : Ev} {g : Ev → M Fl} : Res.sqn (.ok (.ct δ) S) g = .ok (.ct δ) S := (rfl)
theorem x_try_ok {b : IS} {hs : List Hnd} {o : Fl} (h : exS C b σ S = .ok o S') (hx : ∀ c as δ, o ≠ .xc c as δ) : exS C (.try b hs) σ S = .ok o S' := by
  show M.bind (exS C b σ) _ S = _
  unfold M.bind
  rw [h]
  cases o <;> first | rfl | exact absurd rfl (hx _ _ _)
theorem x_try_xc {b : IS} {hs : List Hnd} {c : Nat} {as : List D} {δ : Ev} (h : exS C b σ S = .ok (.xc c as δ) S') : exS C (.try b hs) σ S = hdS hs c as δ S' := by
  show M.bind (exS C b σ) _ S = _
  unfold M.bind
  rw [h]
/-! targets -/
def setK (is : List Nat) (xs : List D) (σ : Ev) (k : Ev → M Fl) : M Fl := fun S => match setAll is xs σ with
  | some σ' => k σ' S
  | none => .bad
@[simp] theorem p_nm {i : Nat} {k : Ev → M Fl} {x : D} : patB (.nm i) k x σ S = k (σ.set i (some x)) S := (rfl)
@[simp] theorem p_tup {is : List Nat} {k : Ev → M Fl} {xs : List D} : patB (.tp is) k (.tup xs) σ S = setK is xs σ k S := (rfl)
@[simp] theorem p_lst {is : List Nat} {k : Ev → M Fl} {xs : List D} : patB (.tp is) k (.lst xs) σ S = setK is xs σ k S := (rfl)
@[simp] theorem p_cons {i : Nat} {is : List Nat} {k : Ev → M Fl} {x : D} {xs : List D} : setK (i :: is) (x :: xs) σ k S = setK is xs (σ.set i (some x)) k S := (rfl)
@[simp] theorem p_nil {k : Ev → M Fl} : setK [] [] σ k S = k σ S := (rfl)
/-! operators -/
@[simp] theorem t_bl {b : Bool} : truthM (.bl b) S = .ok b S := (rfl)
@[simp] theorem t_int {i : Int} : truthM (.int i) S = .ok (i != 0) S := (rfl)
@[simp] theorem t_tup {xs : List D} : truthM (.tup xs) S = .ok (!xs.isEmpty) S := (rfl)
@[simp] theorem t_lst {xs : List D} : truthM (.lst xs) S = .ok (!xs.isEmpty) S := (rfl)
@[simp] theorem o_addI {i j : Int} : binM .add (.int i) (.int j) S = .ok (.int (i + j)) S := (rfl)
@[simp] theorem o_subI {i j : Int} : binM .sub (.int i) (.int j) S = .ok (.int (i - j)) S := (rfl)
@[simp] theorem o_addS {a b : List Nat} (h : a.length + b.length ≤ 16777216) : binM .add (.str a) (.str b) S = .ok (.str (a ++ b)) S := by
  show M.opt (if a.length + b.length ≤ SL then _ else _) S = _
  rw [if_pos (show a.length + b.length ≤ SL from h)]; rfl
@[simp] theorem o_addT {a b : List D} (h : a.length + b.length ≤ 16777216) : binM .add (.tup a) (.tup b) S = .ok (.tup (a ++ b)) S := by
  show M.opt (if a.length + b.length ≤ SL then _ else _) S = _
  rw [if_pos (show a.length + b.length ≤ SL from h)]; rfl
@[simp] theorem o_addL {a b : List D} (h : a.length + b.length ≤ 16777216) : binM .add (.lst a) (.lst b) S = .ok (.lst (a ++ b)) S := by
  show M.opt (if a.length + b.length ≤ SL then _ else _) S = _
  rw [if_pos (show a.length + b.length ≤ SL from h)]; rfl
@[simp] theorem o_modI {i j : Int} (h : 0 < j) : binM .mod (.int i) (.int j) S = .ok (.int (i % j)) S := by
  show M.opt (if 0 < j then _ else _) S = _
  rw [if_pos h]; rfl
theorem log2_small {n : Nat} (h : n < 2 ^ 30) : n.log2 < 9000 := by
  by_cases h0 : n = 0
  · subst h0; decide
  · exact Nat.lt_trans ((Nat.log2_lt h0).mpr h) (by decide)
@[simp] theorem o_divI {i j : Int} (h : 0 < j ∧ j < 1073741824) : binM .fdiv (.int i) (.int j) S = .ok (.int (i / j)) S := by
  show M.opt (if 0 < j ∧ j.natAbs.log2 < 9000 then _ else _) S = _
  rw [if_pos ⟨h.1, log2_small (show j.natAbs < 2 ^ 30 by omega)⟩]; rfl
theorem o_divW {i j : Int} (h : 0 < j ∧ j.natAbs.log2 < 9000) : binM .fdiv (.int i) (.int j) S = .ok (.int (i / j)) S := by
  show M.opt (if 0 < j ∧ j.natAbs.log2 < 9000 then _ else _) S = _
  rw [if_pos h]; rfl
@[simp] theorem o_mulI {i j : Int} (h : (-two64 < i ∧ i < two64) ∨ (-two64 < j ∧ j < two64)) : binM .mul (.int i) (.int j) S = .ok (.int (i * j)) S := by
  show M.opt (if mulOk i j = true then _ else _) S = _
  rw [if_pos (show mulOk i j = true from Bool.or_eq_true_iff.mpr (.inl (decide_eq_true h)))]; rfl
theorem o_mulW {i j : Int} (h : i.natAbs.log2 + j.natAbs.log2 < 1000000) : binM .mul (.int i) (.int j) S = .ok (.int (i * j)) S := by
  show M.opt (if mulOk i j = true then _ else _) S = _
  rw [if_pos (show mulOk i j = true from Bool.or_eq_true_iff.mpr (.inr (decide_eq_true h)))]; rfl
@[simp] theorem o_idxT {xs : List D} {i : Int} (h : 0 ≤ i) : idxM (.tup xs) (.int i) S = M.opt (xs[i.toNat]?) S := by
  show M.opt (ixL xs i) S = _
  unfold ixL
  rw [if_neg (by omega)]
@[simp] theorem o_idxL {xs : List D} {i : Int} (h : 0 ≤ i) : idxM (.lst xs) (.int i) S = M.opt (xs[i.toNat]?) S := by
  show M.opt (ixL xs i) S = _
  unfold ixL
  rw [if_neg (by omega)]
@[simp] theorem o_idxR {xs : List D} {i : Int} (h : 0 ≤ i) : idxM (.ro xs) (.int i) S = M.opt (xs[i.toNat]?) S := by
  show M.opt (ixL xs i) S = _
  unfold ixL
  rw [if_neg (by omega)]
@[simp] theorem o_eqS {a b : List Nat} : cmpM .eq (.str a) (.str b) S = .ok (a == b) S := (rfl)
@[simp] theorem o_neS {a b : List Nat} : cmpM .ne (.str a) (.str b) S = .ok (!(a == b)) S := (rfl)
@[simp] theorem o_eqI {a b : Int} : cmpM .eq (.int a) (.int b) S = .ok (a == b) S := (rfl)
@[simp] theorem o_neI {a b : Int} : cmpM .ne (.int a) (.int b) S = .ok (!(a == b)) S := (rfl)
@[simp] theorem o_ltI {a b : Int} : cmpM .lt (.int a) (.int b) S = .ok (decide (a < b)) S := (rfl)
@[simp] theorem o_leI {a b : Int} : cmpM .le (.int a) (.int b) S = .ok (decide (a ≤ b)) S := (rfl)
@[simp] theorem o_gtI {a b : Int} : cmpM .gt (.int a) (.int b) S = .ok (decide (b < a)) S := (rfl)
@[simp] theorem o_geI {a b : Int} : cmpM .ge (.int a) (.int b) S = .ok (decide (b ≤ a)) S := (rfl)
@[simp] theorem o_inT {x : List Nat} {ys : List D} (h : ys.all D.flat = true) : cmpM .isIn (.str x) (.tup ys) S = .ok (memD (.str x) ys) S := by
  show M.opt (if (true && ys.all D.flat) = true then _ else _) S = _
  rw [h]; rfl
@[simp] theorem mem_str {x y : List Nat} {r : List D} : memD (.str x) (.str y :: r) = ((y == x) || memD (.str x) r) := (rfl)
@[simp] theorem mem_nil {x : D} : memD x [] = false := (rfl)
@[simp] theorem flat_str {x : List Nat} : D.flat (.str x) = true := (rfl)
end
@[simp high] theorem x_lst0 {C : Cf} {σ : Ev} {S : Store} : evE C (.lst .nil) σ S = .ok (.lst []) S := by
  rw [x_lst, x_nil, bnd_ok]
  exact congrFun (if_pos (Nat.zero_le _)) S
/-! ### lists and loops -/
inductive All2 {α β : Type} (R : α → β → Prop) : List α → List β → Prop
  | nil : All2 R [] []
  | cons {a : α} {b : β} {as : List α} {bs : List β} : R a b → All2 R as bs → All2 R (a :: as) (b :: bs)
theorem All2.len {α β : Type} {R : α → β → Prop} {as : List α} {bs : List β} (h : All2 R as bs) : as.length = bs.length := by
  induction h with
  | nil => rfl
  | cons _ _ ih => simp [ih]
theorem strs_map : ∀ zs : List (List Nat), strsOf (zs.map D.str) = some zs
  | [] => rfl
  | z :: r => by
    show (strsOf (r.map D.str)).map (z :: ·) = _
    rw [strs_map r]; rfl
theorem frees_strs : ∀ zs : List (List Nat), D.frees (zs.map D.str) = true
  | [] => rfl
  | z :: r => by show (true && D.frees (r.map D.str)) = true; rw [frees_strs r]; rfl
theorem frees_app : ∀ xs ys : List D, D.frees (xs ++ ys) = (D.frees xs && D.frees ys)
  | [], ys => by simp [D.frees]
  | x :: xs, ys => by simp [D.frees, frees_app xs ys, Bool.and_assoc]
theorem join_seq {S : Store} {s : List Nat} {d : D} {ys : List D} (zs : List (List Nat)) (hq : seqOf S d = some ys) (hy : ys = zs.map D.str) (h : (zs.map (·.length)).sum + zs.length * s.length ≤ 16777216) : mthD S .join (.str s) [d] = some (.str (joinD s zs), S) := by
  show (match seqOf S d with
    | some ys => match strsOf ys with
      | some zs => if (zs.map fun (z : List Nat) => z.length).sum + zs.length * s.length ≤ SL then some (D.str (joinD s zs), S) else none
      | none => none
    | none => none) = _
  rw [hq, hy]
  simp only [strs_map]
  exact if_pos h
theorem sum_le {zs : List (List Nat)} {b : Nat} (h : ∀ z ∈ zs, z.length ≤ b) : (zs.map (·.length)).sum ≤ b * zs.length := by
  induction zs with
  | nil => simp
  | cons z r ih =>
    have h1 := h z List.mem_cons_self
    have h2 := ih fun y hy => h y (List.mem_cons_of_mem _ hy)
    simp only [List.map_cons, List.sum_cons, List.length_cons, Nat.mul_add]
    omega
theorem join_len (s : List Nat) : ∀ zs : List (List Nat), (joinD s zs).length ≤ (zs.map (·.length)).sum + zs.length * s.length
  | [] => by simp [joinD]
  | [x] => by simp [joinD]
  | x :: y :: r => by
    have h := join_len s (y :: r)
    show (x ++ s ++ joinD s (y :: r)).length ≤ _
    simp only [List.length_append, List.map_cons, List.sum_cons, List.length_cons, Nat.add_mul, Nat.one_mul] at h ⊢
    omega
theorem join_nil : ∀ zs : List (List Nat), joinD [] zs = zs.flatten
  | [] => rfl
  | [x] => by simp [joinD]
  | x :: y :: r => by
    show x ++ [] ++ joinD [] (y :: r) = _
    rw [join_nil (y :: r)]; simp
def elG (C : Cf) (own : List Nat) (p : Pat) (c e : IE) (σ : Ev) (x : D) : M (Option D) := M.nox fun S => match patE p x S (wipeE σ own) with
  | none => .bad
  | some σ' => M.bind (evC C c σ') (fun t => if t then M.bind (evE C e σ') fun y => M.ret (some y) else M.ret none) S
theorem x_comp2 {C : Cf} {σ : Ev} {S : Store} {own : List Nat} {p : Pat} {it c e : IE} : evE C (.comp own p it c e) σ S = Res.bnd (evI C it σ S) fun s => M.bind (compS (elG C own p c e σ) C.fuel s) fun ys => M.ret (.lst ys) := (rfl)
theorem wipe_length : ∀ (own : List Nat) (σ : Ev), (wipeE σ own).length = σ.length
  | [], _ => rfl
  | v :: vs, σ => by show ((wipeE σ vs).set v none).length = _; rw [List.length_set, wipe_length vs]
theorem el_nm {C : Cf} {own : List Nat} {i : Nat} {e : IE} {σ : Ev} {x y : D} {S S' : Store} (h : evE C e ((wipeE σ own).set i (some x)) S = .ok y S') : elG C own (.nm i) .nil e σ x S = .ok (some y) S' := by
  have e2 : (M.bind (evC C .nil ((wipeE σ own).set i (some x))) (fun t => if t then M.bind (evE C e ((wipeE σ own).set i (some x))) fun y => M.ret (some y) else M.ret none) S : Res (Option D)) = .ok (some y) S' := by
    rw [bind_bnd, x_cnil, bnd_ok]
    simp only [if_true]
    rw [bind_bnd, h]; rfl
  unfold elG M.nox patE
  simp only
  rw [e2]
/-- a comprehension whose elements leave the store -/
theorem compM_all {f : D → M (Option D)} : ∀ {xs ys : List D} {k : Nat} {S : Store}, All2 (fun x y => ∀ S, f x S = .ok (some y) S) xs ys → xs.length + k ≤ 16777216 → compM f xs k S = .ok ys S
  | [], _, k, S, .nil, _ => rfl
  | x :: r, _, k, S, .cons (b := y) (bs := ys) h hr, hl => by
    show Res.bnd (f x S) _ = _
    rw [h S]
    show (if k < SL then M.bind (compM f r (k + 1)) fun ys => M.ret (y :: ys) else M.bad) S = _
    simp only [List.length_cons] at hl
    rw [if_pos (show k < SL by show k < 16777216; omega)]
    show Res.bnd (compM f r (k + 1) S) _ = _
    rw [compM_all hr (by omega)]
    rfl
/-- .. over a cell -/
theorem compN_all {f : D → M (Option D)} {n : Nat} {S : Store} {xs : List D} (hc : lstOf S (.cell n) = some xs) : ∀ (l : Nat) {ys : List D} {i k : Nat}, All2 (fun x y => f x S = .ok (some y) S) (xs.drop i) ys → (xs.drop i).length < l → (xs.drop i).length + k ≤ 16777216 → compN f n l i k S = .ok ys S
  | 0, _, _, _, _, h, _ => by omega
  | l + 1, ys, i, k, h, hl, hk => by
    unfold compN
    simp only [hc]
    by_cases hi : i < xs.length
    · have e : xs.drop i = xs[i] :: xs.drop (i + 1) := List.drop_eq_getElem_cons hi
      rw [e] at h hl hk
      simp only [List.length_cons] at hl hk
      rw [List.getElem?_eq_getElem hi]
      cases h with
      | @cons a b as bs h1 h2 =>
        show Res.bnd (f xs[i] S) _ = _
        rw [h1]
        show (if k < SL then M.bind (compN f n l (i + 1) (k + 1)) fun ys => M.ret (b :: ys) else M.bad) S = _
        rw [if_pos (show k < SL by show k < 16777216; omega)]
        show Res.bnd (compN f n l (i + 1) (k + 1) S) _ = _
        rw [compN_all hc l h2 (by omega) (by omega)]
        rfl
    · rw [List.drop_eq_nil_of_le (by omega)] at h
      cases h
      rw [List.getElem?_eq_none (by omega)]
theorem forL_nx {f : D → Ev → M Fl} {x : D} {r : List D} {σ σ' : Ev} {S S' : Store} (h : f x σ S = .ok (.nx σ') S') : forL f (x :: r) σ S = forL f r σ' S' := by
  show Res.bnd (f x σ S) _ = _
  rw [h]; rfl
theorem forL_rt {f : D → Ev → M Fl} {x d : D} {r : List D} {σ : Ev} {S S' : Store} (h : f x σ S = .ok (.rt d) S') : forL f (x :: r) σ S = .ok (.rt d) S' := by
  show Res.bnd (f x σ S) _ = _
  rw [h]; rfl
theorem forL_nil {f : D → Ev → M Fl} {σ : Ev} {S : Store} : forL f [] σ S = .ok (.nx σ) S := (rfl)
/-! ### with effects -/
theorem compM_ex {f : D → M (Option D)} (I : Store → Prop) (P : D → Prop) : ∀ {xs : List D} {k : Nat} {S : Store}, (∀ x ∈ xs, ∀ S, I S → ∃ y S', f x S = .ok (some y) S' ∧ P y ∧ I S') → xs.length + k ≤ 16777216 → I S →
    ∃ ys S', compM f xs k S = .ok ys S' ∧ (∀ y ∈ ys, P y) ∧ ys.length = xs.length ∧ I S'
  | [], k, S, _, _, h => ⟨[], S, rfl, fun y hy => (nomatch hy), rfl, h⟩
  | x :: r, k, S, hx, hl, h => by
    simp only [List.length_cons] at hl
    obtain ⟨y, S1, e1, p1, i1⟩ := hx x List.mem_cons_self S h
    obtain ⟨ys, S2, e2, p2, l2, i2⟩ := compM_ex I P (xs := r) (k := k + 1) (fun z hz => hx z (List.mem_cons_of_mem _ hz)) (by omega) i1
    refine ⟨y :: ys, S2, ?_, fun z hz => ?_, by simp [l2], i2⟩
    · show Res.bnd (f x S) _ = _
      rw [e1]
      show (if k < SL then M.bind (compM f r (k + 1)) fun ys => M.ret (y :: ys) else M.bad) S1 = _
      rw [if_pos (show k < SL by show k < 16777216; omega)]
      show Res.bnd (compM f r (k + 1) S1) _ = _
      rw [e2]; rfl
    · rcases List.mem_cons.mp hz with e | e
      · rw [e]; exact p1
      · exact p2 z e
theorem forL_ix {f : D → Ev → M Fl} (I : Nat → Ev → Store → Prop) : ∀ {xs : List D} {j : Nat} {σ : Ev} {S : Store}, (∀ (i : Nat) (x : D) (σ : Ev) (S : Store), xs[i]? = some x → I (j + i) σ S → ∃ σ' S', f x σ S = .ok (.nx σ') S' ∧ I (j + i + 1) σ' S') → I j σ S →
    ∃ σ' S', forL f xs σ S = .ok (.nx σ') S' ∧ I (j + xs.length) σ' S'
  | [], j, σ, S, _, h => ⟨σ, S, rfl, h⟩
  | x :: r, j, σ, S, hx, h => by
    obtain ⟨σ1, S1, e1, i1⟩ := hx 0 x σ S rfl h
    obtain ⟨σ2, S2, e2, i2⟩ := forL_ix I (xs := r) (j := j + 1) (fun i y σ S hy hi => by
      have := hx (i + 1) y σ S (by simpa using hy) (by rw [show j + (i + 1) = j + 1 + i by omega]; exact hi)
      rw [show j + (i + 1) + 1 = j + 1 + i + 1 by omega] at this
      exact this) i1
    refine ⟨σ2, S2, ?_, ?_⟩
    · rw [forL_nx e1, e2]
    · rw [List.length_cons, show j + (r.length + 1) = j + 1 + r.length by omega]; exact i2
/-- .. that may answer on the way -/
theorem forL_rx {f : D → Ev → M Fl} (I : Nat → Ev → Store → Prop) (R : D → Store → Prop) : ∀ {xs : List D} {j : Nat} {σ : Ev} {S : Store}, (∀ (i : Nat) (x : D) (σ : Ev) (S : Store), xs[i]? = some x → I (j + i) σ S → (∃ σ' S', f x σ S = .ok (.nx σ') S' ∧ I (j + i + 1) σ' S') ∨ ∃ d S', f x σ S = .ok (.rt d) S' ∧ R d S') → I j σ S →
    (∃ σ' S', forL f xs σ S = .ok (.nx σ') S' ∧ I (j + xs.length) σ' S') ∨ ∃ d S', forL f xs σ S = .ok (.rt d) S' ∧ R d S'
  | [], j, σ, S, _, h => .inl ⟨σ, S, rfl, h⟩
  | x :: r, j, σ, S, hx, h => by
    rcases hx 0 x σ S rfl h with ⟨σ1, S1, e1, i1⟩ | ⟨d, S1, e1, r1⟩
    · have q := forL_rx I R (xs := r) (j := j + 1) (σ := σ1) (S := S1) (fun i y σ S hy hi => by
        have := hx (i + 1) y σ S (by simpa using hy) (by rw [show j + (i + 1) = j + 1 + i by omega]; exact hi)
        rw [show j + (i + 1) + 1 = j + 1 + i + 1 by omega] at this
        exact this) i1
      rw [forL_nx e1, List.length_cons, show j + (r.length + 1) = j + 1 + r.length by omega]
      exact q
    · exact .inr ⟨d, S1, forL_rt e1, r1⟩
theorem el_set {own : List Nat} {i : Nat} {σ : Ev} {x : D} (h : i < σ.length) : ((wipeE σ own).set i (some x))[i]? = some (some x) := List.getElem?_set_self (by rw [wipe_length]; exact h)
def rngM (x : D) : M Src := match x with
  | .int j => if -big62 ≤ j ∧ j < big62 then M.ret (.xs (rngD 0 j.toNat)) else M.bad
  | _ => M.bad
@[simp] theorem x_rng1 {C : Cf} {σ : Ev} {S : Store} {a : IE} : evI C (.rng1 a) σ S = Res.bnd (evE C a σ S) rngM := (rfl)
@[simp] theorem x_rngM {j : Int} {S : Store} (h0 : -4611686018427387904 ≤ j) (h1 : j < 4611686018427387904) : rngM (.int j) S = .ok (.xs (rngD 0 j.toNat)) S := by
  show (if -big62 ≤ j ∧ j < big62 then M.ret (Src.xs (rngD 0 j.toNat)) else M.bad) S = _
  rw [if_pos ⟨h0, h1⟩]; rfl
@[simp] theorem x_compS {f : D → M (Option D)} {l : Nat} {xs : List D} {S : Store} : compS f l (.xs xs) S = compM f xs 0 S := (rfl)
@[simp] theorem x_compC {f : D → M (Option D)} {l n : Nat} {S : Store} : compS f l (.cl n) S = compN f n l 0 0 S := (rfl)
theorem rngM_nat {m : Nat} {S : Store} (h : m ≤ 1000000) : rngM (.int m) S = .ok (.xs (rngD 0 m)) S := by
  have := x_rngM (j := (m : Int)) (S := S) (by omega) (by omega)
  rw [Int.toNat_natCast] at this
  exact this
theorem rng_at {n i : Nat} {x : D} (h : (rngD 0 n)[i]? = some x) : x = .int i ∧ i < n := by
  unfold rngD at h
  rw [List.getElem?_map] at h
  by_cases hi : i < n
  · rw [List.getElem?_range hi] at h
    cases h
    exact ⟨by simp, hi⟩
  · rw [List.getElem?_eq_none (by simpa using hi)] at h; cases h
theorem rng_mem {n : Nat} {x : D} (h : x ∈ rngD 0 n) : ∃ i : Nat, x = .int i ∧ i < n := by
  obtain ⟨i, hi, e⟩ := List.getElem_of_mem h
  obtain ⟨h1, h2⟩ := rng_at (show (rngD 0 n)[i]? = some x by rw [List.getElem?_eq_getElem hi, e])
  exact ⟨i, h1, h2⟩
theorem rng_len {n : Nat} : (rngD 0 n).length = n := by simp [rngD]
theorem strs_of {ys : List D} {b : Nat} (h : ∀ y ∈ ys, ∃ z, y = .str z ∧ z.length ≤ b) : ∃ zs : List (List Nat), ys = zs.map .str ∧ ∀ z ∈ zs, z.length ≤ b := by
  induction ys with
  | nil => exact ⟨[], rfl, fun z hz => (nomatch hz)⟩
  | cons y r ih =>
    obtain ⟨z, rfl, hz⟩ := h y List.mem_cons_self
    obtain ⟨zs, rfl, hzs⟩ := ih fun w hw => h w (List.mem_cons_of_mem _ hw)
    refine ⟨z :: zs, rfl, fun w hw => ?_⟩
    rcases List.mem_cons.mp hw with e | e
    · rw [e]; exact hz
    · exact hzs w e
theorem depths_strs : ∀ zs : List (List Nat), D.depths (zs.map D.str) = 0
  | [] => rfl
  | z :: r => by
    show max 0 (D.depths (r.map D.str)) = 0
    rw [depths_strs r]; rfl
theorem o_notT {S : Store} {x : List Nat} {ys : List D} (h : ys.all D.flat = true) : cmpM .notIn (.str x) (.tup ys) S = .ok (!memD (.str x) ys) S := by
  show M.opt ((if (true && ys.all D.flat) = true then some (memD (.str x) ys) else none).map (!·)) S = _
  rw [h]; rfl
theorem o_notL {S : Store} {x : List Nat} {d : D} {zs : List (List Nat)} (h : lstOf S d = some (zs.map .str)) (hd : (∃ xs, d = .lst xs) ∨ ∃ n, d = .cell n) : cmpM .notIn (.str x) d S = .ok (!memD (.str x) (zs.map .str)) S := by
  have e : inD S (.str x) d = some (memD (.str x) (zs.map .str)) := by
    have e2 : inD S (.str x) d = (match lstOf S d with
      | some ys => if (D.free (.str x) && D.frees ys && decide (D.depth (.str x) ≤ 60) && decide (D.depths ys ≤ 60)) = true then some (memD (.str x) ys) else none
      | none => none) := by
      rcases hd with ⟨xs, rfl⟩ | ⟨n, rfl⟩ <;> rfl
    rw [e2, h]
    simp only [frees_strs, depths_strs, D.free, D.depth]
    rfl
  show M.opt ((inD S (.str x) d).map (!·)) S = _
  rw [e]; rfl
end Fb
set_option linter.all false
set_option maxRecDepth 100000
set_option maxHeartbeats 1000000
/-! Kx: loops of pure elements. -/
namespace Fb
theorem compM_fm {f : D → M (Option D)} {g : D → Option D} {S : Store} : ∀ {xs : List D} {k : Nat}, (∀ x ∈ xs, f x S = .ok (g x) S) → xs.length + k ≤ 16777216 → compM f xs k S = .ok (xs.filterMap g) S
  | [], k, _, _ => rfl
  | x :: r, k, h, hl => by
    simp only [List.length_cons] at hl
    show Res.bnd (f x S) _ = _
    rw [h x List.mem_cons_self]
    cases e : g x with
    | none =>
      show compM f r k S = _
      rw [compM_fm (fun y hy => h y (List.mem_cons_of_mem _ hy)) (by omega), List.filterMap_cons_none e]
    | some y =>
      show (if k < SL then M.bind (compM f r (k + 1)) fun ys => M.ret (y :: ys) else M.bad) S = _
      rw [if_pos (show k < SL by show k < 16777216; omega)]
      show Res.bnd (compM f r (k + 1) S) _ = _
      rw [compM_fm (fun y hy => h y (List.mem_cons_of_mem _ hy)) (by omega), List.filterMap_cons_some e]; rfl
theorem el_fl {C : Cf} {own : List Nat} {i : Nat} {c e : IE} {σ : Ev} {x y : D} {S : Store} {t : Bool} (hc : evT C c ((wipeE σ own).set i (some x)) S = .ok t S) (h : t = true → evE C e ((wipeE σ own).set i (some x)) S = .ok y S) : elG C own (.nm i) (.cons c .nil) e σ x S = .ok (if t then some y else none) S := by
  have e2 : (M.bind (evC C (.cons c .nil) ((wipeE σ own).set i (some x))) (fun t => if t then M.bind (evE C e ((wipeE σ own).set i (some x))) fun y => M.ret (some y) else M.ret none) S : Res (Option D)) = .ok (if t then some y else none) S := by
    show Res.bnd (evT C c ((wipeE σ own).set i (some x)) S) _ = _
    rw [hc]
    cases t with
    | false => rfl
    | true =>
      show Res.bnd (evE C e ((wipeE σ own).set i (some x)) S) _ = _
      rw [h rfl]; rfl
  unfold elG M.nox patE
  simp only
  rw [e2]
/-- nothing is left over -/
theorem empty_fm {xs : List D} {p : D → Bool} : (xs.filterMap fun x => if p x = false then some x else none).isEmpty = xs.all p := by
  induction xs with
  | nil => rfl
  | cons x r ih =>
    cases h : p x with
    | true => simp [h, ih]
    | false => simp [h]
theorem mem_strs {x : List Nat} : ∀ ys : List (List Nat), memD (.str x) (ys.map .str) = decide (x ∈ ys)
  | [] => rfl
  | y :: r => by
    show ((y == x) || memD (.str x) (r.map .str)) = _
    rw [mem_strs r]
    by_cases h : y = x
    · subst h; simp
    · have h2 : (y == x) = false := by simpa using h
      have h3 : ¬ x = y := fun z => h z.symm
      rw [h2]; simp [h3]
theorem flat_strs {ys : List (List Nat)} : (ys.map D.str).all D.flat = true := by
  induction ys with
  | nil => rfl
  | cons y r ih => simp [ih]
theorem in_tup {S : Store} {x : List Nat} {ys : List (List Nat)} : cmpM .isIn (.str x) (.tup (ys.map .str)) S = .ok (decide (x ∈ ys)) S := by
  rw [o_inT flat_strs, mem_strs]
theorem ni_tup {S : Store} {x : List Nat} {ys : List (List Nat)} : cmpM .notIn (.str x) (.tup (ys.map .str)) S = .ok (!decide (x ∈ ys)) S := by
  rw [o_notT flat_strs, mem_strs]
theorem ni_lst {S : Store} {x : List Nat} {ys : List (List Nat)} : cmpM .notIn (.str x) (.lst (ys.map .str)) S = .ok (!decide (x ∈ ys)) S := by
  rw [o_notL rfl (.inl ⟨_, rfl⟩), mem_strs]
theorem in_lst {S : Store} {x : List Nat} {ys : List (List Nat)} : cmpM .isIn (.str x) (.lst (ys.map .str)) S = .ok (decide (x ∈ ys)) S := by
  have e : inD S (.str x) (.lst (ys.map .str)) = some (memD (.str x) (ys.map .str)) := by
    show (if (D.free (.str x) && D.frees (ys.map D.str) && decide (D.depth (.str x) ≤ 60) && decide (D.depths (ys.map D.str) ≤ 60)) = true then some (memD (.str x) (ys.map .str)) else none) = _
    simp only [frees_strs, depths_strs, D.free, D.depth]; rfl
  show M.opt (inD S (.str x) (.lst (ys.map .str))) S = _
  rw [e, mem_strs]; rfl
theorem in_str {S : Store} {c : Nat} {ys : List Nat} : cmpM .isIn (.str [c]) (.str ys) S = .ok (ys.contains c) S := (rfl)
theorem ni_str {S : Store} {c : Nat} {ys : List Nat} : cmpM .notIn (.str [c]) (.str ys) S = .ok (!ys.contains c) S := (rfl)
section
variable {S : Store}
@[simp] theorem b_lenS {a : List Nat} (h : a.length ≤ 16777216) : bltD S .len [.str a] = some (.int a.length) := if_pos h
@[simp] theorem b_lenT {xs : List D} : bltD S .len [.tup xs] = some (.int xs.length) := (rfl)
@[simp] theorem b_lenL {xs : List D} : bltD S .len [.lst xs] = some (.int xs.length) := (rfl)
@[simp] theorem b_tupL {xs : List D} : bltD S .tuple [.lst xs] = some (.tup xs) := (rfl)
@[simp] theorem b_tupT {xs : List D} : bltD S .tuple [.tup xs] = some (.tup xs) := (rfl)
@[simp] theorem b_lstT {xs : List D} : bltD S .list [.tup xs] = some (.lst xs) := (rfl)
@[simp] theorem b_lstL {xs : List D} : bltD S .list [.lst xs] = some (.lst xs) := (rfl)
@[simp] theorem b_intI {i : Int} : bltD S .int [.int i] = some (.int i) := (rfl)
@[simp] theorem b_minI {i j : Int} : bltD S .min [.int i, .int j] = some (.int (if j < i then j else i)) := (rfl)
theorem le_nat {a b : Nat} : ((a : Int) ≤ (b : Int)) = (a ≤ b) := by simp
theorem one_le {n : Nat} : ((1 : Int) ≤ (n : Int)) = (1 ≤ n) := by rw [eq_iff_iff]; omega
theorem bools_map : ∀ bs : List Bool, boolsOf (bs.map .bl) = some bs
  | [] => rfl
  | b :: r => by
    show (boolsOf (r.map .bl)).map (b :: ·) = _
    rw [bools_map r]; rfl
theorem b_all {bs : List Bool} : bltD S .all [.lst (bs.map .bl)] = some (.bl (bs.all id)) := by
  show (boolsOf (bs.map .bl)).map (fun bs => D.bl (bs.all id)) = _
  rw [bools_map]; rfl
end
theorem all2_map {α β γ : Type} {R : β → γ → Prop} {f : α → β} {g : α → γ} : ∀ {xs : List α}, (∀ x ∈ xs, R (f x) (g x)) → All2 R (xs.map f) (xs.map g)
  | [], _ => .nil
  | x :: r, h => .cons (h x List.mem_cons_self) (all2_map fun y hy => h y (List.mem_cons_of_mem _ hy))
/-- a loop that checks -/
theorem forL_chk {f : D → Ev → M Fl} {p : D → Bool} {d : D} {S : Store} (T : Ev → Prop) : ∀ {xs : List D} {σ : Ev}, (∀ x ∈ xs, ∀ σ, T σ → (p x = true → ∃ σ', f x σ S = .ok (.nx σ') S ∧ T σ') ∧ (p x = false → f x σ S = .ok (.rt d) S)) → T σ →
    (xs.all p = true → ∃ σ', forL f xs σ S = .ok (.nx σ') S ∧ T σ') ∧ (xs.all p = false → forL f xs σ S = .ok (.rt d) S)
  | [], σ, _, t => ⟨fun _ => ⟨σ, rfl, t⟩, fun h => by cases h⟩
  | x :: r, σ, h, t => by
    obtain ⟨h1, h2⟩ := h x List.mem_cons_self σ t
    cases e : p x with
    | false =>
      refine ⟨fun z => ?_, fun _ => forL_rt (h2 e)⟩
      rw [List.all_cons, e] at z; cases z
    | true =>
      obtain ⟨σ', e1, t1⟩ := h1 e
      rw [forL_nx e1, List.all_cons, e, Bool.true_and]
      exact forL_chk T (fun y hy => h y (List.mem_cons_of_mem _ hy)) t1
theorem o_last {S : Store} {xs : List D} {x : D} : idxM (.tup (xs ++ [x])) (.int (-1)) S = .ok x S := by
  show M.opt (ixL (xs ++ [x]) (-1)) S = _
  unfold ixL
  rw [if_pos (by omega), if_neg (by simp; omega)]
  have : (-1 + ((xs ++ [x]).length : Int)).toNat = xs.length := by simp; omega
  rw [this, List.getElem?_append_right (Nat.le_refl _)]
  simp
theorem c_init {S : Store} {xs : List D} {x : D} : cutD S (.tup (xs ++ [x])) none (some (-1)) = some (.tup xs) := by
  show some (D.tup (cutL (xs ++ [x]) none (some (-1)))) = _
  unfold cutL cut1
  simp only [List.length_append, List.length_singleton]
  rw [if_pos (by omega)]
  have : (-1 + ((xs.length + 1 : Nat) : Int)).toNat = xs.length := by omega
  rw [this]; simp
/-- text by text -/
theorem fm_map {α : Type} {f : α → D} {p : D → Option D} : ∀ xs : List α, (xs.map f).filterMap p = xs.filterMap (p ∘ f)
  | [] => rfl
  | x :: r => by simp [List.filterMap_cons, fm_map r]
theorem cells_get {cs : List D} (hi : ∀ x ∈ cs, ∃ z, x = .int z) {i : Int} (h0 : 0 ≤ i) (h1 : i < cs.length) : ∃ z : Int, cs[i.toNat]? = some (.int z) := by
  have h2 : i.toNat < cs.length := by omega
  obtain ⟨z, e⟩ := hi cs[i.toNat] (List.getElem_mem h2)
  exact ⟨z, by rw [List.getElem?_eq_getElem h2, e]⟩
theorem get_in {α : Type} {xs : List α} {i : Nat} {x : α} (h : xs[i]? = some x) : ∀ k : i < xs.length, xs[i]'k = x := fun k => by
  rw [List.getElem?_eq_getElem k] at h
  exact Option.some.inj h
@[simp] theorem idx_cell {S : Store} {n : Nat} {i : Int} : idxM (.cell n) (.int i) S = (match S[n]? with
  | some (.lst xs) => M.opt (ixL xs i) S
  | none => .bad) := by
  show (match lstOf S (.cell n) with
    | some xs => M.opt (ixL xs i) S
    | none => .bad) = _
  show (match (match S[n]? with
    | some (.lst xs) => some xs
    | none => none) with
    | some xs => M.opt (ixL xs i) S
    | none => .bad) = _
  cases S[n]? with
  | none => rfl
  | some c => cases c; rfl
@[simp] theorem ixL_lit {α : Type} {xs : List α} {i : Int} (h : 0 ≤ i) : ixL xs i = xs[i.toNat]? := by
  unfold ixL
  rw [if_neg (by omega)]
theorem putM_eq {S : Store} {n : Nat} {xs : List D} {i : Int} {v : D} (h : S[n]? = some (.lst xs)) (h0 : 0 ≤ i) (h1 : i < xs.length) : putM (.cell n) (.int i) v S = .ok () (S.set n (.lst (xs.set i.toNat v))) := by
  unfold putM putD
  simp only [h, if_neg (show ¬ i < 0 by omega), if_pos h1]
theorem idx_str {S : Store} {a : List Nat} {i : Int} (h : a.length ≤ 16777216) (h0 : 0 ≤ i) : idxM (.str a) (.int i) S = M.opt ((a[i.toNat]?).map fun c => .str [c]) S := by
  show (if a.length ≤ SL then M.opt ((ixL a i).map fun c => D.str [c]) S else .bad) = _
  rw [if_pos (show a.length ≤ SL from h), ixL_lit h0]
/-- more indexes than values to shun -/
theorem shun {α : Type} [DecidableEq α] (f : Nat → α) : ∀ (ys : List α) (is : List Nat), is.Nodup → (∀ i ∈ is, ∀ j ∈ is, f i = f j → i = j) → ys.length < is.length → ∃ i ∈ is, f i ∉ ys
  | [], [], _, _, h => by simp at h
  | [], i :: is, _, _, _ => ⟨i, List.mem_cons_self, by simp⟩
  | y :: r, is, hn, hi, h => by
    by_cases q : ∃ i0 ∈ is, f i0 = y
    · obtain ⟨i0, hm, e⟩ := q
      obtain ⟨i, h1, h2⟩ := shun f r (is.erase i0) (hn.erase i0) (fun i a j b => hi i (List.mem_of_mem_erase a) j (List.mem_of_mem_erase b)) (by rw [List.length_erase_of_mem hm]; simp at h; omega)
      have h3 := (hn.mem_erase_iff).mp h1
      refine ⟨i, h3.2, fun z => ?_⟩
      rcases List.mem_cons.mp z with z | z
      · exact h3.1 (hi i h3.2 i0 hm (z.trans e.symm))
      · exact h2 z
    · obtain ⟨i, h1, h2⟩ := shun f r is hn hi (by simp at h; omega)
      refine ⟨i, h1, fun z => ?_⟩
      rcases List.mem_cons.mp z with z | z
      · exact q ⟨i, h1, z⟩
      · exact h2 z
@[simp] theorem alloc_lst {S : Store} {xs : List D} : allocM (.lst xs) S = .ok (.cell S.length) (S ++ [.lst xs]) := (rfl)
theorem m_app {S : Store} {n : Nat} {xs : List D} {y : D} (h : S[n]? = some (.lst xs)) (hl : xs.length < 16777216) : mthD S .append (.cell n) [y] = some (.non, S.set n (.lst (xs ++ [y]))) := by
  show (match S[n]? with
    | some (.lst ys) => if ys.length < SL then some (D.non, S.set n (.lst (ys ++ [y]))) else none
    | none => none) = _
  rw [h]
  exact if_pos hl
theorem o_addLC {S : Store} {n : Nat} {a b : List D} (h : S[n]? = some (.lst b)) (hl : a.length + b.length ≤ 16777216) : binM .add (.lst a) (.cell n) S = .ok (.lst (a ++ b)) S := by
  have e : addD S (.lst a) (.cell n) = some (.lst (a ++ b)) := by
    show (match ownOf S (.lst a), ownOf S (.cell n) with
      | some a, some b => if a.length + b.length ≤ SL then some (D.lst (a ++ b)) else none
      | _, _ => none) = _
    have : ownOf S (.cell n) = some b := by
      show (match S[n]? with
        | some (.lst xs) => some xs
        | none => none) = _
      rw [h]
    rw [this]
    exact if_pos hl
  show M.opt (addD S (.lst a) (.cell n)) S = _
  rw [e]; rfl
theorem cutL_len {α : Type} (a : List α) (lo hi : Option Int) : (cutL a lo hi).length ≤ a.length := by
  unfold cutL
  rw [List.length_take, List.length_drop]
  omega
theorem cut_str {S : Store} {a : List Nat} {lo hi : Option Int} (h : a.length ≤ 16777216) : cutD S (.str a) lo hi = some (.str (cutL a lo hi)) := if_pos h
theorem cut_tup {S : Store} {a : List D} {lo hi : Option Int} : cutD S (.tup a) lo hi = some (.tup (cutL a lo hi)) := (rfl)
theorem cut_lst {S : Store} {a : List D} {lo hi : Option Int} : cutD S (.lst a) lo hi = some (.lst (cutL a lo hi)) := (rfl)
theorem cutL_map {α β : Type} {f : α → β} {a : List α} {lo hi : Option Int} : cutL (a.map f) lo hi = (cutL a lo hi).map f := by
  unfold cutL
  rw [List.map_take, List.map_drop, List.length_map]
theorem mem_cutL {α : Type} {a : List α} {lo hi : Option Int} {x : α} (h : x ∈ cutL a lo hi) : x ∈ a := List.mem_of_mem_drop (List.mem_of_mem_take h)
theorem m_upper {S : Store} {a : List Nat} (h : a.length ≤ 5000000) (h2 : ∀ c ∈ a, c < 128) : mthD S .upper (.str a) [] = some (.str (a.map upC), S) := by
  have e : a.all (fun c => decide (c < 128)) = true := List.all_eq_true.mpr fun c hc => decide_eq_true (h2 c hc)
  show (if a.length ≤ 5000000 ∧ a.all (fun c => decide (c < 128)) = true then some (D.str (a.map upC), S) else none) = _
  rw [if_pos ⟨h, e⟩]
/-- a loop that goes through -/
theorem forL_nxs {f : D → Ev → M Fl} {S : Store} (T : Ev → Prop) : ∀ {xs : List D} {σ : Ev}, (∀ x ∈ xs, ∀ σ, T σ → ∃ σ', f x σ S = .ok (.nx σ') S ∧ T σ') → T σ → ∃ σ', forL f xs σ S = .ok (.nx σ') S ∧ T σ'
  | [], σ, _, t => ⟨σ, rfl, t⟩
  | x :: r, σ, h, t => by
    obtain ⟨σ', e1, t1⟩ := h x List.mem_cons_self σ t
    rw [forL_nx e1]
    exact forL_nxs T (fun y hy => h y (List.mem_cons_of_mem _ hy)) t1
theorem cutL_length {α : Type} {a : List α} {lo hi : Option Int} : (cutL a lo hi).length = min (cut1 a.length hi a.length - cut1 a.length lo 0) (a.length - cut1 a.length lo 0) := by
  unfold cutL
  rw [List.length_take, List.length_drop]
/-- cell-free and not long -/
def FL (k : Nat) (xs : List D) : Prop := D.frees xs = true ∧ xs.length ≤ k
theorem fl_nil : FL 0 [] := ⟨rfl, Nat.le_refl _⟩
theorem fl_cons {k : Nat} {x : D} {xs : List D} (h : D.free x = true) (r : FL k xs) : FL (k + 1) (x :: xs) := ⟨by simp [D.frees, h, r.1], by have := r.2; simp; exact this⟩
theorem fl_app {k j : Nat} {xs ys : List D} (h : FL k xs) (r : FL j ys) : FL (k + j) (xs ++ ys) := ⟨by rw [frees_app, h.1, r.1]; rfl, by have := h.2; have := r.2; simp; omega⟩
theorem frees_mem {xs : List D} : D.frees xs = true ↔ ∀ x ∈ xs, D.free x = true := by
  induction xs with
  | nil => simp [D.frees]
  | cons x r ih => simp [D.frees, ih]
theorem fl_sub {k : Nat} {xs ys : List D} (h : FL k xs) (hm : ∀ y ∈ ys, y ∈ xs) (hl : ys.length ≤ xs.length) : FL k ys := ⟨frees_mem.mpr fun y hy => frees_mem.mp h.1 y (hm y hy), Nat.le_trans hl h.2⟩
theorem fl_cut {k : Nat} {xs : List D} {lo hi : Option Int} (h : FL k xs) : FL k (cutL xs lo hi) := fl_sub h (fun _ hy => mem_cutL hy) (cutL_len _ _ _)
theorem fl_rev {k : Nat} {xs : List D} (h : FL k xs) : FL k xs.reverse := fl_sub h (fun _ hy => List.mem_reverse.mp hy) (by simp)
theorem fl_rep {k : Nat} {x : D} (h : D.free x = true) : FL k (List.replicate k x) := ⟨frees_mem.mpr fun y hy => by rw [List.eq_of_mem_replicate hy]; exact h, by simp⟩
theorem fl_strs {k : Nat} {zs : List (List Nat)} (h : zs.length ≤ k) : FL k (zs.map .str) := ⟨frees_strs zs, by simpa using h⟩
theorem rep1 {α : Type} {x : α} {k : Int} : repL [x] k = List.replicate k.toNat x := by
  unfold repL
  induction k.toNat with
  | zero => rfl
  | succ n ih => rw [List.replicate_succ, List.flatten_cons, ih, List.replicate_succ]; rfl
theorem o_mulT {S : Store} {x : D} {k : Int} (h0 : -1000000 ≤ k) (h1 : k ≤ 1000) : binM .mul (.tup [x]) (.int k) S = .ok (.tup (List.replicate k.toNat x)) S := by
  show M.opt (if [x].length ≤ 1000 ∧ k ≤ 1000 ∧ -1000000 ≤ k then some (D.tup (repL [x] k)) else none) S = _
  rw [if_pos ⟨by simp, h1, h0⟩, rep1]; rfl
theorem o_mulL {S : Store} {x : D} {k : Int} (h0 : -1000000 ≤ k) (h1 : k ≤ 1000) : binM .mul (.lst [x]) (.int k) S = .ok (.lst (List.replicate k.toNat x)) S := by
  show M.opt (if [x].length ≤ 1000 ∧ k ≤ 1000 ∧ -1000000 ≤ k then some (D.lst (repL [x] k)) else none) S = _
  rw [if_pos ⟨by simp, h1, h0⟩, rep1]; rfl
theorem o_mulS {S : Store} {x : Nat} {k : Int} (h0 : -1000000 ≤ k) (h1 : k ≤ 1000) : binM .mul (.str [x]) (.int k) S = .ok (.str (List.replicate k.toNat x)) S := by
  show M.opt (if [x].length ≤ 1000 ∧ k ≤ 1000 ∧ -1000000 ≤ k then some (D.str (repL [x] k)) else none) S = _
  rw [if_pos ⟨by simp, h1, h0⟩, rep1]; rfl
theorem forL_stop {f : D → Ev → M Fl} {x : D} {r : List D} {σ : Ev} {S S' : Store} {o : Fl} (h : f x σ S = .ok o S') (ho : (∃ d, o = .rt d) ∨ ∃ c as δ, o = .xc c as δ) : forL f (x :: r) σ S = .ok o S' := by
  show Res.bnd (f x σ S) _ = _
  rw [h]
  rcases ho with ⟨d, rfl⟩ | ⟨c, as, δ, rfl⟩ <;> rfl
/-- a loop to the first item that stops it -/
theorem forL_first {f : D → Ev → M Fl} {S : Store} (T : Ev → Prop) (p : Nat → Bool) (stop : Nat → Fl → Prop) (hs : ∀ i o, stop i o → (∃ d, o = .rt d) ∨ ∃ c as δ, o = .xc c as δ) : ∀ {xs : List D} {k : Nat} {σ : Ev},
    (∀ i x σ, xs[i]? = some x → T σ → (p (k + i) = true → ∃ σ', f x σ S = .ok (.nx σ') S ∧ T σ') ∧ (p (k + i) = false → ∃ o, f x σ S = .ok o S ∧ stop (k + i) o)) → T σ →
    ((∀ i, i < xs.length → p (k + i) = true) ∧ ∃ σ', forL f xs σ S = .ok (.nx σ') S ∧ T σ') ∨ ∃ i, i < xs.length ∧ p (k + i) = false ∧ (∀ j, j < i → p (k + j) = true) ∧ ∃ o, forL f xs σ S = .ok o S ∧ stop (k + i) o
  | [], k, σ, _, t => .inl ⟨fun i h => by simp at h, σ, rfl, t⟩
  | x :: r, k, σ, h, t => by
    cases e : p k with
    | false =>
      obtain ⟨o, e1, e2⟩ := (h 0 x σ rfl t).2 e
      exact .inr ⟨0, by simp, e, fun j hj => by omega, o, forL_stop e1 (hs _ _ e2), e2⟩
    | true =>
      obtain ⟨σ', e1, t1⟩ := (h 0 x σ rfl t).1 e
      have h2 := forL_first (f := f) (S := S) T p stop hs (xs := r) (k := k + 1) (σ := σ') (fun i y σ hy ht => by
        have := h (i + 1) y σ (by simpa using hy) ht
        rw [show k + (i + 1) = k + 1 + i by omega] at this
        exact this) t1
      rw [forL_nx e1]
      rcases h2 with ⟨h3, h4⟩ | ⟨i, h3, h4, h5, h6⟩
      · refine .inl ⟨fun i hi => ?_, h4⟩
        cases i with
        | zero => exact e
        | succ i => rw [show k + (i + 1) = k + 1 + i by omega]; exact h3 i (by simpa using hi)
      · refine .inr ⟨i + 1, by simpa using h3, by rw [show k + (i + 1) = k + 1 + i by omega]; exact h4, fun j hj => ?_, by rw [show k + (i + 1) = k + 1 + i by omega]; exact h6⟩
        cases j with
        | zero => exact e
        | succ j => rw [show k + (j + 1) = k + 1 + j by omega]; exact h5 j (by omega)
theorem enum_at {xs : List D} {k i : Nat} : (enumD k xs)[i]? = (xs[i]?).map fun x => .tup [.int ((k + i : Nat) : Int), x] := by
  induction xs generalizing k i with
  | nil => simp [enumD]
  | cons x r ih =>
    cases i with
    | zero => simp [enumD]
    | succ i =>
      show (enumD (k + 1) r)[i]? = _
      rw [ih, List.getElem?_cons_succ, show k + 1 + i = k + (i + 1) by omega]
theorem enum_len {xs : List D} {k : Nat} : (enumD k xs).length = xs.length := by
  induction xs generalizing k with
  | nil => rfl
  | cons x r ih => simp [enumD, ih]
theorem m_split {S : Store} {x : List Nat} {c : Nat} (h : x.length ≤ 1000000) (hc : c < 256) : mthD S .split (.str x) [.str [c]] = some (.lst ((splitD c [] x).map .str), S) := by
  show (if x.length + 2 ≤ SL ∧ c < 256 then some (D.lst ((splitD c [] x).map .str), S) else none) = _
  rw [if_pos ⟨by show x.length + 2 ≤ 16777216; omega, hc⟩]
theorem split_len (c : Nat) : ∀ (x acc : List Nat), (splitD c acc x).length ≤ x.length + 1
  | [], acc => by simp [splitD]
  | a :: r, acc => by
    unfold splitD
    split
    · have := split_len c r []; simp; omega
    · have := split_len c r (acc ++ [a]); simp; omega
/-! ### targets within one another -/
@[simp] theorem x_setQ {C : Cf} {σ : Ev} {S : Store} {p : Pat} {e : IE} : exS C (.setQ p e) σ S = Res.lft (evE C e σ S) σ fun x => patB p (fun σ' => M.ret (.nx σ')) x σ := (rfl)
def setL (p : Pat) (xs : List D) (σ : Ev) (k : Ev → M Fl) : M Fl := fun S => match patL p xs S σ with
  | some σ' => k σ' S
  | none => .bad
@[simp] theorem p_tqT {σ : Ev} {S : Store} {p : Pat} {k : Ev → M Fl} {xs : List D} : patB (.tq p) k (.tup xs) σ S = setL p xs σ k S := (rfl)
@[simp] theorem p_tqL {σ : Ev} {S : Store} {p : Pat} {k : Ev → M Fl} {xs : List D} : patB (.tq p) k (.lst xs) σ S = setL p xs σ k S := (rfl)
@[simp] theorem p_pc {σ : Ev} {S : Store} {p r : Pat} {k : Ev → M Fl} {x : D} {xs : List D} : setL (.pc p r) (x :: xs) σ k S = patB p (fun σ' => setL r xs σ' k) x σ S := by
  unfold setL patB
  rw [show patL (.pc p r) (x :: xs) S σ = match patE p x S σ with
    | some σ' => patL r xs S σ'
    | none => none from rfl]
  cases patE p x S σ <;> rfl
@[simp] theorem p_pn {σ : Ev} {S : Store} {k : Ev → M Fl} : setL .pn [] σ k S = k σ S := (rfl)
@[simp] theorem x_notN {C : Cf} {σ : Ev} {S : Store} {a : IE} : evE C (.notN a) σ S = Res.bnd (evE C a σ S) fun x => M.ret (.bl (match x with
    | .non => false
    | _ => true)) := (rfl)
@[simp] theorem x_lzip {C : Cf} {σ : Ev} {S : Store} {a b : IE} : evE C (.lzip a b) σ S = Res.bnd (evE C a σ S) fun x => M.bind (evE C b σ) fun y => fun S => match seqOf S x, seqOf S y with
    | some xs, some ys => .ok (.lst (zipD xs ys)) S
    | _, _ => .bad := (rfl)
def rng3M (x y : D) (k : Nat) : M Src := match x, y with
  | .int i, .int j => if -big62 ≤ i ∧ i < big62 ∧ -big62 ≤ j ∧ j < big62 ∧ 0 < k ∧ k < 1000000 then M.ret (.xs (rngK i k (rngN i j k))) else M.bad
  | _, _ => M.bad
@[simp] theorem x_rng3 {C : Cf} {σ : Ev} {S : Store} {a b : IE} {k : Nat} : evI C (.rng3 a b k) σ S = Res.bnd (evE C a σ S) fun x => M.bind (evE C b σ) fun y => rng3M x y k := (rfl)
theorem rng3M_ok {S : Store} {i j : Int} {k : Nat} (h : -1000000 ≤ i ∧ i ≤ 1000000 ∧ -1000000 ≤ j ∧ j ≤ 1000000) (hk : 0 < k ∧ k < 1000000) : rng3M (.int i) (.int j) k S = .ok (.xs (rngK i k (rngN i j k))) S := by
  show (if -big62 ≤ i ∧ i < big62 ∧ -big62 ≤ j ∧ j < big62 ∧ 0 < k ∧ k < 1000000 then M.ret (Src.xs (rngK i k (rngN i j k))) else M.bad) S = _
  have b : big62 = 4611686018427387904 := rfl
  rw [b, if_pos (by omega)]; rfl
def rng2M (x y : D) : M Src := match x, y with
  | .int i, .int j => if -big62 ≤ i ∧ i < big62 ∧ -big62 ≤ j ∧ j < big62 then M.ret (.xs (rngD i (j - i).toNat)) else M.bad
  | _, _ => M.bad
@[simp] theorem x_rng2 {C : Cf} {σ : Ev} {S : Store} {a b : IE} : evI C (.rng2 a b) σ S = Res.bnd (evE C a σ S) fun x => M.bind (evE C b σ) fun y => rng2M x y := (rfl)
theorem rng2M_ok {S : Store} {i j : Int} (h : -1000000 ≤ i ∧ i ≤ 1000000 ∧ -1000000 ≤ j ∧ j ≤ 1000000) : rng2M (.int i) (.int j) S = .ok (.xs (rngD i (j - i).toNat)) S := by
  show (if -big62 ≤ i ∧ i < big62 ∧ -big62 ≤ j ∧ j < big62 then M.ret (Src.xs (rngD i (j - i).toNat)) else M.bad) S = _
  have b : big62 = 4611686018427387904 := rfl
  rw [b, if_pos (by omega)]; rfl
/-- a comprehension with a test -/
theorem compM_flt {α : Type} {f : D → M (Option D)} {S : Store} {x y : α → D} {t : α → Bool} : ∀ {as : List α} {k : Nat}, (∀ a ∈ as, f (x a) S = .ok (if t a then some (y a) else none) S) → as.length + k ≤ 16777216 → compM f (as.map x) k S = .ok ((as.filter t).map y) S
  | [], k, _, _ => rfl
  | a :: r, k, h, hl => by
    simp only [List.length_cons] at hl
    rw [List.map_cons]
    show Res.bnd (f (x a) S) _ = _
    rw [h a List.mem_cons_self]
    cases e : t a with
    | false =>
      show compM f (r.map x) k S = _
      rw [compM_flt (fun y hy => h y (List.mem_cons_of_mem _ hy)) (by omega), List.filter_cons_of_neg (by simp [e])]
    | true =>
      show (if k < SL then M.bind (compM f (r.map x) (k + 1)) fun ys => M.ret (y a :: ys) else M.bad) S = _
      rw [if_pos (show k < SL by show k < 16777216; omega)]
      show Res.bnd (compM f (r.map x) (k + 1) S) _ = _
      rw [compM_flt (fun y hy => h y (List.mem_cons_of_mem _ hy)) (by omega), List.filter_cons_of_pos e]; rfl
theorem compM_map {α : Type} {f : D → M (Option D)} {S : Store} {x y : α → D} {as : List α} {k : Nat} (h : ∀ a ∈ as, f (x a) S = .ok (some (y a)) S) (hl : as.length + k ≤ 16777216) : compM f (as.map x) k S = .ok (as.map y) S := by
  have := compM_flt (t := fun _ => true) (x := x) (y := y) (as := as) (k := k) (f := f) (S := S) (fun a ha => by rw [h a ha]; rfl) hl
  rw [this, List.filter_eq_self.mpr fun _ _ => rfl]
theorem flt_empty {α : Type} {t : α → Bool} (as : List α) : (as.filter t).isEmpty = as.all fun a => !t a := by
  induction as with
  | nil => rfl
  | cons a r ih => cases h : t a <;> simp [h, ih]
theorem all2_range' {β : Type} {R : D → β → Prop} {x : Nat → D} : ∀ {ys : List β} (lo : Nat), (∀ k (hk : k < ys.length), R (x (lo + k)) ys[k]) → All2 R ((List.range' lo ys.length).map x) ys
  | [], _, _ => .nil
  | y :: r, lo, h => by
    rw [List.length_cons, List.range'_succ, List.map_cons]
    refine .cons (h 0 (by simp)) (all2_range' (lo + 1) fun k hk => ?_)
    have := h (k + 1) (by simpa using hk)
    rw [show lo + 1 + k = lo + (k + 1) by omega]
    simpa using this
theorem all2_range {β : Type} {R : D → β → Prop} {x : Nat → D} {ys : List β} (h : ∀ k (hk : k < ys.length), R (x k) ys[k]) : All2 R ((List.range ys.length).map x) ys := by
  rw [List.range_eq_range']
  exact all2_range' 0 fun k hk => by rw [Nat.zero_add]; exact h k hk
theorem all2_rngD {β : Type} {R : D → β → Prop} {lo : Int} {ys : List β} (h : ∀ k (hk : k < ys.length), R (.int (lo + (k : Nat))) ys[k]) : All2 R (rngD lo ys.length) ys := all2_range h
theorem all2_rngK {β : Type} {R : D → β → Prop} {lo : Int} {c : Nat} {ys : List β} (h : ∀ k (hk : k < ys.length), R (.int (lo + (k : Int) * c)) ys[k]) : All2 R (rngK lo c ys.length) ys := all2_range h
end Fb
set_option linter.all false
set_option maxRecDepth 100000
set_option maxHeartbeats 1000000
/-! Nx: texts of ints. -/
namespace Fb
theorem dig_char : ∀ n : Nat, n < 10 → (Nat.digitChar n).toNat = 48 + n := by decide
theorem dig_small {n : Nat} (h : n < 10) : digitsOf n = [48 + n] := by
  unfold digitsOf
  rw [Nat.toDigits_of_lt_base h]
  simp [dig_char n h]
theorem dig_big {n : Nat} (h : 10 ≤ n) : digitsOf n = digitsOf (n / 10) ++ [48 + n % 10] := by
  unfold digitsOf
  rw [Nat.toDigits_of_base_le (by decide) h]
  simp [dig_char (n % 10) (Nat.mod_lt _ (by decide))]
theorem dig_ind {P : Nat → Prop} (h1 : ∀ n, n < 10 → P n) (h2 : ∀ n, 10 ≤ n → P (n / 10) → P n) (n : Nat) : P n := by
  induction n using Nat.strongRecOn with
  | ind n ih =>
    by_cases h : n < 10
    · exact h1 n h
    · exact h2 n (by omega) (ih _ (by omega))
theorem dig_ne (n : Nat) : digitsOf n ≠ [] := by
  by_cases h : n < 10
  · rw [dig_small h]; simp
  · rw [dig_big (by omega)]; simp
theorem dig_all (n : Nat) : ∀ c ∈ digitsOf n, isDig c = true := by
  induction n using dig_ind with
  | h1 n h =>
    rw [dig_small h]
    intro c hc
    rw [List.mem_singleton.mp hc]
    simp [isDig]; omega
  | h2 n h ih =>
    rw [dig_big h]
    intro c hc
    rcases List.mem_append.mp hc with hc | hc
    · exact ih c hc
    · rw [List.mem_singleton.mp hc]
      have := Nat.mod_lt n (show 0 < 10 by decide)
      simp [isDig]; omega
theorem dig_len (k : Nat) : ∀ {n : Nat}, n < 10 ^ (k + 1) → (digitsOf n).length ≤ k + 1 := by
  induction k with
  | zero =>
    intro n h
    rw [dig_small (by simpa using h)]; simp
  | succ k ih =>
    intro n h
    by_cases h0 : n < 10
    · rw [dig_small h0]; simp
    · have h2 : n / 10 < 10 ^ (k + 1) := by
        rw [Nat.pow_succ] at h
        exact Nat.div_lt_of_lt_mul (by rw [Nat.mul_comm]; exact h)
      have h3 := ih h2
      rw [dig_big (Nat.le_of_not_lt h0), List.length_append]
      exact Nat.succ_le_succ h3
theorem digV_app (xs : List Nat) (c : Nat) : ∀ a : Nat, digV a (xs ++ [c]) = digV a xs * 10 + (c - 48) := by
  induction xs with
  | nil => intro a; rfl
  | cons x r ih => intro a; exact ih (a * 10 + (x - 48))
theorem dig_val (n : Nat) : digV 0 (digitsOf n) = n := by
  refine dig_ind (P := fun n => digV 0 (digitsOf n) = n) (fun n h => ?_) (fun n h ih => ?_) n
  · rw [dig_small h]
    show 0 * 10 + (48 + n - 48) = n
    omega
  · rw [dig_big h, digV_app, ih]
    omega
theorem dig_head {n : Nat} (h : n ≠ 0) : ∃ c r, digitsOf n = c :: r ∧ c ≠ 48 := by
  induction n using dig_ind with
  | h1 n h1 => exact ⟨48 + n, [], dig_small h1, by omega⟩
  | h2 n h1 ih =>
    obtain ⟨c, r, e, hc⟩ := ih (by omega)
    exact ⟨c, r ++ [48 + n % 10], by rw [dig_big h1, e]; rfl, hc⟩
theorem all_dig (n : Nat) : (digitsOf n).all isDig = true := List.all_eq_true.mpr (dig_all n)
theorem nat_pow_lt {k : Nat} {i : Int} (h : i.natAbs < 10 ^ (k + 1)) : (intText i).length ≤ k + 2 := by
  unfold intText
  have := dig_len k h
  split
  · simp; omega
  · omega
theorem int_textN {i : Int} (h : i.natAbs < 10 ^ 600) : intOf (intText i) = some i := by
  have hl := dig_len 599 h
  unfold intText
  by_cases h0 : i < 0
  · rw [if_pos h0]
    show (if (digitsOf i.natAbs).all isDig && !(digitsOf i.natAbs).isEmpty && decide ((digitsOf i.natAbs).length ≤ 600) then some (-(digV 0 (digitsOf i.natAbs) : Nat) : Int) else none) = _
    have hne := dig_ne i.natAbs
    rw [if_pos (by simp only [Bool.and_eq_true, decide_eq_true_eq, Bool.not_eq_true', List.isEmpty_eq_false_iff]; exact ⟨⟨all_dig _, hne⟩, by omega⟩), dig_val]
    congr 1
    omega
  · rw [if_neg h0]
    obtain ⟨c, r, e⟩ : ∃ c r, digitsOf i.natAbs = c :: r := by
      cases e : digitsOf i.natAbs with
      | nil => exact absurd e (dig_ne _)
      | cons c r => exact ⟨c, r, rfl⟩
    have hc : isDig c = true := dig_all i.natAbs c (by rw [e]; simp)
    have hv := dig_val i.natAbs
    have ha := all_dig i.natAbs
    rw [e] at hl hv ha ⊢
    have hc45 : c ≠ 45 := by
      intro z
      rw [z] at hc
      cases hc
    unfold intOf
    split
    · rename_i z; cases z
    · rename_i z; injection z with z1 z2; exact absurd z1 hc45
    · rw [if_pos (by rw [ha]; simpa using hl), hv]
      show some ((i.natAbs : Nat) : Int) = some i
      congr 1
      omega
theorem b_str {i : Int} {S : Store} (h : i.natAbs < 2 ^ 1900) : bltD S .str [.int i] = some (.str (intText i)) := by
  show (if i.natAbs.log2 < 1920 then some (D.str (intText i)) else none) = _
  refine if_pos ?_
  by_cases h0 : i.natAbs = 0
  · rw [h0]; decide
  · exact Nat.lt_trans ((Nat.log2_lt h0).mpr h) (by decide)
theorem b_intS {a : List Nat} {i : Int} {S : Store} (h : intOf a = some i) : bltD S .int [.str a] = some (.int i) := by
  show (intOf a).map D.int = _
  rw [h]; rfl
theorem o_pow {i j : Int} {S : Store} (h : 0 ≤ j ∧ j ≤ 1000000 ∧ -two64 < i ∧ i < two64) : binM .pow (.int i) (.int j) S = .ok (.int (i ^ j.toNat)) S := by
  show M.opt (if 0 ≤ j ∧ j ≤ 1000000 ∧ -two64 < i ∧ i < two64 then some (D.int (i ^ j.toNat)) else none) S = _
  rw [if_pos h]; rfl
end Fb
set_option linter.all false
set_option maxRecDepth 100000
set_option maxHeartbeats 1000000
/-! Tx: lines and words of texts. -/
namespace Fb
theorem split_eq (c : Nat) (acc r : List Nat) : splitD c acc (c :: r) = acc :: splitD c [] r := if_pos rfl
theorem split_ne {c a : Nat} (h : ¬ a = c) (acc r : List Nat) : splitD c acc (a :: r) = splitD c (acc ++ [a]) r := if_neg h
theorem split_app (c : Nat) (y : List Nat) : ∀ (x acc : List Nat), splitD c acc (x ++ c :: y) = splitD c acc x ++ splitD c [] y
  | [], acc => by
    rw [List.nil_append, split_eq]; rfl
  | a :: x, acc => by
    rw [List.cons_append]
    by_cases h : a = c
    · subst h
      rw [split_eq, split_eq, split_app a y x []]; rfl
    · rw [split_ne h, split_ne h, split_app c y x (acc ++ [a])]
theorem split_none (c : Nat) : ∀ (x acc : List Nat), c ∉ x → splitD c acc x = [acc ++ x]
  | [], acc, _ => by simp [splitD]
  | a :: x, acc, h => by
    unfold splitD
    have h1 : ¬ a = c := fun z => h (by simp [z])
    rw [if_neg h1, split_none c x (acc ++ [a]) fun z => h (by simp [z])]
    simp
def nonE (w : List Nat) : Bool := !w.isEmpty
def wordsOf (x : List Nat) : List (List Nat) := (splitD 32 [] x).filter nonE
def linesOf (x : List Nat) : List (List Nat) := splitD 10 [] x
theorem lines_app (x y : List Nat) : linesOf (x ++ 10 :: y) = linesOf x ++ linesOf y := split_app 10 y x []
theorem lines_one {x : List Nat} (h : 10 ∉ x) : linesOf x = [x] := by
  unfold linesOf
  rw [split_none 10 x [] h]; rfl
theorem words_app (x y : List Nat) : wordsOf (x ++ 32 :: y) = wordsOf x ++ wordsOf y := by
  unfold wordsOf
  rw [split_app 32 y x [], List.filter_append]
theorem words_nil : wordsOf [] = [] := rfl
theorem words_one {w : List Nat} (h : 32 ∉ w) (hn : w ≠ []) : wordsOf w = [w] := by
  unfold wordsOf
  rw [split_none 32 w [] h]
  simp [nonE, hn]
theorem words_spL (k : Nat) (x : List Nat) : wordsOf (List.replicate k 32 ++ x) = wordsOf x := by
  induction k with
  | zero => rfl
  | succ k ih =>
    rw [List.replicate_succ]
    have := words_app [] (List.replicate k 32 ++ x)
    rw [words_nil] at this
    simpa [ih] using this
theorem words_spR (k : Nat) (x : List Nat) : wordsOf (x ++ List.replicate k 32) = wordsOf x := by
  cases k with
  | zero => simp
  | succ k =>
    rw [List.replicate_succ, words_app]
    have := words_spL k []
    rw [List.append_nil, words_nil] at this
    rw [this, List.append_nil]
theorem words_join (k : Nat) : ∀ ws : List (List Nat), (∀ w ∈ ws, 32 ∉ w ∧ w ≠ []) → wordsOf (joinD (List.replicate (k + 1) 32) ws) = ws
  | [], _ => rfl
  | [w], h => words_one (h w (by simp)).1 (h w (by simp)).2
  | w :: v :: r, h => by
    show wordsOf (w ++ List.replicate (k + 1) 32 ++ joinD (List.replicate (k + 1) 32) (v :: r)) = _
    rw [List.replicate_succ, List.append_assoc]
    have := words_app w (List.replicate k 32 ++ joinD (32 :: List.replicate k 32) (v :: r))
    rw [words_spL, words_one (h w (by simp)).1 (h w (by simp)).2] at this
    rw [List.cons_append, this]
    have ih := words_join k (v :: r) fun u hu => h u (List.mem_cons_of_mem _ hu)
    rw [List.replicate_succ] at ih
    rw [ih]; rfl
theorem words_mem {x w : List Nat} (h : w ∈ wordsOf x) : w ≠ [] := by
  have := (List.mem_filter.mp h).2
  intro z
  rw [z] at this
  cases this
theorem join_mem {s : List Nat} {c : Nat} : ∀ {ws : List (List Nat)}, c ∈ joinD s ws → c ∈ s ∨ ∃ w ∈ ws, c ∈ w
  | [], h => by cases h
  | [w], h => .inr ⟨w, by simp, h⟩
  | w :: v :: r, h => by
    have h : c ∈ w ++ s ++ joinD s (v :: r) := h
    rcases List.mem_append.mp h with h | h
    · rcases List.mem_append.mp h with h | h
      · exact .inr ⟨w, by simp, h⟩
      · exact .inl h
    · rcases join_mem h with h | ⟨u, hu, hc⟩
      · exact .inl h
      · exact .inr ⟨u, List.mem_cons_of_mem _ hu, hc⟩
/-- the comprehension that keeps what is not empty -/
theorem fm_words (x : List Nat) : ((splitD 32 [] x).map D.str).filterMap (fun y => if (match y with | .str w => nonE w | _ => false) = true then some y else none) = (wordsOf x).map D.str := by
  unfold wordsOf
  generalize splitD 32 [] x = ws
  induction ws with
  | nil => rfl
  | cons w r ih =>
    rw [List.map_cons, List.filterMap_cons]
    cases h : nonE w with
    | true => simp [h]; simpa using ih
    | false => simp [h]; simpa using ih
theorem m_count {S : Store} {x : List Nat} {c : Nat} : mthD S .count (.str x) [.str [c]] = some (.int (countD c x), S) := (rfl)
theorem count_lines (c : Nat) : ∀ (x acc : List Nat), (splitD c acc x).length = countD c x + 1
  | [], acc => rfl
  | a :: x, acc => by
    unfold splitD countD
    by_cases h : a = c
    · rw [if_pos h, if_pos h, List.length_cons, count_lines c x []]; omega
    · rw [if_neg h, if_neg h, count_lines c x _]; omega
/-! ### slices -/
theorem cut_fr {α : Type} {xs : List α} {i : Int} (h : 0 ≤ i) : cutL xs (some i) none = xs.drop i.toNat := by
  unfold cutL cut1
  simp only [if_neg (show ¬ i < 0 by omega)]
  by_cases h2 : i.toNat ≤ xs.length
  · rw [Nat.min_eq_left h2, List.take_of_length_le (by simp)]
  · rw [Nat.min_eq_right (by omega), List.drop_eq_nil_of_le (Nat.le_refl _), List.drop_eq_nil_of_le (by omega)]; simp
theorem cut_to {α : Type} {xs : List α} {i : Int} (h : 0 ≤ i) : cutL xs none (some i) = xs.take i.toNat := by
  unfold cutL cut1
  simp only [if_neg (show ¬ i < 0 by omega), List.drop_zero, Nat.sub_zero]
  by_cases h2 : i.toNat ≤ xs.length
  · rw [Nat.min_eq_left h2]
  · rw [Nat.min_eq_right (by omega), List.take_of_length_le (Nat.le_refl _), List.take_of_length_le (by omega)]
theorem cut_mid {α : Type} {xs : List α} {i j : Int} (h : 0 ≤ i) (h2 : 0 ≤ j) : cutL xs (some i) (some j) = (xs.take j.toNat).drop i.toNat := by
  unfold cutL cut1
  simp only [if_neg (show ¬ i < 0 by omega), if_neg (show ¬ j < 0 by omega)]
  rw [List.drop_take]
  by_cases h3 : i.toNat ≤ xs.length
  · rw [Nat.min_eq_left h3]
    by_cases h4 : j.toNat ≤ xs.length
    · rw [Nat.min_eq_left h4]
    · rw [Nat.min_eq_right (by omega), List.take_of_length_le (by simp), List.take_of_length_le (by simp; omega)]
  · have e : min i.toNat xs.length = xs.length := Nat.min_eq_right (by omega)
    rw [e, List.drop_eq_nil_of_le (Nat.le_refl xs.length), List.drop_eq_nil_of_le (show xs.length ≤ i.toNat by omega)]
    simp
/-- the first place -/
theorem index_at {a : List Nat} {r : List (List Nat)} : ∀ (ty : List (List Nat)) (k : Nat), a ∉ ty → indexD (.str a) k ((ty ++ a :: r).map .str) = some (k + ty.length)
  | [], k, _ => by
    show (if D.eqv (.str a) (.str a) then some k else _) = _
    simp [D.eqv]
  | t :: ty, k, h => by
    have h1 : ¬ t = a := fun z => h (by simp [z])
    have h2 : D.eqv (.str t) (.str a) = false := by
      show (t == a) = false
      simpa using h1
    show (if D.eqv (.str t) (.str a) then some k else indexD (.str a) (k + 1) ((ty ++ a :: r).map .str)) = _
    rw [h2, if_neg (by simp), index_at ty (k + 1) fun z => h (by simp [z])]
    simp; omega
theorem m_index {S : Store} {a : List Nat} {ty r : List (List Nat)} (h : a ∉ ty) : mthD S .index (.lst ((ty ++ a :: r).map .str)) [.str a] = some (.int (ty.length : Nat), S) := by
  show (if (D.flat (.str a) && ((ty ++ a :: r).map D.str).all D.flat) = true then (indexD (.str a) 0 ((ty ++ a :: r).map .str)).map fun i => (D.int (i : Nat), S) else none) = _
  rw [index_at ty 0 h, flat_strs]
  simp
/-! ### range by steps -/
theorem rngN_even {m : Nat} : rngN 0 ((2 * m + 1 : Nat) : Int) 2 = m + 1 := by
  unfold rngN
  rw [if_pos (by omega)]
  have : (((2 * m + 1 : Nat) : Int) - 0 - 1) / ((2 : Nat) : Int) = m := by omega
  rw [this]; omega
theorem rngN_odd {m : Nat} : rngN 1 ((2 * m + 1 : Nat) : Int) 2 = m := by
  unfold rngN
  by_cases h : m = 0
  · subst h; rfl
  · rw [if_pos (by omega)]
    have : (((2 * m + 1 : Nat) : Int) - 1 - 1) / ((2 : Nat) : Int) = m - 1 := by omega
    rw [this]; omega
end Fb
set_option linter.all false
set_option maxRecDepth 100000
/-! the defs of the law as terms of Fb1; printed by gen.py -/
namespace Lw
open Fb
def f_told_lines_e1 : IE := (.var 5)
def f_told_lines_c1 : IE := (.cmp .ne (.var 5) (.lit (.str [])))
def f_told_lines_b0 : IS := (.seq (.set 4 (.comp [5] (.nm 5) (.cons (.mth .split (.var 3) (.cons (.lit (.str [32])) .nil)) .nil) (.cons f_told_lines_c1 .nil) f_told_lines_e1))
  (.seq (.ex (.mth .append (.var 1) (.cons (.tup (.cons (.bin .add (.var 2) (.lit (.int 1))) (.cons (.var 3) (.cons (.ite (.and (.var 4) (.cmp .eq (.idx (.idx (.var 4) (.lit (.int 0))) (.lit (.int 0))) (.lit (.str [35])))) (.lst .nil) (.var 4)) .nil)))) .nil)))
  .skip))
def f_told_lines : Fn := ⟨1, 6, false, (.seq (.set 1 (.alloc (.lst .nil)))
  (.seq (.for (.tp [2, 3]) (.enum (.mth .split (.var 0) (.cons (.lit (.str [10])) .nil))) f_told_lines_b0)
  (.seq (.ret (.var 1))
  .skip)))⟩
def f_need_short : Fn := ⟨3, 3, false, (.seq (.ite (.or (.cmp .gt (.blt .len (.cons (.var 1) .nil)) (.glo [83, 73, 71, 78, 83, 95, 77, 79, 83, 84] (.int 400))) (.cmp .gt (.var 0) (.var 2)))
  (.seq (.rse 0 2 (.cons (.var 0) (.cons (.lit (.str [108, 105, 109, 105, 116])) .nil)))
  .skip)
  .skip)
  .skip)⟩
def f_written_integer_e0 : IE := (.var 2)
def f_written_integer_c0 : IE := (.cmp .notIn (.var 2) (.glo [70, 73, 71, 85, 82, 69, 83] (.str [48, 49, 50, 51, 52, 53, 54, 55, 56, 57])))
def f_written_integer : Fn := ⟨1, 3, false, (.seq (.set 1 (.ite (.mth .startswith (.var 0) (.cons (.lit (.str [45])) .nil)) (.sli (.var 0) (.cons (.lit (.int 1)) .nil) .nil) (.var 0)))
  (.seq (.ite (.or (.cmp .eq (.var 1) (.lit (.str []))) (.or (.cmp .gt (.blt .len (.cons (.var 0) .nil)) (.glo [70, 73, 71, 85, 82, 69, 83, 95, 77, 79, 83, 84] (.int 60))) (.comp [2] (.nm 2) (.cons (.var 1) .nil) (.cons f_written_integer_c0 .nil) f_written_integer_e0)))
  (.seq (.ret (.lit .non))
  .skip)
  .skip)
  (.seq (.ite (.and (.cmp .eq (.idx (.var 1) (.lit (.int 0))) (.lit (.str [48]))) (.cmp .ne (.var 0) (.lit (.str [48]))))
  (.seq (.ret (.lit .non))
  .skip)
  .skip)
  (.seq (.ret (.blt .int (.cons (.var 0) .nil)))
  .skip))))⟩
def f_last_line : Fn := ⟨1, 1, false, (.seq (.ret (.bin .add (.mth .count (.var 0) (.cons (.lit (.str [10])) .nil)) (.lit (.int 2))))
  .skip)⟩
def f_frame_text_b0 : IS := (.seq (.ex (.mth .extend (.var 1) (.cons (.lst (.cons (.var 4) (.cons (.blt .str (.cons (.var 5) .nil)) .nil))) .nil)))
  .skip)
def f_frame_text : Fn := ⟨1, 8, false, (.seq (.setQ (.tq (.pc (.tp [6, 7]) (.pc (.nm 2) (.pc (.nm 3) .pn)))) (.var 0))
  (.seq (.set 1 (.alloc (.bin .add (.bin .add (.lst (.cons (.lit (.str [102, 114, 97, 109, 101])) (.cons (.var 6) .nil))) (.blt .list (.cons (.var 7) .nil))) (.lst (.cons (.lit (.str [97, 116])) (.cons (.blt .str (.cons (.var 2) .nil)) .nil))))))
  (.seq (.for (.tp [4, 5]) (.cons (.var 3) .nil) f_frame_text_b0)
  (.seq (.ret (.bin .add (.mth .join (.lit (.str [32])) (.cons (.var 1) .nil)) (.lit (.str [10]))))
  .skip))))⟩
def f_state_text_e0 : IE := (.call 4 (.cons (.var 2) .nil))
def f_state_text_e1 : IE := (.blt .str (.cons (.var 3) .nil))
def f_state_text : Fn := ⟨1, 4, false, (.seq (.set 1 (.bin .add (.bin .add (.bin .add (.bin .add (.lit (.str [115, 116, 101, 112, 115, 32])) (.blt .str (.cons (.idx (.var 0) (.lit (.int 0))) .nil))) (.lit (.str [10]))) (.mth .join (.lit (.str [32])) (.cons (.bin .add (.lst (.cons (.lit (.str [111, 117, 116])) .nil)) (.comp [3] (.nm 3) (.cons (.idx (.var 0) (.lit (.int 1))) .nil) .nil f_state_text_e1)) .nil))) (.lit (.str [10]))))
  (.seq (.ret (.bin .add (.var 1) (.mth .join (.lit (.str [])) (.cons (.comp [2] (.nm 2) (.cons (.idx (.var 0) (.lit (.int 2))) .nil) .nil f_state_text_e0) .nil))))
  .skip))⟩
def f_integers_of_e0 : IE := (.call 2 (.cons (.var 3) .nil))
def f_integers_of : Fn := ⟨2, 4, false, (.seq (.set 2 (.blt .tuple (.cons (.comp [3] (.nm 3) (.cons (.var 1) .nil) .nil f_integers_of_e0) .nil)))
  (.seq (.ite (.cmp .isIn (.lit .non) (.var 2))
  (.seq (.rse 0 2 (.cons (.var 0) (.cons (.lit (.str [105, 110, 116, 101, 103, 101, 114])) .nil)))
  .skip)
  .skip)
  (.seq (.ret (.var 2))
  .skip)))⟩
def f_read_frame_e0 : IE := (.var 4)
def f_read_frame_c0 : IE := (.notN (.call 2 (.cons (.idx (.var 1) (.bin .add (.var 4) (.lit (.int 1)))) .nil)))
def f_read_frame_e1 : IE := (.var 4)
def f_read_frame_c1 : IE := (.cmp .eq (.idx (.var 1) (.var 4)) (.lit (.str [97, 116])))
def f_read_frame : Fn := ⟨2, 8, false, (.seq (.set 2 (.comp [4] (.nm 4) (.rng2 (.lit (.int 2)) (.bin .sub (.blt .len (.cons (.var 1) .nil)) (.lit (.int 1)))) (.cons f_read_frame_c1 .nil) f_read_frame_e1))
  (.seq (.ite (.or (.cmp .ne (.idx (.var 1) (.lit (.int 0))) (.lit (.str [102, 114, 97, 109, 101]))) (.not (.var 2)))
  (.seq (.rse 0 2 (.cons (.var 0) (.cons (.lit (.str [119, 111, 114, 100, 115])) .nil)))
  .skip)
  .skip)
  (.seq (.set 3 (.comp [4] (.nm 4) (.cons (.var 2) .nil) (.cons f_read_frame_c0 .nil) f_read_frame_e0))
  (.seq (.set 4 (.ite (.var 3) (.idx (.var 3) (.lit (.int 0))) (.idx (.var 2) (.lit (.int 0)))))
  (.seq (.set 5 (.sli (.var 1) (.cons (.bin .add (.var 4) (.lit (.int 2))) .nil) .nil))
  (.seq (.ite (.cmp .eq (.bin .mod (.blt .len (.cons (.var 5) .nil)) (.lit (.int 2))) (.lit (.int 1)))
  (.seq (.rse 0 2 (.cons (.var 0) (.cons (.lit (.str [119, 111, 114, 100, 115])) .nil)))
  .skip)
  .skip)
  (.seq (.set 6 (.idx (.call 6 (.cons (.var 0) (.cons (.sli (.var 1) (.cons (.bin .add (.var 4) (.lit (.int 1))) .nil) (.cons (.bin .add (.var 4) (.lit (.int 2))) .nil)) .nil))) (.lit (.int 0))))
  (.seq (.set 7 (.call 6 (.cons (.var 0) (.cons (.stp (.var 5) 1 2) .nil))))
  (.seq (.ret (.tup (.cons (.tup (.cons (.idx (.var 1) (.lit (.int 1))) (.cons (.blt .tuple (.cons (.sli (.var 1) (.cons (.lit (.int 2)) .nil) (.cons (.var 4) .nil)) .nil)) .nil))) (.cons (.var 6) (.cons (.blt .tuple (.cons (.lzip (.stp (.var 5) 0 2) (.var 7)) .nil)) .nil)))))
  .skip)))))))))⟩
def f_read_steps : Fn := ⟨2, 2, false, (.seq (.ite (.or (.cmp .ne (.idx (.var 1) (.lit (.int 0))) (.lit (.str [115, 116, 101, 112, 115]))) (.cmp .ne (.blt .len (.cons (.var 1) .nil)) (.lit (.int 2))))
  (.seq (.rse 0 2 (.cons (.var 0) (.cons (.lit (.str [119, 111, 114, 100, 115])) .nil)))
  .skip)
  .skip)
  (.seq (.ret (.idx (.call 6 (.cons (.var 0) (.cons (.sli (.var 1) (.cons (.lit (.int 1)) .nil) .nil) .nil))) (.lit (.int 0))))
  .skip))⟩
def f_read_out : Fn := ⟨2, 2, false, (.seq (.ite (.cmp .ne (.idx (.var 1) (.lit (.int 0))) (.lit (.str [111, 117, 116])))
  (.seq (.rse 0 2 (.cons (.var 0) (.cons (.lit (.str [119, 111, 114, 100, 115])) .nil)))
  .skip)
  .skip)
  (.seq (.ret (.call 6 (.cons (.var 0) (.cons (.sli (.var 1) (.cons (.lit (.int 1)) .nil) .nil) .nil))))
  .skip))⟩
def f_read_state_b0 : IS := (.seq (.ex (.calld 1 (.cons (.var 2) (.cons (.var 3) .nil)) [(.int 600)]))
  (.seq (.ite (.var 4)
  (.seq (.ite (.cmp .eq (.blt .len (.cons (.var 1) .nil)) (.lit (.int 0)))
  (.seq (.ex (.mth .append (.var 1) (.cons (.call 8 (.cons (.var 2) (.cons (.var 4) .nil))) .nil)))
  .skip)
  (.seq (.ite (.cmp .eq (.blt .len (.cons (.var 1) .nil)) (.lit (.int 1)))
  (.seq (.ex (.mth .append (.var 1) (.cons (.call 9 (.cons (.var 2) (.cons (.var 4) .nil))) .nil)))
  .skip)
  (.seq (.ex (.mth .append (.var 1) (.cons (.call 7 (.cons (.var 2) (.cons (.var 4) .nil))) .nil)))
  .skip))
  .skip))
  .skip)
  .skip)
  .skip))
def f_read_state : Fn := ⟨1, 5, false, (.seq (.set 1 (.alloc (.lst .nil)))
  (.seq (.for (.tp [2, 3, 4]) (.cons (.call 0 (.cons (.var 0) .nil)) .nil) f_read_state_b0)
  (.seq (.ite (.cmp .lt (.blt .len (.cons (.var 1) .nil)) (.lit (.int 2)))
  (.seq (.rse 0 2 (.cons (.call 3 (.cons (.var 0) .nil)) (.cons (.lit (.str [119, 111, 114, 100, 115])) .nil)))
  .skip)
  .skip)
  (.seq (.ret (.tup (.cons (.idx (.var 1) (.lit (.int 0))) (.cons (.idx (.var 1) (.lit (.int 1))) (.cons (.blt .tuple (.cons (.sli (.var 1) (.cons (.lit (.int 2)) .nil) .nil) .nil)) .nil)))))
  .skip))))⟩
def f_law_mug_b0 : IS := (.seq (.set 4 (.bin .mod (.blt .abs (.cons (.blt .int (.cons (.var 3) .nil)) .nil)) (.bin .mul (.bin .mul (.bin .mul (.bin .mul (.bin .mul (.bin .mul (.bin .pow (.lit (.int 10)) (.lit (.int 60))) (.bin .pow (.lit (.int 10)) (.lit (.int 60)))) (.bin .pow (.lit (.int 10)) (.lit (.int 60)))) (.bin .pow (.lit (.int 10)) (.lit (.int 60)))) (.bin .pow (.lit (.int 10)) (.lit (.int 60)))) (.bin .pow (.lit (.int 10)) (.lit (.int 60)))) (.bin .pow (.lit (.int 10)) (.lit (.int 60))))))
  (.seq (.set 2 (.bin .mod (.blt .int (.cons (.bin .add (.bin .add (.bin .mul (.var 2) (.lit (.int 36313))) (.bin .mod (.var 4) (.lit (.int 1000009531)))) (.blt .int (.cons (.cmp .lt (.var 3) (.lit (.int 0))) .nil))) .nil)) (.lit (.int 2147482223))))
  (.seq (.ite (.cmp .ge (.var 4) (.bin .pow (.lit (.int 10)) (.lit (.int 18))))
  (.seq (.ex (.mth .append (.var 1) (.cons (.var 4) .nil)))
  .skip)
  .skip)
  .skip)))
def f_law_mug : Fn := ⟨1, 5, true, (.seq (.set 1 (.alloc (.lst .nil)))
  (.seq (.set 2 (.lit (.int 520021)))
  (.seq (.for (.nm 3) (.cons (.sli (.var 0) .nil (.cons (.lit (.int 57)) .nil)) .nil) f_law_mug_b0)
  (.seq (.ret (.alloc (.lst (.cons (.alloc (.rev (.var 1))) (.cons (.var 2) (.cons (.lit (.int 0)) .nil))))))
  .skip))))⟩
def f_law_gulp : Fn := ⟨2, 3, false, (.seq (.ite (.cmp .lt (.var 1) (.lit (.int 2)))
  (.seq (.ret (.lit (.int 0)))
  .skip)
  .skip)
  (.seq (.ite (.cmp .gt (.blt .len (.cons (.idx (.var 0) (.lit (.int 0))) .nil)) (.lit (.int 0)))
  (.seq (.set 2 (.blt .int (.cons (.idx (.idx (.var 0) (.lit (.int 0))) (.neg (.lit (.int 1)))) .nil)))
  (.seq (.put (.idx (.var 0) (.lit (.int 0))) (.neg (.lit (.int 1))) (.bin .fdiv (.var 2) (.var 1)))
  (.seq (.ite (.cmp .lt (.var 2) (.var 1))
  (.seq (.ex (.mth .pop (.idx (.var 0) (.lit (.int 0))) .nil))
  .skip)
  .skip)
  (.seq (.ret (.bin .mod (.blt .int (.cons (.var 2) .nil)) (.var 1)))
  .skip))))
  .skip)
  (.seq (.augS .add (.var 0) (.lit (.int 2)) (.lit (.int 1)))
  (.seq (.put (.var 0) (.lit (.int 1)) (.bin .mod (.blt .int (.cons (.bin .add (.bin .add (.bin .mul (.idx (.var 0) (.lit (.int 1))) (.lit (.int 46573))) (.bin .mul (.idx (.var 0) (.lit (.int 2))) (.lit (.int 6637)))) (.lit (.int 43))) .nil)) (.lit (.int 2147482223))))
  (.seq (.ret (.bin .mod (.blt .int (.cons (.bin .fdiv (.idx (.var 0) (.lit (.int 1))) (.lit (.int 71))) .nil)) (.var 1)))
  .skip)))))⟩
def f_law_of : Fn := ⟨2, 2, false, (.seq (.ret (.idx (.var 1) (.call 12 (.cons (.var 0) (.cons (.blt .len (.cons (.var 1) .nil)) .nil)))))
  .skip)⟩
def f_law_same_e1 : IE := (.tup (.cons (.idx (.var 3) (.var 5)) (.cons (.idx (.var 4) (.var 5)) .nil)))
def f_law_same_t0 : IE := (.cmp .gt (.blt .len (.cons (.var 2) .nil)) (.lit (.int 0)))
def f_law_same_b0 : IS := (.seq (.setP [3, 4] (.mth .pop (.var 2) .nil))
  (.seq (.ite (.isi (.var 4) [.tup])
  (.seq (.ite (.or (.not (.isi (.var 3) [.tup])) (.cmp .ne (.blt .len (.cons (.var 3) .nil)) (.blt .len (.cons (.var 4) .nil))))
  (.seq (.ret (.lit (.bl false)))
  .skip)
  .skip)
  (.seq (.ex (.mth .extend (.var 2) (.cons (.comp [5] (.nm 5) (.rng1 (.blt .len (.cons (.var 4) .nil))) .nil f_law_same_e1) .nil)))
  .skip))
  (.seq (.ite (.isi (.var 4) [.str])
  (.seq (.ite (.or (.not (.isi (.var 3) [.str])) (.cmp .ne (.var 3) (.var 4)))
  (.seq (.ret (.lit (.bl false)))
  .skip)
  .skip)
  .skip)
  (.seq (.ite (.or (.isi (.var 3) [.bool]) (.or (.not (.isi (.var 3) [.int])) (.cmp .ne (.var 3) (.var 4))))
  (.seq (.ret (.lit (.bl false)))
  .skip)
  .skip)
  .skip))
  .skip))
  .skip))
def f_law_same : Fn := ⟨2, 6, false, (.seq (.set 2 (.alloc (.lst (.cons (.tup (.cons (.var 0) (.cons (.var 1) .nil))) .nil))))
  (.seq (.whl f_law_same_t0 f_law_same_b0)
  (.seq (.ret (.lit (.bl true)))
  .skip)))⟩
def f_law_number : Fn := ⟨1, 1, false, (.seq (.ret (.call 13 (.cons (.var 0) (.cons (.tup (.cons (.lit (.int 0)) (.cons (.call 12 (.cons (.var 0) (.cons (.lit (.int 10)) .nil))) (.cons (.neg (.call 12 (.cons (.var 0) (.cons (.lit (.int 10)) .nil)))) (.cons (.bin .sub (.bin .pow (.lit (.int 10)) (.lit (.int 40))) (.call 12 (.cons (.var 0) (.cons (.lit (.int 3)) .nil)))) (.cons (.neg (.bin .pow (.lit (.int 10)) (.lit (.int 30)))) (.cons (.call 12 (.cons (.var 0) (.cons (.bin .pow (.lit (.int 10)) (.lit (.int 6))) .nil))) .nil))))))) .nil))))
  .skip)⟩
def f_law_state_e0 : IE := (.call 15 (.cons (.var 0) .nil))
def f_law_state_e2 : IE := (.tup (.cons (.var 9) (.cons (.call 15 (.cons (.var 0) .nil)) .nil)))
def f_law_state_e3 : IE := (.var 9)
def f_law_state_c3 : IE := (.cmp .eq (.call 12 (.cons (.var 0) (.cons (.lit (.int 2)) .nil))) (.lit (.int 0)))
def f_law_state_e4 : IE := (.call 13 (.cons (.var 0) (.cons (.tup (.cons (.lit (.str [98, 111, 120])) (.cons (.lit (.str [116, 119, 111])) (.cons (.lit (.str [98])) .nil)))) .nil)))
def f_law_state_b1 : IS := (.seq (.set 5 (.blt .tuple (.cons (.comp [10] (.nm 10) (.rng1 (.call 12 (.cons (.var 0) (.cons (.lit (.int 5)) .nil)))) .nil f_law_state_e4) .nil)))
  (.seq (.set 6 (.tup (.cons (.call 13 (.cons (.var 0) (.cons (.tup (.cons (.lit (.str [102])) (.cons (.lit (.str [109, 97, 105, 110])) (.cons (.lit (.str [117, 112, 97, 110, 100, 100, 110])) .nil)))) .nil))) (.cons (.bin .add (.var 5) (.tup (.cons (.call 13 (.cons (.var 0) (.cons (.tup (.cons (.lit (.str [105, 110, 116])) (.cons (.lit (.str [100, 111, 116])) .nil))) .nil))) .nil))) .nil))))
  (.seq (.set 7 (.comp [9] (.nm 9) (.cons (.tup (.cons (.lit (.str [97])) (.cons (.lit (.str [98])) (.cons (.lit (.str [110])) (.cons (.lit (.str [114])) (.cons (.lit (.str [115, 116, 97, 116, 101])) (.cons (.lit (.str [120, 120])) .nil))))))) .nil) (.cons f_law_state_c3 .nil) f_law_state_e3))
  (.seq (.set 8 (.bin .add (.blt .int (.cons (.cmp .lt (.bin .add (.var 3) (.lit (.int 1))) (.var 2)) .nil)) (.call 12 (.cons (.var 0) (.cons (.lit (.int 30)) .nil)))))
  (.seq (.ex (.mth .append (.var 1) (.cons (.tup (.cons (.var 6) (.cons (.var 8) (.cons (.blt .tuple (.cons (.comp [9] (.nm 9) (.cons (.var 7) .nil) .nil f_law_state_e2) .nil)) .nil)))) .nil)))
  .skip)))))
def f_law_state : Fn := ⟨1, 11, false, (.seq (.set 1 (.alloc (.lst .nil)))
  (.seq (.set 2 (.bin .add (.lit (.int 1)) (.call 12 (.cons (.var 0) (.cons (.lit (.int 6)) .nil)))))
  (.seq (.for (.nm 3) (.rng1 (.var 2)) f_law_state_b1)
  (.seq (.set 4 (.blt .tuple (.cons (.comp [10] (.nm 10) (.rng1 (.call 12 (.cons (.var 0) (.cons (.lit (.int 5)) .nil)))) .nil f_law_state_e0) .nil)))
  (.seq (.ret (.tup (.cons (.call 13 (.cons (.var 0) (.cons (.tup (.cons (.lit (.int 0)) (.cons (.lit (.int 1)) (.cons (.call 12 (.cons (.var 0) (.cons (.lit (.int 2000)) .nil))) .nil)))) .nil))) (.cons (.var 4) (.cons (.blt .tuple (.cons (.var 1) .nil)) .nil)))))
  .skip)))))⟩
def f_law_lines_b1 : IS := (.seq (.set 8 (.bin .add (.var 8) (.lst (.cons (.var 9) (.cons (.blt .str (.cons (.var 10) .nil)) .nil)))))
  .skip)
def f_law_lines_b0 : IS := (.seq (.set 8 (.bin .add (.bin .add (.lst (.cons (.lit (.str [102, 114, 97, 109, 101])) (.cons (.idx (.var 5) (.lit (.int 0))) .nil))) (.blt .list (.cons (.idx (.var 5) (.lit (.int 1))) .nil))) (.lst (.cons (.lit (.str [97, 116])) (.cons (.blt .str (.cons (.var 6) .nil)) .nil)))))
  (.seq (.for (.tp [9, 10]) (.cons (.var 7) .nil) f_law_lines_b1)
  (.seq (.ex (.mth .append (.var 1) (.cons (.var 8) .nil)))
  .skip)))
def f_law_lines_e2 : IE := (.blt .str (.cons (.var 11) .nil))
def f_law_lines : Fn := ⟨1, 12, false, (.seq (.setP [2, 3, 4] (.var 0))
  (.seq (.set 1 (.alloc (.lst (.cons (.lst (.cons (.lit (.str [115, 116, 101, 112, 115])) (.cons (.blt .str (.cons (.var 2) .nil)) .nil))) (.cons (.bin .add (.lst (.cons (.lit (.str [111, 117, 116])) .nil)) (.comp [11] (.nm 11) (.cons (.var 3) .nil) .nil f_law_lines_e2)) .nil)))))
  (.seq (.for (.tp [5, 6, 7]) (.cons (.var 4) .nil) f_law_lines_b0)
  (.seq (.ret (.var 1))
  .skip))))⟩
def f_law_is_integer_e0 : IE := (.var 2)
def f_law_is_integer_c0 : IE := (.cmp .notIn (.var 2) (.lit (.str [48, 49, 50, 51, 52, 53, 54, 55, 56, 57])))
def f_law_is_integer : Fn := ⟨1, 3, false, (.seq (.set 1 (.ite (.cmp .eq (.sli (.var 0) .nil (.cons (.lit (.int 1)) .nil)) (.lit (.str [45]))) (.sli (.var 0) (.cons (.lit (.int 1)) .nil) .nil) (.var 0)))
  (.seq (.ret (.and (.cmp .gt (.blt .len (.cons (.var 1) .nil)) (.lit (.int 0))) (.cmp .eq (.blt .len (.cons (.comp [2] (.nm 2) (.cons (.var 1) .nil) (.cons f_law_is_integer_c0 .nil) f_law_is_integer_e0) .nil)) (.lit (.int 0)))))
  .skip))⟩
def f_law_frame_e0 : IE := (.tup (.cons (.idx (.var 2) (.var 4)) (.cons (.blt .int (.cons (.idx (.var 2) (.bin .add (.var 4) (.lit (.int 1)))) .nil)) .nil)))
def f_law_frame_e1 : IE := (.var 4)
def f_law_frame_c1 : IE := (.not (.call 18 (.cons (.idx (.var 2) (.var 4)) .nil)))
def f_law_frame : Fn := ⟨1, 5, false, (.seq (.ite (.or (.cmp .ne (.idx (.var 0) (.lit (.int 0))) (.lit (.str [102, 114, 97, 109, 101]))) (.or (.cmp .lt (.blt .len (.cons (.var 0) .nil)) (.lit (.int 2))) (.cmp .notIn (.lit (.str [97, 116])) (.sli (.var 0) (.cons (.lit (.int 2)) .nil) .nil))))
  (.seq (.ret (.lit (.str [119, 111, 114, 100, 115])))
  .skip)
  .skip)
  (.seq (.set 1 (.bin .add (.lit (.int 2)) (.mth .index (.sli (.var 0) (.cons (.lit (.int 2)) .nil) .nil) (.cons (.lit (.str [97, 116])) .nil))))
  (.seq (.set 2 (.sli (.var 0) (.cons (.bin .add (.var 1) (.lit (.int 1))) .nil) .nil))
  (.seq (.ite (.cmp .eq (.bin .mod (.blt .int (.cons (.blt .len (.cons (.var 2) .nil)) .nil)) (.lit (.int 2))) (.lit (.int 0)))
  (.seq (.ret (.lit (.str [119, 111, 114, 100, 115])))
  .skip)
  .skip)
  (.seq (.ite (.cmp .gt (.blt .len (.cons (.comp [4] (.nm 4) (.rng3 (.lit (.int 0)) (.blt .len (.cons (.var 2) .nil)) 2) (.cons f_law_frame_c1 .nil) f_law_frame_e1) .nil)) (.lit (.int 0)))
  (.seq (.ret (.lit (.str [105, 110, 116, 101, 103, 101, 114])))
  .skip)
  .skip)
  (.seq (.set 3 (.blt .tuple (.cons (.comp [4] (.nm 4) (.rng3 (.lit (.int 1)) (.blt .len (.cons (.var 2) .nil)) 2) .nil f_law_frame_e0) .nil)))
  (.seq (.ret (.tup (.cons (.tup (.cons (.idx (.var 0) (.lit (.int 1))) (.cons (.blt .tuple (.cons (.sli (.var 0) (.cons (.lit (.int 2)) .nil) (.cons (.var 1) .nil)) .nil)) .nil))) (.cons (.blt .int (.cons (.idx (.var 2) (.lit (.int 0))) .nil)) (.cons (.var 3) .nil)))))
  .skip)))))))⟩
def f_law_reading_e1 : IE := (.blt .int (.cons (.var 7) .nil))
def f_law_reading_e2 : IE := (.var 7)
def f_law_reading_c2 : IE := (.not (.call 18 (.cons (.var 7) .nil)))
def f_law_reading_e3 : IE := (.var 7)
def f_law_reading_c3 : IE := (.cmp .ne (.var 7) (.lit (.str [])))
def f_law_reading_b0 : IS := (.seq (.ite (.or (.cmp .gt (.var 4) (.lit (.int 599))) (.cmp .gt (.blt .len (.cons (.idx (.var 1) (.var 4)) .nil)) (.lit (.int 400))))
  (.seq (.ret (.tup (.cons (.lit (.str [108, 105, 110, 101])) (.cons (.bin .add (.var 4) (.lit (.int 1))) (.cons (.lit (.str [108, 105, 109, 105, 116])) .nil)))))
  .skip)
  .skip)
  (.seq (.set 5 (.comp [7] (.nm 7) (.cons (.mth .split (.idx (.var 1) (.var 4)) (.cons (.lit (.str [32])) .nil)) .nil) (.cons f_law_reading_c3 .nil) f_law_reading_e3))
  (.seq (.ite (.or (.cmp .eq (.blt .len (.cons (.var 5) .nil)) (.lit (.int 0))) (.cmp .eq (.idx (.idx (.var 5) (.lit (.int 0))) (.lit (.int 0))) (.lit (.str [35]))))
  (.seq .cnt
  .skip)
  .skip)
  (.seq (.ite (.cmp .eq (.blt .len (.cons (.var 2) .nil)) (.lit (.int 2)))
  (.seq (.set 6 (.call 19 (.cons (.var 5) .nil)))
  (.seq (.ite (.isi (.var 6) [.str])
  (.seq (.ret (.tup (.cons (.lit (.str [108, 105, 110, 101])) (.cons (.bin .add (.var 4) (.lit (.int 1))) (.cons (.var 6) .nil)))))
  .skip)
  .skip)
  (.seq (.ex (.mth .append (.var 3) (.cons (.var 6) .nil)))
  (.seq .cnt
  .skip))))
  .skip)
  (.seq (.ite (.or (.cmp .ne (.idx (.var 5) (.lit (.int 0))) (.idx (.tup (.cons (.lit (.str [115, 116, 101, 112, 115])) (.cons (.lit (.str [111, 117, 116])) .nil))) (.blt .len (.cons (.var 2) .nil)))) (.and (.cmp .eq (.blt .len (.cons (.var 2) .nil)) (.lit (.int 0))) (.cmp .ne (.blt .len (.cons (.var 5) .nil)) (.lit (.int 2)))))
  (.seq (.ret (.tup (.cons (.lit (.str [108, 105, 110, 101])) (.cons (.bin .add (.var 4) (.lit (.int 1))) (.cons (.lit (.str [119, 111, 114, 100, 115])) .nil)))))
  .skip)
  .skip)
  (.seq (.ite (.cmp .gt (.blt .len (.cons (.comp [7] (.nm 7) (.cons (.sli (.var 5) (.cons (.lit (.int 1)) .nil) .nil) .nil) (.cons f_law_reading_c2 .nil) f_law_reading_e2) .nil)) (.lit (.int 0)))
  (.seq (.ret (.tup (.cons (.lit (.str [108, 105, 110, 101])) (.cons (.bin .add (.var 4) (.lit (.int 1))) (.cons (.lit (.str [105, 110, 116, 101, 103, 101, 114])) .nil)))))
  .skip)
  .skip)
  (.seq (.ex (.mth .append (.var 2) (.cons (.ite (.cmp .eq (.blt .len (.cons (.var 2) .nil)) (.lit (.int 0))) (.blt .int (.cons (.idx (.var 5) (.lit (.int 1))) .nil)) (.blt .tuple (.cons (.comp [7] (.nm 7) (.cons (.sli (.var 5) (.cons (.lit (.int 1)) .nil) .nil) .nil) .nil f_law_reading_e1) .nil))) .nil)))
  .skip)))))))
def f_law_reading : Fn := ⟨1, 8, false, (.seq (.set 1 (.mth .split (.var 0) (.cons (.lit (.str [10])) .nil)))
  (.seq (.set 2 (.alloc (.lst .nil)))
  (.seq (.set 3 (.alloc (.lst .nil)))
  (.seq (.for (.nm 4) (.rng1 (.blt .len (.cons (.var 1) .nil))) f_law_reading_b0)
  (.seq (.ite (.cmp .lt (.blt .len (.cons (.var 2) .nil)) (.lit (.int 2)))
  (.seq (.ret (.tup (.cons (.lit (.str [108, 105, 110, 101])) (.cons (.bin .add (.blt .len (.cons (.var 1) .nil)) (.lit (.int 1))) (.cons (.lit (.str [119, 111, 114, 100, 115])) .nil)))))
  .skip)
  .skip)
  (.seq (.ret (.tup (.cons (.lit (.str [116, 111, 108, 100])) (.cons (.tup (.cons (.idx (.var 2) (.lit (.int 0))) (.cons (.idx (.var 2) (.lit (.int 1))) (.cons (.blt .tuple (.cons (.var 3) .nil)) .nil)))) .nil))))
  .skip))))))⟩
def f_law_heard : Fn := ⟨1, 2, false, (.seq (.try (.seq (.ret (.tup (.cons (.lit (.str [116, 111, 108, 100])) (.cons (.call 10 (.cons (.var 0) .nil)) .nil))))
  .skip)
  [⟨[[66, 97, 100, 76, 105, 110, 101]], [0], (some 1), (.ret (.tup (.cons (.lit (.str [108, 105, 110, 101])) (.cons (.fld 0 0) (.cons (.fld 0 1) .nil)))))⟩,
   ⟨[[70, 101, 119, 69, 114, 114, 111, 114]], [0], none, (.ret (.tup (.cons (.lit (.str [111, 116, 104, 101, 114])) .nil)))⟩])
  .skip)⟩
def f_law_spaced_b0 : IS := (.seq (.set 2 (.bin .add (.var 2) (.idx (.tup (.cons (.lit (.str [])) (.cons (.lit (.str [])) (.cons (.lit (.str [])) (.cons (.lit (.str [10])) (.cons (.lit (.str [35, 32, 102, 114, 97, 109, 101, 32, 102, 32, 97, 116, 32, 120, 10])) (.cons (.lit (.str [32, 32, 10])) (.cons (.lit (.str [32, 35, 111, 117, 116, 32, 120, 10])) .nil)))))))) (.call 12 (.cons (.var 0) (.cons (.lit (.int 7)) .nil))))))
  (.seq (.set 2 (.bin .add (.bin .add (.bin .add (.bin .add (.var 2) (.bin .mul (.lit (.str [32])) (.call 12 (.cons (.var 0) (.cons (.lit (.int 2)) .nil))))) (.mth .join (.idx (.tup (.cons (.lit (.str [32])) (.cons (.lit (.str [32, 32])) .nil))) (.call 12 (.cons (.var 0) (.cons (.lit (.int 2)) .nil)))) (.cons (.var 3) .nil))) (.bin .mul (.lit (.str [32])) (.call 12 (.cons (.var 0) (.cons (.lit (.int 2)) .nil))))) (.lit (.str [10]))))
  .skip))
def f_law_spaced : Fn := ⟨2, 4, false, (.seq (.set 2 (.lit (.str [])))
  (.seq (.for (.nm 3) (.cons (.var 1) .nil) f_law_spaced_b0)
  (.seq (.ret (.sli (.var 2) .nil (.cons (.bin .sub (.blt .len (.cons (.var 2) .nil)) (.call 12 (.cons (.var 0) (.cons (.lit (.int 2)) .nil)))) .nil)))
  .skip)))⟩
def f_law_bent_e0 : IE := (.var 11)
def f_law_bent_c0 : IE := (.call 18 (.cons (.idx (.var 3) (.var 11)) .nil))
def f_law_bent : Fn := ⟨2, 12, false, (.seq (.set 2 (.call 12 (.cons (.var 0) (.cons (.blt .len (.cons (.var 1) .nil)) .nil))))
  (.seq (.set 3 (.idx (.var 1) (.var 2)))
  (.seq (.set 4 (.call 12 (.cons (.var 0) (.cons (.lit (.int 6)) .nil))))
  (.seq (.set 5 (.call 13 (.cons (.var 0) (.cons (.tup (.cons (.lit (.str [120])) (.cons (.lit (.str [49, 120])) (.cons (.lit (.str [45, 45, 49])) (.cons (.lit (.str [45])) (.cons (.lit (.str [49, 46, 53])) (.cons (.lit (.str [49, 45])) (.cons (.lit (.str [48, 120, 49])) .nil)))))))) .nil))))
  (.seq (.ite (.cmp .eq (.var 4) (.lit (.int 0)))
  (.seq (.ret (.bin .add (.sli (.var 1) .nil (.cons (.var 2) .nil)) (.sli (.var 1) (.cons (.bin .add (.var 2) (.lit (.int 1))) .nil) .nil)))
  .skip)
  .skip)
  (.seq (.ite (.cmp .eq (.var 4) (.lit (.int 1)))
  (.seq (.ret (.bin .add (.bin .add (.sli (.var 1) .nil (.cons (.bin .add (.var 2) (.lit (.int 1))) .nil)) (.lst (.cons (.var 3) .nil))) (.sli (.var 1) (.cons (.bin .add (.var 2) (.lit (.int 1))) .nil) .nil)))
  .skip)
  .skip)
  (.seq (.ite (.cmp .eq (.var 4) (.lit (.int 2)))
  (.seq (.set 8 (.call 12 (.cons (.var 0) (.cons (.blt .len (.cons (.var 1) .nil)) .nil))))
  (.seq (.set 9 (.bin .add (.sli (.var 1) .nil (.cons (.var 2) .nil)) (.sli (.var 1) (.cons (.bin .add (.var 2) (.lit (.int 1))) .nil) .nil)))
  (.seq (.ret (.bin .add (.bin .add (.sli (.var 9) .nil (.cons (.var 8) .nil)) (.lst (.cons (.var 3) .nil))) (.sli (.var 9) (.cons (.var 8) .nil) .nil)))
  .skip)))
  .skip)
  (.seq (.ite (.cmp .eq (.var 4) (.lit (.int 3)))
  (.seq (.set 10 (.lst (.cons (.bin .add (.lst (.cons (.lit (.str [83, 116, 101, 112, 115])) .nil)) (.sli (.var 3) (.cons (.lit (.int 1)) .nil) .nil)) (.cons (.bin .add (.lst (.cons (.lit (.str [102, 114, 97, 109, 101, 115])) .nil)) (.sli (.var 3) (.cons (.lit (.int 1)) .nil) .nil)) (.cons (.bin .add (.sli (.var 3) (.cons (.lit (.int 1)) .nil) .nil) (.lst (.cons (.lit (.str [122, 122])) .nil))) (.cons (.lst (.cons (.lit (.str [102, 114, 97, 109, 101])) .nil)) (.cons (.lst (.cons (.lit (.str [102, 114, 97, 109, 101])) (.cons (.lit (.str [102])) .nil))) (.cons (.lst (.cons (.lit (.str [102, 114, 97, 109, 101])) (.cons (.lit (.str [102])) (.cons (.lit (.str [105, 110, 116])) (.cons (.lit (.str [49])) .nil))))) (.cons (.lst (.cons (.lit (.str [102, 114, 97, 109, 101])) (.cons (.lit (.str [102])) (.cons (.lit (.str [105, 110, 116])) (.cons (.lit (.str [97, 116])) (.cons (.lit (.str [49])) (.cons (.lit (.str [97])) .nil))))))) (.cons (.lst (.cons (.lit (.str [115, 116, 101, 112, 115])) .nil)) (.cons (.lst (.cons (.lit (.str [115, 116, 101, 112, 115])) (.cons (.lit (.str [49])) (.cons (.lit (.str [50])) .nil)))) .nil)))))))))))
  (.seq (.set 10 (.bin .add (.var 10) (.lst (.cons (.lst (.cons (.lit (.str [102, 114, 97, 109, 101])) (.cons (.lit (.str [102])) (.cons (.lit (.str [105, 110, 116])) (.cons (.lit (.str [97, 116])) (.cons (.lit (.str [49])) (.cons (.lit (.str [97])) (.cons (.lit (.str [50])) (.cons (.lit (.str [98])) .nil))))))))) (.cons (.lst (.cons (.lit (.str [111, 117, 116])) (.cons (.var 5) .nil))) (.cons (.lst (.cons (.lit (.str [115, 116, 101, 112, 115])) (.cons (.var 5) .nil))) (.cons (.lst (.cons (.lit (.str [102, 114, 97, 109, 101])) (.cons (.lit (.str [102])) (.cons (.lit (.str [105, 110, 116])) (.cons (.lit (.str [97, 116])) (.cons (.var 5) .nil)))))) (.cons (.lst (.cons (.lit (.str [102, 114, 97, 109, 101])) (.cons (.lit (.str [102])) (.cons (.lit (.str [105, 110, 116])) (.cons (.lit (.str [97, 116])) (.cons (.lit (.str [49])) (.cons (.lit (.str [97])) (.cons (.var 5) (.cons (.lit (.str [98])) (.cons (.lit (.str [50])) .nil)))))))))) .nil))))))))
  (.seq (.ret (.bin .add (.bin .add (.sli (.var 1) .nil (.cons (.var 2) .nil)) (.lst (.cons (.idx (.var 10) (.call 12 (.cons (.var 0) (.cons (.blt .len (.cons (.var 10) .nil)) .nil)))) .nil))) (.sli (.var 1) (.cons (.bin .add (.var 2) (.lit (.int 1))) .nil) .nil)))
  .skip)))
  .skip)
  (.seq (.ite (.cmp .eq (.var 4) (.lit (.int 4)))
  (.seq (.ret (.bin .add (.bin .add (.sli (.var 1) .nil (.cons (.var 2) .nil)) (.lst (.cons (.bin .add (.var 3) (.bin .mul (.lst (.cons (.var 5) .nil)) (.bin .add (.lit (.int 1)) (.call 12 (.cons (.var 0) (.cons (.lit (.int 2)) .nil)))))) .nil))) (.sli (.var 1) (.cons (.bin .add (.var 2) (.lit (.int 1))) .nil) .nil)))
  .skip)
  .skip)
  (.seq (.set 6 (.comp [11] (.nm 11) (.rng1 (.blt .len (.cons (.var 3) .nil))) (.cons f_law_bent_c0 .nil) f_law_bent_e0))
  (.seq (.ite (.cmp .eq (.blt .len (.cons (.var 6) .nil)) (.lit (.int 0)))
  (.seq (.ret (.bin .add (.var 1) (.lst (.cons (.lst (.cons (.lit (.str [111, 117, 116])) .nil)) .nil))))
  .skip)
  .skip)
  (.seq (.set 7 (.idx (.var 6) (.call 12 (.cons (.var 0) (.cons (.blt .len (.cons (.var 6) .nil)) .nil)))))
  (.seq (.ret (.bin .add (.bin .add (.sli (.var 1) .nil (.cons (.var 2) .nil)) (.lst (.cons (.bin .add (.bin .add (.sli (.var 3) .nil (.cons (.var 7) .nil)) (.lst (.cons (.var 5) .nil))) (.sli (.var 3) (.cons (.bin .add (.var 7) (.lit (.int 1))) .nil) .nil)) .nil))) (.sli (.var 1) (.cons (.bin .add (.var 2) (.lit (.int 1))) .nil) .nil)))
  .skip)))))))))))))⟩
def f_law_asked_b0 : IS := (.seq (.set 5 (.call 23 (.cons (.var 0) (.cons (.var 2) .nil))))
  (.seq (.ite (.and (.cmp .gt (.blt .len (.cons (.var 5) .nil)) (.lit (.int 0))) (.cmp .eq (.call 12 (.cons (.var 0) (.cons (.lit (.int 4)) .nil))) (.lit (.int 0))))
  (.seq (.set 5 (.call 23 (.cons (.var 0) (.cons (.var 5) .nil))))
  .skip)
  .skip)
  (.seq (.set 3 (.call 22 (.cons (.var 0) (.cons (.var 5) .nil))))
  (.seq (.ite (.not (.call 14 (.cons (.call 21 (.cons (.var 3) .nil)) (.cons (.call 20 (.cons (.var 3) .nil)) .nil))))
  (.seq (.ret (.lit (.bl false)))
  .skip)
  .skip)
  .skip))))
def f_law_asked_e1 : IE := (.bin .add (.mth .join (.lit (.str [32])) (.cons (.var 6) .nil)) (.lit (.str [10])))
def f_law_asked : Fn := ⟨1, 7, false, (.seq (.set 1 (.call 16 (.cons (.var 0) .nil)))
  (.seq (.set 2 (.call 17 (.cons (.var 1) .nil)))
  (.seq (.ite (.not (.call 14 (.cons (.call 5 (.cons (.var 1) .nil)) (.cons (.mth .join (.lit (.str [])) (.cons (.comp [6] (.nm 6) (.cons (.var 2) .nil) .nil f_law_asked_e1) .nil)) .nil))))
  (.seq (.ret (.lit (.bl false)))
  .skip)
  .skip)
  (.seq (.set 3 (.call 22 (.cons (.var 0) (.cons (.var 2) .nil))))
  (.seq (.ite (.not (.call 14 (.cons (.tup (.cons (.call 21 (.cons (.var 3) .nil)) (.cons (.call 20 (.cons (.var 3) .nil)) .nil))) (.cons (.tup (.cons (.tup (.cons (.lit (.str [116, 111, 108, 100])) (.cons (.var 1) .nil))) (.cons (.tup (.cons (.lit (.str [116, 111, 108, 100])) (.cons (.var 1) .nil))) .nil))) .nil))))
  (.seq (.ret (.lit (.bl false)))
  .skip)
  .skip)
  (.seq (.for (.nm 4) (.rng1 (.lit (.int 7))) f_law_asked_b0)
  (.seq (.ret (.lit (.bl true)))
  .skip)))))))⟩
def f_law_hand_b0 : IS := (.seq (.ite (.not (.call 14 (.cons (.call 21 (.cons (.var 4) .nil)) (.cons (.tup (.cons (.lit (.str [108, 105, 110, 101])) (.cons (.var 5) (.cons (.var 6) .nil)))) .nil))))
  (.seq (.ret (.lit (.bl false)))
  .skip)
  .skip)
  .skip)
def f_law_hand : Fn := ⟨0, 7, false, (.seq (.set 0 (.tup (.cons (.lit (.int 1)) (.cons (.tup .nil) (.cons (.tup (.cons (.tup (.cons (.tup (.cons (.lit (.str [117, 112])) (.cons (.tup (.cons (.lit (.str [105, 110, 116])) .nil)) .nil))) (.cons (.lit (.int 1)) (.cons (.tup (.cons (.tup (.cons (.lit (.str [110])) (.cons (.lit (.int 0)) .nil))) (.cons (.tup (.cons (.lit (.str [114])) (.cons (.lit (.int 0)) .nil))) .nil))) .nil)))) .nil)) .nil)))))
  (.seq (.set 1 (.tup (.cons (.callk 5 0 1 .nil (.cons (.var 0) .nil) [0]) (.cons (.callk 10 0 1 .nil (.cons (.lit (.str [115, 116, 101, 112, 115, 32, 50, 10, 111, 117, 116, 32, 53, 32, 54])) .nil) [0]) (.cons (.call 10 (.cons (.lit (.str [115, 116, 101, 112, 115, 32, 49, 10, 111, 117, 116, 10, 102, 114, 97, 109, 101, 32, 117, 112, 32, 105, 110, 116, 32, 97, 116, 32, 49, 32, 110, 32, 48, 32, 114, 32, 48, 10])) .nil)) .nil)))))
  (.seq (.ite (.not (.call 14 (.cons (.var 1) (.cons (.tup (.cons (.lit (.str [115, 116, 101, 112, 115, 32, 49, 10, 111, 117, 116, 10, 102, 114, 97, 109, 101, 32, 117, 112, 32, 105, 110, 116, 32, 97, 116, 32, 49, 32, 110, 32, 48, 32, 114, 32, 48, 10])) (.cons (.tup (.cons (.lit (.int 2)) (.cons (.tup (.cons (.lit (.int 5)) (.cons (.lit (.int 6)) .nil))) (.cons (.tup .nil) .nil)))) (.cons (.var 0) .nil)))) .nil))))
  (.seq (.ret (.lit (.bl false)))
  .skip)
  .skip)
  (.seq (.set 1 (.tup (.cons (.call 10 (.cons (.lit (.str [10, 32, 115, 116, 101, 112, 115, 32, 32, 48, 32, 10, 35, 10, 111, 117, 116, 32, 45, 51, 10, 102, 114, 97, 109, 101, 32, 103, 32, 116, 119, 111, 32, 116, 119, 111, 32, 105, 110, 116, 32, 97, 116, 32, 48, 10, 10, 102, 114, 97, 109, 101, 32, 103, 32, 98, 111, 120, 32, 105, 110, 116, 32, 97, 116, 32, 49, 50, 32, 97, 32, 45, 52])) .nil)) (.cons (.call 5 (.cons (.tup (.cons (.lit (.int 7)) (.cons (.tup (.cons (.neg (.lit (.int 1))) (.cons (.lit (.int 0)) .nil))) (.cons (.tup (.cons (.tup (.cons (.tup (.cons (.lit (.str [102])) (.cons (.tup (.cons (.lit (.str [98, 111, 120])) (.cons (.lit (.str [105, 110, 116])) .nil))) .nil))) (.cons (.lit (.int 3)) (.cons (.tup .nil) .nil)))) .nil)) .nil)))) .nil)) .nil))))
  (.seq (.set 2 (.tup (.cons (.lit (.int 0)) (.cons (.tup (.cons (.neg (.lit (.int 3))) .nil)) (.cons (.tup (.cons (.tup (.cons (.tup (.cons (.lit (.str [103])) (.cons (.tup (.cons (.lit (.str [116, 119, 111])) (.cons (.lit (.str [116, 119, 111])) (.cons (.lit (.str [105, 110, 116])) .nil)))) .nil))) (.cons (.lit (.int 0)) (.cons (.tup .nil) .nil)))) (.cons (.tup (.cons (.tup (.cons (.lit (.str [103])) (.cons (.tup (.cons (.lit (.str [98, 111, 120])) (.cons (.lit (.str [105, 110, 116])) .nil))) .nil))) (.cons (.lit (.int 12)) (.cons (.tup (.cons (.tup (.cons (.lit (.str [97])) (.cons (.neg (.lit (.int 4))) .nil))) .nil)) .nil)))) .nil))) .nil)))))
  (.seq (.ite (.not (.call 14 (.cons (.var 1) (.cons (.tup (.cons (.var 2) (.cons (.lit (.str [115, 116, 101, 112, 115, 32, 55, 10, 111, 117, 116, 32, 45, 49, 32, 48, 10, 102, 114, 97, 109, 101, 32, 102, 32, 98, 111, 120, 32, 105, 110, 116, 32, 97, 116, 32, 51, 10])) .nil))) .nil))))
  (.seq (.ret (.lit (.bl false)))
  .skip)
  .skip)
  (.seq (.set 3 (.lst (.cons (.tup (.cons (.lit (.str [])) (.cons (.lit (.int 2)) (.cons (.lit (.str [119, 111, 114, 100, 115])) .nil)))) (.cons (.tup (.cons (.lit (.str [115, 116, 101, 112, 115, 32, 49])) (.cons (.lit (.int 2)) (.cons (.lit (.str [119, 111, 114, 100, 115])) .nil)))) (.cons (.tup (.cons (.lit (.str [115, 116, 101, 112, 115, 32, 49, 10])) (.cons (.lit (.int 3)) (.cons (.lit (.str [119, 111, 114, 100, 115])) .nil)))) (.cons (.tup (.cons (.lit (.str [111, 117, 116, 32, 49])) (.cons (.lit (.int 1)) (.cons (.lit (.str [119, 111, 114, 100, 115])) .nil)))) (.cons (.tup (.cons (.lit (.str [115, 116, 101, 112, 115, 32, 49, 10, 102, 114, 97, 109, 101, 32, 102, 32, 105, 110, 116, 32, 97, 116, 32, 48])) (.cons (.lit (.int 2)) (.cons (.lit (.str [119, 111, 114, 100, 115])) .nil)))) (.cons (.tup (.cons (.lit (.str [115, 116, 101, 112, 115, 32, 49, 10, 111, 117, 116, 10, 111, 117, 116])) (.cons (.lit (.int 3)) (.cons (.lit (.str [119, 111, 114, 100, 115])) .nil)))) (.cons (.tup (.cons (.lit (.str [115, 116, 101, 112, 115, 32, 120])) (.cons (.lit (.int 1)) (.cons (.lit (.str [105, 110, 116, 101, 103, 101, 114])) .nil)))) .nil)))))))))
  (.seq (.set 3 (.bin .add (.var 3) (.lst (.cons (.tup (.cons (.lit (.str [115, 116, 101, 112, 115, 32, 49, 32, 120])) (.cons (.lit (.int 1)) (.cons (.lit (.str [119, 111, 114, 100, 115])) .nil)))) (.cons (.tup (.cons (.lit (.str [115, 116, 101, 112, 115, 32, 49, 10, 111, 117, 116, 32, 49, 32, 98])) (.cons (.lit (.int 2)) (.cons (.lit (.str [105, 110, 116, 101, 103, 101, 114])) .nil)))) (.cons (.tup (.cons (.lit (.str [115, 116, 101, 112, 115, 32, 49, 10, 111, 117, 116, 10, 102, 114, 97, 109, 101, 32, 102, 32, 105, 110, 116, 32, 97, 116, 32, 48, 32, 97])) (.cons (.lit (.int 3)) (.cons (.lit (.str [119, 111, 114, 100, 115])) .nil)))) (.cons (.tup (.cons (.lit (.str [115, 116, 101, 112, 115, 32, 49, 10, 111, 117, 116, 10, 102, 114, 97, 109, 101, 32, 102, 32, 105, 110, 116, 32, 97, 116, 32, 120, 32, 97])) (.cons (.lit (.int 3)) (.cons (.lit (.str [119, 111, 114, 100, 115])) .nil)))) (.cons (.tup (.cons (.lit (.str [115, 116, 101, 112, 115, 32, 49, 10, 111, 117, 116, 10, 102, 114, 97, 109, 101, 32, 102, 32, 105, 110, 116, 32, 97, 116, 32, 48, 32, 97, 32, 98])) (.cons (.lit (.int 3)) (.cons (.lit (.str [105, 110, 116, 101, 103, 101, 114])) .nil)))) .nil))))))))
  (.seq (.set 3 (.bin .add (.var 3) (.lst (.cons (.tup (.cons (.lit (.str [115, 116, 101, 112, 115, 32, 49, 10, 111, 117, 116, 10, 102, 114, 97, 109, 101, 32, 102, 32, 105, 110, 116, 32, 48, 32, 97, 32, 49])) (.cons (.lit (.int 3)) (.cons (.lit (.str [119, 111, 114, 100, 115])) .nil)))) (.cons (.tup (.cons (.lit (.str [115, 116, 101, 112, 115, 32, 49, 10, 111, 117, 116, 10, 102, 114, 97, 109, 101])) (.cons (.lit (.int 3)) (.cons (.lit (.str [119, 111, 114, 100, 115])) .nil)))) (.cons (.tup (.cons (.bin .mul (.lit (.str [35])) (.lit (.int 401))) (.cons (.lit (.int 1)) (.cons (.lit (.str [108, 105, 109, 105, 116])) .nil)))) (.cons (.tup (.cons (.bin .add (.lit (.str [115, 116, 101, 112, 115, 10])) (.bin .mul (.lit (.str [35])) (.lit (.int 401)))) (.cons (.lit (.int 1)) (.cons (.lit (.str [119, 111, 114, 100, 115])) .nil)))) (.cons (.tup (.cons (.lit (.str [115, 116, 101, 112, 115, 32, 49, 10, 111, 117, 116, 10, 115, 116, 101, 112, 115, 32, 50])) (.cons (.lit (.int 3)) (.cons (.lit (.str [119, 111, 114, 100, 115])) .nil)))) .nil))))))))
  (.seq (.for (.tp [4, 5, 6]) (.cons (.var 3) .nil) f_law_hand_b0)
  (.seq (.ret (.lit (.bl true)))
  .skip)))))))))))⟩
def f_law_b0 : IS := (.seq (.ite (.not (.call 24 (.cons (.var 1) .nil)))
  (.seq (.ret (.lit (.bl false)))
  .skip)
  .skip)
  .skip)
def f_law : Fn := ⟨1, 7, false, (.seq (.set 1 (.call 11 (.cons (.var 0) .nil)))
  (.seq (.ite (.not (.call 25 .nil))
  (.seq (.ret (.lit (.bl false)))
  .skip)
  .skip)
  (.seq (.for (.nm 2) (.rng1 (.lit (.int 3))) f_law_b0)
  (.seq (.ite (.cmp .ne (.call 12 (.cons (.var 1) (.cons (.lit (.int 7)) .nil))) (.lit (.int 2)))
  (.seq (.ret (.lit (.bl true)))
  .skip)
  .skip)
  (.seq (.set 3 (.call 12 (.cons (.var 1) (.cons (.lit (.int 2)) .nil))))
  (.seq (.set 4 (.bin .add (.bin .add (.bin .add (.bin .add (.lit (.str [115, 116, 101, 112, 115, 32, 51, 10, 111, 117, 116, 32, 49])) (.bin .mul (.lit (.str [10])) (.lit (.int 597)))) (.bin .mul (.lit (.str [35])) (.lit (.int 400)))) (.bin .mul (.lit (.str [10])) (.bin .add (.lit (.int 1)) (.var 3)))) (.lit (.str [102, 114, 97, 109, 101, 32, 102, 32, 105, 110, 116, 32, 97, 116, 32, 50]))))
  (.seq (.set 5 (.ite (.cmp .eq (.var 3) (.lit (.int 0))) (.tup (.cons (.lit (.str [116, 111, 108, 100])) (.cons (.tup (.cons (.lit (.int 3)) (.cons (.tup (.cons (.lit (.int 1)) .nil)) (.cons (.tup (.cons (.tup (.cons (.tup (.cons (.lit (.str [102])) (.cons (.tup (.cons (.lit (.str [105, 110, 116])) .nil)) .nil))) (.cons (.lit (.int 2)) (.cons (.tup .nil) .nil)))) .nil)) .nil)))) .nil))) (.tup (.cons (.lit (.str [108, 105, 110, 101])) (.cons (.lit (.int 601)) (.cons (.lit (.str [108, 105, 109, 105, 116])) .nil))))))
  (.seq (.set 6 (.bin .add (.lit (.str [115, 116, 101, 112, 115, 32, 51, 10, 111, 117, 116, 32, 49])) (.bin .mul (.lit (.str [32])) (.bin .add (.lit (.int 395)) (.call 12 (.cons (.var 1) (.cons (.lit (.int 2)) .nil)))))))
  (.seq (.ret (.call 14 (.cons (.tup (.cons (.call 21 (.cons (.var 4) .nil)) (.cons (.call 21 (.cons (.var 6) .nil)) .nil))) (.cons (.tup (.cons (.var 5) (.cons (.call 20 (.cons (.var 6) .nil)) .nil))) .nil))))
  .skip)))))))))⟩
def fs : List Fn := [f_told_lines, f_need_short, f_written_integer, f_last_line, f_frame_text, f_state_text, f_integers_of, f_read_frame, f_read_steps, f_read_out, f_read_state, f_law_mug, f_law_gulp, f_law_of, f_law_same, f_law_number, f_law_state, f_law_lines, f_law_is_integer, f_law_frame, f_law_reading, f_law_heard, f_law_spaced, f_law_bent, f_law_asked, f_law_hand, f_law]
end Lw
set_option linter.all false
set_option maxRecDepth 100000
set_option maxHeartbeats 4000000
/-! K5a: what is alike is alike. -/
namespace Lw
open Fb
theorem all2_rng {β : Type} {R : D → β → Prop} : ∀ {ys : List β} (lo : Nat), (∀ k (hk : k < ys.length), R (.int ((lo + k : Nat) : Int)) ys[k]) → All2 R ((List.range' lo ys.length).map fun (i : Nat) => .int (i : Nat)) ys
  | [], _, _ => .nil
  | y :: r, lo, h => by
    rw [List.length_cons, List.range'_succ, List.map_cons]
    refine .cons (h 0 (by simp)) (all2_rng (lo + 1) fun k hk => ?_)
    have := h (k + 1) (by simpa using hk)
    rw [show lo + 1 + k = lo + (k + 1) by omega]
    simpa using this
theorem rngD_map (n : Nat) : rngD 0 n = (List.range' 0 n).map fun (i : Nat) => .int (i : Nat) := by
  unfold rngD
  rw [List.range_eq_range']
  exact List.map_congr_left fun i _ => by simp
theorem all2_rng0 {β : Type} {R : D → β → Prop} {ys : List β} (h : ∀ k (hk : k < ys.length), R (.int (k : Int)) ys[k]) : All2 R (rngD 0 ys.length) ys := by
  rw [rngD_map]
  exact all2_rng 0 fun k hk => by rw [show 0 + k = k by omega]; exact h k hk
mutual
/-- tuples, texts, intz -/
def D.tis : D → Bool
  | .tup xs => D.tiss xs
  | .str _ => true
  | .int _ => true
  | _ => false
def D.tiss : List D → Bool
  | [] => true
  | x :: xs => D.tis x && D.tiss xs
end
mutual
def D.sz : D → Nat
  | .tup xs => D.szs xs + 1
  | _ => 1
def D.szs : List D → Nat
  | [] => 0
  | x :: xs => D.sz x + D.szs xs
end
theorem tiss_mem {xs : List D} : D.tiss xs = true ↔ ∀ x ∈ xs, D.tis x = true := by
  induction xs with
  | nil => simp [D.tiss]
  | cons x r ih => simp [D.tiss, ih]
theorem szs_app {xs ys : List D} : D.szs (xs ++ ys) = D.szs xs + D.szs ys := by
  induction xs with
  | nil => simp [D.szs]
  | cons x r ih => simp [D.szs, ih]; omega
theorem sz_pos (x : D) : 1 ≤ D.sz x := by cases x <;> simp [D.sz]
theorem len_szs (xs : List D) : xs.length ≤ D.szs xs := by
  induction xs with
  | nil => simp [D.szs]
  | cons x r ih => have := sz_pos x; simp [D.szs]; omega
mutual
theorem tis_free : ∀ {d : D}, D.tis d = true → D.free d = true
  | .tup xs, h => tiss_frees (show D.tiss xs = true from h)
  | .str _, _ => rfl
  | .int _, _ => rfl
  | .non, h => by cases h
  | .bl _, h => by cases h
  | .lst _, h => by cases h
  | .ro _, h => by cases h
  | .cell _, h => by cases h
theorem tiss_frees : ∀ {ds : List D}, D.tiss ds = true → D.frees ds = true
  | [], _ => rfl
  | x :: xs, h => by
    have h2 := Bool.and_eq_true_iff.mp (show (D.tis x && D.tiss xs) = true from h)
    exact Bool.and_eq_true_iff.mpr ⟨tis_free h2.1, tiss_frees h2.2⟩
end
def pr (x : D) : D := .tup [x, x]
variable {fuel l : Nat}
theorem m_pop {S : Store} {n : Nat} {xs : List D} {x : D} (h : S[n]? = some (.lst (xs ++ [x]))) : mthD S .pop (.cell n) [] = some (x, S.set n (.lst xs)) := by
  show (match S[n]? with
    | some (.lst ys) => (ys[ys.length - 1]?).map fun y => (y, S.set n (.lst ys.dropLast))
    | none => none) = _
  rw [h]
  simp
theorem m_ext {S : Store} {n : Nat} {xs ys : List D} (h : S[n]? = some (.lst xs)) (hl : xs.length + ys.length ≤ 16777216) : mthD S .extend (.cell n) [.lst ys] = some (.non, S.set n (.lst (xs ++ ys))) := by
  show (match S[n]?, ownOf S (.lst ys) with
    | some (.lst ys), some zs => if ys.length + zs.length ≤ SL then some (D.non, S.set n (.lst (ys ++ zs))) else none
    | _, _ => none) = _
  rw [h]
  exact if_pos hl
/-- a turn -/
theorem same_turn {a b c : Option D} {x z w : D} {ps : List D} (hx : D.tis x = true) (hl : D.szs ps + D.sz x ≤ 100000) : ∃ qs σ', exS ⟨callF fs fuel l, fuel, l⟩ f_law_same_b0 [some z, some w, some (.cell 0), a, b, c] [.lst (ps.map pr ++ [.tup [x, x]])] = .ok (.nx [some z, some w, some (.cell 0), some x, some x, σ']) [.lst (qs.map pr)] ∧ D.szs qs + 1 = D.szs ps + D.sz x ∧ (D.tiss ps = true → D.tiss qs = true) := by
  have mp := m_pop (S := [Cell.lst (ps.map pr ++ [.tup [x, x]])]) (n := 0) (xs := ps.map pr) (x := .tup [x, x]) rfl
  cases x with
  | tup xs =>
    have hlen : xs.length ≤ 100000 := by have := len_szs xs; simp [D.sz] at hl; omega
    have ec : compM (elG ⟨callF fs fuel l, fuel, l⟩ [5] (.nm 5) .nil f_law_same_e1 [some z, some w, some (.cell 0), some (.tup xs), some (.tup xs), c]) (rngD 0 xs.length) 0 [.lst (ps.map pr)] = .ok (xs.map pr) [.lst (ps.map pr)] := by
      refine compM_all ?_ (by rw [rng_len]; omega)
      have hm : xs.map pr = (xs.map pr) := rfl
      have := all2_rng0 (ys := xs.map pr) (R := fun x y => ∀ S, elG ⟨callF fs fuel l, fuel, l⟩ [5] (.nm 5) .nil f_law_same_e1 [some z, some w, some (.cell 0), some (.tup xs), some (.tup xs), c] x S = .ok (some y) S) fun k hk S => by
        rw [List.length_map] at hk
        have q0 : (0 : Int) ≤ (k : Int) := by omega
        refine el_nm ?_
        rw [List.getElem_map]
        simp (disch := (first | decide | assumption | (simp only [List.length_append, List.length_cons, List.length_nil, List.length_map] <;> omega) | omega)) [wipeE, f_law_same_e1, hk, pr]
      rwa [List.length_map] at this
    have e3 : ∀ (S : Store), rngM (.int (xs.length : Int)) S = .ok (.xs (rngD 0 xs.length)) S := fun S => rngM_nat (by omega)
    have me := m_ext (S := [Cell.lst (ps.map pr)]) (n := 0) (xs := ps.map pr) (ys := xs.map pr) rfl (by have := len_szs ps; simp; omega)
    refine ⟨ps ++ xs, c, ?_, by rw [szs_app]; simp [D.sz]; omega, fun h => ?_⟩
    · simp (disch := (first | decide | assumption | (simp only [List.length_append, List.length_cons, List.length_nil, List.length_map] <;> omega) | omega)) [-x_comp, x_comp2, f_law_same_b0, mp, recvOk, D.isTy, ec, e3, me]
    · rw [tiss_mem] at *
      intro y hy
      rcases List.mem_append.mp hy with g | g
      · exact h y g
      · exact (tiss_mem.mp (show D.tiss xs = true from hx)) y g
  | str s => exact ⟨ps, c, by simp (disch := (first | decide | assumption | (simp only [List.length_append, List.length_cons, List.length_nil, List.length_map] <;> omega) | omega)) [f_law_same_b0, mp, recvOk, D.isTy], by simp [D.sz], fun h => h⟩
  | int i => exact ⟨ps, c, by simp (disch := (first | decide | assumption | (simp only [List.length_append, List.length_cons, List.length_nil, List.length_map] <;> omega) | omega)) [f_law_same_b0, mp, recvOk, D.isTy], by simp [D.sz], fun h => h⟩
  | _ => cases hx
theorem whl_go {c : Ev → M Bool} {f : Ev → M Fl} {k : Nat} {σ σ' : Ev} {S S1 S2 : Store} (h : c σ S = .ok true S1) (hf : f σ S1 = .ok (.nx σ') S2) : whlN c f (k + 1) σ S = whlN c f k σ' S2 := by
  show Res.lft (c σ S) _ _ = _
  rw [h, lft_ok]
  show Res.bnd (f σ S1) _ = _
  rw [hf]; rfl
theorem whl_end {c : Ev → M Bool} {f : Ev → M Fl} {k : Nat} {σ : Ev} {S S1 : Store} (h : c σ S = .ok false S1) : whlN c f (k + 1) σ S = .ok (.nx σ) S1 := by
  show Res.lft (c σ S) _ _ = _
  rw [h]; rfl
theorem x_whl {C : Cf} {c : IE} {b : IS} {σ : Ev} {S : Store} : exS C (.whl c b) σ S = whlN (fun σ => evT C c σ) (fun σ => exS C b σ) C.fuel σ S := (rfl)
theorem nil_or_snoc {α : Type} (xs : List α) : xs = [] ∨ ∃ ys y, xs = ys ++ [y] := by
  rcases List.eq_nil_or_concat xs with h | ⟨ys, y, h⟩
  · exact .inl h
  · exact .inr ⟨ys, y, by rw [h]; simp⟩
theorem same_loop {z w : D} : ∀ (k : Nat) (ps : List D) (a b c : Option D), D.tiss ps = true → D.szs ps < k → D.szs ps ≤ 100000 → ∃ a' b' c', whlN (fun σ => evT ⟨callF fs fuel l, fuel, l⟩ f_law_same_t0 σ) (fun σ => exS ⟨callF fs fuel l, fuel, l⟩ f_law_same_b0 σ) k [some z, some w, some (.cell 0), a, b, c] [.lst (ps.map pr)] = .ok (.nx [some z, some w, some (.cell 0), a', b', c']) [.lst []]
  | 0, _, _, _, _, _, h, _ => by omega
  | k + 1, ps, a, b, c, ht, hs, hl => by
    have hb : ∀ xs : List D, bltD [Cell.lst xs] .len [.cell 0] = some (.int xs.length) := fun _ => rfl
    rcases nil_or_snoc ps with rfl | ⟨qs, x, rfl⟩
    · exact ⟨a, b, c, whl_end (by simp (disch := (first | decide | assumption | (simp only [List.length_append, List.length_cons, List.length_nil, List.length_map] <;> omega) | omega)) [f_law_same_t0, hb])⟩
    · rw [szs_app] at hs hl
      simp only [D.szs, Nat.add_zero] at hs hl
      rw [tiss_mem] at ht
      obtain ⟨rs, c', e, h1, h2⟩ := same_turn (fuel := fuel) (l := l) (a := a) (b := b) (c := c) (z := z) (w := w) (x := x) (ps := qs) (ht x (by simp)) hl
      obtain ⟨a2, b2, c2, e2⟩ := same_loop k rs (some x) (some x) c' (h2 (tiss_mem.mpr fun y hy => ht y (by simp [hy]))) (by omega) (by omega)
      refine ⟨a2, b2, c2, ?_⟩
      rw [List.map_append]
      rw [whl_go (S1 := [.lst (qs.map pr ++ [.tup [x, x]])]) (by simp (disch := (first | decide | assumption | (simp only [List.length_append, List.length_cons, List.length_nil, List.length_map] <;> omega) | omega)) [f_law_same_t0, hb, pr]; try omega) e, e2]
theorem same_yes {d : D} (hd : D.tis d = true) (hs : D.sz d < fuel) (hl : D.sz d ≤ 100000) (S : Store) : callF fs fuel (l + 1) 14 [d, d] S = .ok (.bl true) S := by
  rw [callF_succ (show fs[14]? = some f_law_same from rfl) rfl]
  have hf := tis_free hd
  refine call_freeE (S' := [.lst []]) rfl (tops_free (by simp [D.frees, hf])) rfl ?_
  obtain ⟨a, b, c, e⟩ := same_loop (fuel := fuel) (l := l) (z := d) (w := d) fuel [d] none none none (by simp [D.tiss, hd]) (by simpa [D.szs] using hs) (by simpa [D.szs] using hl)
  have e : whlN (fun σ => evT ⟨callF fs fuel l, fuel, l⟩ f_law_same_t0 σ) (fun σ => exS ⟨callF fs fuel l, fuel, l⟩ f_law_same_b0 σ) fuel [some d, some d, some (.cell 0), none, none, none] [.lst [.tup [d, d]]] = .ok (.nx [some d, some d, some (.cell 0), a, b, c]) [.lst []] := e
  simp (disch := (first | decide | assumption | (simp only [List.length_append, List.length_cons, List.length_nil, List.length_map] <;> omega) | omega)) [f_law_same, x_whl, e]
end Lw
set_option linter.all false
set_option maxRecDepth 100000
set_option maxHeartbeats 4000000
/-! K5b: the mug. -/
namespace Lw
open Fb
theorem shownN {xs : List D} {B R : Store} (h : D.tops xs = B.length) (hc : ∀ c ∈ B, c.topB B.length = true) : shown xs (B ++ R) = B.length := by
  unfold shown
  rw [h]
  exact if_pos ⟨by simp, by simpa [List.all_eq_true] using hc⟩
theorem call_preZ {C : Cf} {fn : Fn} {xs : List D} {B B' R S1 : Store} {d d' : D} (hk : fn.keep = false) (ht : D.tops xs = B.length) (hc : ∀ c ∈ B, c.topB B.length = true) (h : exS C fn.body (xs.map some ++ List.replicate (fn.nl - fn.np) none) B = .ok (.rt d) (B' ++ S1))
    (hlen : B'.length = B.length) (hd : frz B.length (B' ++ S1) 4 d = some d') (hl : ∀ c ∈ B', c.low B.length = true) : callFn C fn xs (B ++ R) = .ok d' (B' ++ R) := by
  have et : (B' ++ S1).take B.length = B' := by rw [← hlen]; simp
  have e : frzS B.length (B' ++ S1) = some B' := by
    have := frzS_low (k := B.length) (S := B' ++ S1) fun z hz => hl z (by rwa [et] at hz)
    rw [et] at this
    exact this
  unfold callFn runFn
  rw [hk, shownN ht hc]
  simp only [Bool.false_eq_true, if_false, List.take_left', List.drop_left', h, hd, e]
def intz (xs : List D) : Prop := ∀ x ∈ xs, ∃ z, x = .int z
theorem lows_ints {k : Nat} : ∀ {cs : List D}, intz cs → D.lows k cs = true
  | [], _ => rfl
  | x :: r, h => by
    obtain ⟨z, rfl⟩ := h x List.mem_cons_self
    show (true && D.lows k r) = true
    rw [lows_ints fun y hy => h y (List.mem_cons_of_mem _ hy)]; rfl
theorem tops_ints : ∀ {cs : List D}, intz cs → D.tops cs = 0
  | [], _ => rfl
  | x :: r, h => by
    obtain ⟨z, rfl⟩ := h x List.mem_cons_self
    show max 0 (D.tops r) = 0
    rw [tops_ints fun y hy => h y (List.mem_cons_of_mem _ hy)]; rfl
/-- the mug: what was, great cells, the box -/
def Bx (g K c : Cell) : Prop := (∃ gs, g = .lst gs ∧ intz gs) ∧ (∃ ks, K = .lst ks ∧ intz ks) ∧ ∃ s n : Int, c = .lst [.cell 1, .int s, .int n]
theorem Bx.low {g K c : Cell} (h : Bx g K c) : ∀ z ∈ [g, K, c], z.low 3 = true := by
  obtain ⟨⟨gs, rfl, h1⟩, ⟨ks, rfl, h2⟩, s, n, rfl⟩ := h
  intro z hz
  simp at hz
  rcases hz with rfl | rfl | rfl
  · exact lows_ints h1
  · exact lows_ints h2
  · rfl
theorem Bx.top {g K c : Cell} (h : Bx g K c) : ∀ z ∈ [g, K, c], z.topB 3 = true := by
  obtain ⟨⟨gs, rfl, h1⟩, ⟨ks, rfl, h2⟩, s, n, rfl⟩ := h
  intro z hz
  simp at hz
  rcases hz with rfl | rfl | rfl
  · show decide (D.tops gs ≤ 3) = true; rw [tops_ints h1]; rfl
  · show decide (D.tops ks ≤ 3) = true; rw [tops_ints h2]; rfl
  · rfl
/-- a def that draws of the mug at 2 -/
def Dr (fuel l f : Nat) (args : List D) (P : D → Prop) : Prop := ∀ (g K c : Cell) (R : Store), Bx g K c → ∃ d K' c', callF fs fuel l f (.cell 2 :: args) (g :: K :: c :: R) = .ok d (g :: K' :: c' :: R) ∧ Bx g K' c' ∧ P d
variable {fuel l : Nat}
theorem Dr.mono {f : Nat} {args : List D} {P P' : D → Prop} (h : Dr fuel l f args P) (i : ∀ d, P d → P' d) : Dr fuel l f args P' := fun g K c R b => by
  obtain ⟨d, K', c', h1, h2, h3⟩ := h g K c R b
  exact ⟨d, K', c', h1, h2, i d h3⟩
/-- kept from simp -/
def Hold (P : D → Cell → Cell → Store → Prop) (d : D) (K c : Cell) (S : Store) : Prop := P d K c S
theorem Dr.go {f : Nat} {fn : Fn} {args : List D} {P : D → Prop} (hf : fs[f]? = some fn) (hl : (D.cell 2 :: args).length = fn.np) (hk : fn.keep = false) (ha : D.tops args = 0)
    (h : ∀ g K c, Bx g K c → ∃ d K' c' S', exS ⟨callF fs fuel l, fuel, l⟩ fn.body ((D.cell 2 :: args).map some ++ List.replicate (fn.nl - fn.np) none) [g, K, c] = .ok (.rt d) (g :: K' :: c' :: S') ∧ Hold (fun d K' c' S' => Bx g K' c' ∧ ∃ d', frz 3 (g :: K' :: c' :: S') 4 d = some d' ∧ P d') d K' c' S') : Dr fuel (l + 1) f args P := fun g K c R b => by
  obtain ⟨d, K', c', S', h1, h2, d', h3, h4⟩ := h g K c b
  refine ⟨d', K', c', ?_, h2, h4⟩
  rw [callF_succ hf hl]
  exact call_preZ (B := [g, K, c]) (B' := [g, K', c']) (S1 := S') hk (by show max 3 (D.tops args) = 3; rw [ha]; rfl) b.top h1 rfl h3 h2.low
theorem Dr.go0 {f : Nat} {fn : Fn} {args : List D} {P : D → Prop} (hf : fs[f]? = some fn) (hl : (D.cell 2 :: args).length = fn.np) (hk : fn.keep = false) (ha : D.tops args = 0)
    (h : ∀ g K c, Bx g K c → ∃ d K' c' S', exS ⟨callF fs fuel l, fuel, l⟩ fn.body ((D.cell 2 :: args).map some ++ List.replicate (fn.nl - fn.np) none) [g, K, c] = .ok (.rt d) (g :: K' :: c' :: S') ∧ Hold (fun d K' c' _ => Bx g K' c' ∧ D.free d = true ∧ P d) d K' c' S') : Dr fuel (l + 1) f args P :=
  Dr.go hf hl hk ha fun g K c b => by
    obtain ⟨d, K', c', S', h1, h2, h3, h4⟩ := h g K c b
    exact ⟨d, K', c', S', h1, h2, d, frz_low 4 (low_free h3), h4⟩
theorem ix_last {ks : List D} {z : D} : ixL (ks ++ [z]) (-1) = some z := by
  unfold ixL
  rw [if_pos (by omega), if_neg (by simp; omega)]
  have : (-1 + ((ks ++ [z]).length : Int)).toNat = ks.length := by simp; omega
  rw [this, List.getElem?_append_right (Nat.le_refl _)]
  simp
theorem put_last {S : Store} {n : Nat} {ks : List D} {z v : D} (h : S[n]? = some (.lst (ks ++ [z]))) : putM (.cell n) (.int (-1)) v S = .ok () (S.set n (.lst (ks ++ [v]))) := by
  unfold putM putD
  simp only [h, if_pos (show (-1 : Int) < 0 by omega)]
  rw [if_pos (by simp; omega)]
  have : (-1 + ((ks ++ [z]).length : Int)).toNat = ks.length := by simp; omega
  rw [this]
  simp
theorem len_cell {S : Store} {n : Nat} {xs : List D} (h : S[n]? = some (.lst xs)) : bltD S .len [.cell n] = some (.int xs.length) := by
  show (seqOf S (.cell n)).map (fun ys => D.int ys.length) = _
  have : seqOf S (.cell n) = some xs := by
    show (match S[n]? with
      | some (.lst xs) => some xs
      | none => none) = _
    rw [h]
  rw [this]; rfl
theorem x_augS {C : Cf} {σ : Ev} {S : Store} {o : Bo} {a i e : IE} : exS C (.augS o a i e) σ S = Res.lft (evE C a σ S) σ fun x => liftE (evE C i σ) σ fun k => fun S => match cellIx S x k with
    | some v => liftE (evE C e σ) σ (fun y => liftE (augM o v y) σ fun z => liftE (putM x k z) σ fun _ => M.ret (.nx σ)) S
    | none => .bad := (rfl)
theorem gulp {many : Int} (hm : 1 ≤ many) (hm2 : many < 1073741824) : Dr fuel (l + 1) 12 [.int many] fun d => ∃ n : Nat, d = .int n ∧ (n : Int) < many := by
  refine Dr.go0 (l := l) (show fs[12]? = some f_law_gulp from rfl) rfl rfl rfl fun g K c b => ?_
  have bb := b
  obtain ⟨⟨gs, rfl, h1⟩, ⟨ks, rfl, h2⟩, s, n, rfl⟩ := b
  by_cases hs : many < 2
  · refine ⟨.int 0, .lst ks, .lst [.cell 1, .int s, .int n], [], by simp (disch := (first | decide | assumption | (simp only [List.length_append, List.length_cons, List.length_nil, List.length_map] <;> omega) | omega)) [f_law_gulp, hs], bb, rfl, 0, rfl, by omega⟩
  have t64 : two64 = 18446744073709551616 := rfl
  rcases nil_or_snoc ks with rfl | ⟨qs, x, rfl⟩
  · have hb := len_cell (S := [Cell.lst gs, .lst [], .lst [.cell 1, .int s, .int n]]) (n := 1) rfl
    have p1 := fun v => putM_eq (S := [.lst gs, .lst [], Cell.lst [.cell 1, .int s, .int n]]) (n := 2) (v := v) (i := 2) rfl (by omega) (by simp)
    have e2 : (2 : Int).toNat = 2 := rfl
    simp only [e2, List.set_cons_zero, List.set_cons_succ] at p1
    have p2 := fun v => putM_eq (S := [.lst gs, .lst [], Cell.lst [.cell 1, .int s, .int (n + 1)]]) (n := 2) (v := v) (i := 1) rfl (by omega) (by simp)
    simp only [Int.toNat_one, List.set_cons_zero, List.set_cons_succ] at p2
    generalize hw : (s * 46573 + (n + 1) * 6637 + 43) % 2147482223 = w at *
    have q0 : 0 ≤ (w / 71) % many := Int.emod_nonneg _ (by omega)
    have q1 : (w / 71) % many < many := Int.emod_lt_of_pos _ (by omega)
    have ci : cellIx [Cell.lst gs, .lst [], .lst [.cell 1, .int s, .int n]] (.cell 2) (.int 2) = some (.int n) := rfl
    refine ⟨.int ((w / 71) % many), .lst [], .lst [.cell 1, .int w, .int (n + 1)], [], ?_, ⟨⟨gs, rfl, h1⟩, ⟨[], rfl, h2⟩, _, _, rfl⟩, rfl, ((w / 71) % many).toNat, by rw [Int.toNat_of_nonneg q0], by omega⟩
    simp (disch := (first | decide | assumption | (simp only [List.length_append, List.length_cons, List.length_nil, List.length_map] <;> omega) | omega)) [f_law_gulp, hs, hb, x_augS, ci, augM, p1, p2, t64, hw]
  · obtain ⟨z, rfl⟩ := h2 x (by simp)
    have h2' : intz qs := fun y hy => h2 y (by simp [hy])
    have hb := len_cell (S := [Cell.lst gs, .lst (qs ++ [.int z]), .lst [.cell 1, .int s, .int n]]) (n := 1) rfl
    have p1 := fun v => put_last (S := [Cell.lst gs, .lst (qs ++ [.int z]), .lst [.cell 1, .int s, .int n]]) (n := 1) (v := v) rfl
    have mp := m_pop (S := [Cell.lst gs, .lst (qs ++ [.int (z / many)]), .lst [.cell 1, .int s, .int n]]) (n := 1) rfl
    simp only [List.set_cons_zero, List.set_cons_succ] at p1 mp
    have q0 : 0 ≤ z % many := Int.emod_nonneg _ (by omega)
    have q1 : z % many < many := Int.emod_lt_of_pos _ (by omega)
    have hlen : 0 < (qs ++ [D.int z]).length := by simp
    have q2 : 0 < many := by omega
    by_cases hz : z < many
    · refine ⟨.int (z % many), .lst qs, .lst [.cell 1, .int s, .int n], [], ?_, ⟨⟨gs, rfl, h1⟩, ⟨qs, rfl, h2'⟩, _, _, rfl⟩, rfl, (z % many).toNat, by rw [Int.toNat_of_nonneg q0], by omega⟩
      simp (disch := (first | decide | assumption | (simp only [List.length_append, List.length_cons, List.length_nil, List.length_map] <;> omega) | omega)) [f_law_gulp, hs, hb, hlen, ix_last, p1, hz, mp, recvOk, -List.length_append]
    · refine ⟨.int (z % many), .lst (qs ++ [.int (z / many)]), .lst [.cell 1, .int s, .int n], [], ?_, ⟨⟨gs, rfl, h1⟩, ⟨_, rfl, fun y hy => ?_⟩, _, _, rfl⟩, rfl, (z % many).toNat, by rw [Int.toNat_of_nonneg q0], by omega⟩
      · simp (disch := (first | decide | assumption | (simp only [List.length_append, List.length_cons, List.length_nil, List.length_map] <;> omega) | omega)) [f_law_gulp, hs, hb, hlen, ix_last, p1, hz, mp, recvOk, -List.length_append]
      · rcases List.mem_append.mp hy with g | g
        · exact h2' y g
        · exact ⟨_, List.mem_singleton.mp g⟩
end Lw
set_option linter.all false
set_option maxRecDepth 100000
set_option maxHeartbeats 4000000
set_option exponentiation.threshold 2000
/-! K5c: what is drawn. -/
namespace Lw
open Fb
variable {fuel l : Nat}
theorem draw_of {xs : List D} (hx : xs ≠ []) (hl : xs.length ≤ 1000) (hf : D.frees xs = true) : Dr fuel (l + 2) 13 [.tup xs] fun d => d ∈ xs := by
  refine Dr.go0 (l := l + 1) (show fs[13]? = some f_law_of from rfl) rfl rfl (tops_free (by simp [D.frees, D.free, hf])) fun g K c b => ?_
  have hp : 0 < xs.length := List.length_pos_iff.mpr hx
  obtain ⟨d, K1, c1, e1, b1, n, rfl, hn⟩ := gulp (fuel := fuel) (l := l) (many := xs.length) (by omega) (by omega) g K c [] b
  have hn2 : n < xs.length := by omega
  refine ⟨xs[n], K1, c1, [], ?_, b1, frees_mem.mp hf _ (List.getElem_mem hn2), List.getElem_mem hn2⟩
  have q0 : (0 : Int) ≤ (n : Int) := by omega
  simp (disch := (first | decide | assumption | (simp only [List.length_append, List.length_cons, List.length_nil, List.length_map] <;> omega) | omega)) [f_law_of, e1, hn2]
/-- small enough -/
def Sm (i : Int) : Prop := i.natAbs < 10 ^ 41
theorem number : Dr fuel (l + 3) 15 [] fun d => ∃ i, d = .int i ∧ Sm i := by
  refine Dr.go0 (l := l + 2) (show fs[15]? = some f_law_number from rfl) rfl rfl rfl fun g K c b => ?_
  obtain ⟨d1, K1, c1, e1, b1, n1, rfl, h1⟩ := gulp (fuel := fuel) (l := l + 1) (many := 10) (by omega) (by omega) g K c [] b
  obtain ⟨d2, K2, c2, e2, b2, n2, rfl, h2⟩ := gulp (fuel := fuel) (l := l + 1) (many := 10) (by omega) (by omega) g K1 c1 [] b1
  obtain ⟨d3, K3, c3, e3, b3, n3, rfl, h3⟩ := gulp (fuel := fuel) (l := l + 1) (many := 3) (by omega) (by omega) g K2 c2 [] b2
  obtain ⟨d4, K4, c4, e4, b4, n4, rfl, h4⟩ := gulp (fuel := fuel) (l := l + 1) (many := 1000000) (by omega) (by omega) g K3 c3 [] b3
  have t64 : two64 = 18446744073709551616 := rfl
  have p1 := fun S : Store => o_pow (i := 10) (j := 40) (S := S) (by decide)
  have p2 := fun S : Store => o_pow (i := 10) (j := 30) (S := S) (by decide)
  have p3 := fun S : Store => o_pow (i := 10) (j := 6) (S := S) (by decide)
  have z1 : (10 : Int) ^ (40 : Int).toNat = 10000000000000000000000000000000000000000 := by decide
  have z2 : (10 : Int) ^ (30 : Int).toNat = 1000000000000000000000000000000 := by decide
  have z3 : (10 : Int) ^ (6 : Int).toNat = 1000000 := by decide
  rw [z1] at p1; rw [z2] at p2; rw [z3] at p3
  obtain ⟨d5, K5, c5, e5, b5, h5⟩ := draw_of (fuel := fuel) (l := l) (xs := [.int 0, .int n1, .int (-n2), .int (10000000000000000000000000000000000000000 - n3), .int (-1000000000000000000000000000000), .int n4]) (by simp) (by simp) rfl g K4 c4 [] b4
  refine ⟨d5, K5, c5, [], by simp (disch := (first | decide | assumption | (simp only [List.length_append, List.length_cons, List.length_nil, List.length_map] <;> omega) | omega)) [f_law_number, e1, e2, e3, p1, p2, p3, e4, e5], b5, ?_⟩
  have : ∃ i, d5 = .int i ∧ Sm i := by
    have sm : ∀ i : Int, -10000000000000000000000000000000000000000 ≤ i → i ≤ 10000000000000000000000000000000000000000 → Sm i := fun i g1 g2 => by
      show i.natAbs < 100000000000000000000000000000000000000000
      omega
    simp only [List.mem_cons, List.not_mem_nil, or_false] at h5
    rcases h5 with h5 | h5 | h5 | h5 | h5 | h5 <;> exact ⟨_, h5, sm _ (by omega) (by omega)⟩
  obtain ⟨i, rfl, hi⟩ := this
  exact ⟨rfl, i, rfl, hi⟩
end Lw
set_option linter.all false
set_option maxRecDepth 100000
set_option maxHeartbeats 8000000
/-! K5d: a drawn state. -/
namespace Lw
open Fb
variable {fuel l : Nat}
theorem compM_px {f : D → M (Option D)} (I : Store → Prop) (P : D → Prop) : ∀ {xs : List D} {k : Nat} {S : Store}, (∀ x ∈ xs, ∀ S, I S → ∃ o S', f x S = .ok o S' ∧ I S' ∧ ∀ y, o = some y → P y) → xs.length + k ≤ 16777216 → I S →
    ∃ ys S', compM f xs k S = .ok ys S' ∧ (∀ y ∈ ys, P y) ∧ ys.length ≤ xs.length ∧ I S'
  | [], k, S, _, _, h => ⟨[], S, rfl, fun y hy => (nomatch hy), Nat.le_refl _, h⟩
  | x :: r, k, S, hx, hl, h => by
    simp only [List.length_cons] at hl
    obtain ⟨o, S1, e1, i1, p1⟩ := hx x List.mem_cons_self S h
    cases o with
    | none =>
      obtain ⟨ys, S2, e2, p2, l2, i2⟩ := compM_px I P (xs := r) (k := k) (fun z hz => hx z (List.mem_cons_of_mem _ hz)) (by omega) i1
      refine ⟨ys, S2, ?_, p2, by simp; omega, i2⟩
      show Res.bnd (f x S) _ = _
      rw [e1]; exact e2
    | some y =>
      obtain ⟨ys, S2, e2, p2, l2, i2⟩ := compM_px I P (xs := r) (k := k + 1) (fun z hz => hx z (List.mem_cons_of_mem _ hz)) (by omega) i1
      refine ⟨y :: ys, S2, ?_, fun z hz => ?_, by simp; omega, i2⟩
      · show Res.bnd (f x S) _ = _
        rw [e1]
        show (if k < SL then M.bind (compM f r (k + 1)) fun ys => M.ret (y :: ys) else M.bad) S1 = _
        rw [if_pos (show k < SL by show k < 16777216; omega)]
        show Res.bnd (compM f r (k + 1) S1) _ = _
        rw [e2]; rfl
      · rcases List.mem_cons.mp hz with e | e
        · rw [e]; exact p1 y rfl
        · exact p2 z e
theorem el_t {C : Cf} {own : List Nat} {i : Nat} {c e : IE} {σ : Ev} {x y : D} {S S1 S2 : Store} (hc : evT C c ((wipeE σ own).set i (some x)) S = .ok true S1) (h : evE C e ((wipeE σ own).set i (some x)) S1 = .ok y S2) : elG C own (.nm i) (.cons c .nil) e σ x S = .ok (some y) S2 := by
  have e2 : (M.bind (evC C (.cons c .nil) ((wipeE σ own).set i (some x))) (fun t => if t then M.bind (evE C e ((wipeE σ own).set i (some x))) fun y => M.ret (some y) else M.ret none) S : Res (Option D)) = .ok (some y) S2 := by
    show Res.bnd (evT C c ((wipeE σ own).set i (some x)) S) _ = _
    rw [hc]
    show Res.bnd (evE C e ((wipeE σ own).set i (some x)) S1) _ = _
    rw [h]; rfl
  unfold elG M.nox patE
  simp only
  rw [e2]
theorem el_f {C : Cf} {own : List Nat} {i : Nat} {c e : IE} {σ : Ev} {x : D} {S S1 : Store} (hc : evT C c ((wipeE σ own).set i (some x)) S = .ok false S1) : elG C own (.nm i) (.cons c .nil) e σ x S = .ok none S1 := by
  have e2 : (M.bind (evC C (.cons c .nil) ((wipeE σ own).set i (some x))) (fun t => if t then M.bind (evE C e ((wipeE σ own).set i (some x))) fun y => M.ret (some y) else M.ret none) S : Res (Option D)) = .ok none S1 := by
    show Res.bnd (evT C c ((wipeE σ own).set i (some x)) S) _ = _
    rw [hc]; rfl
  unfold elG M.nox patE
  simp only
  rw [e2]
def tyA : List (List Nat) := [[98, 111, 120], [116, 119, 111], [98], [105, 110, 116], [100, 111, 116]]
def nmA : List (List Nat) := [[102], [109, 97, 105, 110], [117, 112, 97, 110, 100, 100, 110]]
def vaA : List (List Nat) := [[97], [98], [110], [114], [115, 116, 97, 116, 101], [120, 120]]
structure Fm where
  nm : List Nat
  ty : List (List Nat)
  pl : Int
  vs : List (List Nat × Int)
structure Fm.Ok (f : Fm) : Prop where
  nm : f.nm ∈ nmA
  tl : f.ty.length ≤ 5
  ty : ∀ t ∈ f.ty, t ∈ tyA
  pl : 0 ≤ f.pl ∧ f.pl ≤ 40
  vl : f.vs.length ≤ 6
  vs : ∀ p ∈ f.vs, p.1 ∈ vaA ∧ Sm p.2
def pairD (p : List Nat × Int) : D := .tup [.str p.1, .int p.2]
def Fm.d (f : Fm) : D := .tup [.tup [.str f.nm, .tup (f.ty.map .str)], .int f.pl, .tup (f.vs.map pairD)]
structure Stt where
  st : Int
  os : List Int
  fr : List Fm
structure Stt.Ok (s : Stt) : Prop where
  st : 0 ≤ s.st ∧ s.st ≤ 2000
  ol : s.os.length ≤ 4
  os : ∀ i ∈ s.os, Sm i
  fl : s.fr.length ≤ 6
  fr : ∀ f ∈ s.fr, f.Ok
def Stt.d (s : Stt) : D := .tup [.int s.st, .tup (s.os.map .int), .tup (s.fr.map Fm.d)]
theorem list_of {α : Type} {f : α → D} {P : D → Prop} {Q : α → Prop} (h : ∀ y, P y → ∃ a, y = f a ∧ Q a) : ∀ {ys : List D}, (∀ y ∈ ys, P y) → ∃ as : List α, ys = as.map f ∧ ∀ a ∈ as, Q a
  | [], _ => ⟨[], rfl, fun _ z => (nomatch z)⟩
  | y :: r, hy => by
    obtain ⟨a, rfl, ha⟩ := h y (hy y List.mem_cons_self)
    obtain ⟨as, rfl, has⟩ := list_of h fun z hz => hy z (List.mem_cons_of_mem _ hz)
    refine ⟨a :: as, rfl, fun z hz => ?_⟩
    rcases List.mem_cons.mp hz with e | e
    · rw [e]; exact ha
    · exact has z e
theorem pair_frees (vs : List (List Nat × Int)) : D.frees (vs.map pairD) = true := frees_mem.mpr fun d hd => by
  obtain ⟨p, _, rfl⟩ := List.mem_map.mp hd
  rfl
theorem Fm.free (f : Fm) : D.free f.d = true := by
  simp [Fm.d, D.free, D.frees, frees_strs, pair_frees]
theorem frs_free (fs : List Fm) : D.frees (fs.map Fm.d) = true := frees_mem.mpr fun d hd => by
  obtain ⟨p, _, rfl⟩ := List.mem_map.mp hd
  exact p.free
theorem ints_free (is : List Int) : D.frees (is.map D.int) = true := frees_mem.mpr fun d hd => by
  obtain ⟨p, _, rfl⟩ := List.mem_map.mp hd
  rfl
theorem Stt.free (s : Stt) : D.free s.d = true := by
  simp [Stt.d, D.free, D.frees, frs_free, ints_free]
/-- a frame -/
theorem frame_draw {g K c : Cell} (b : Bx g K c) {fr : List Fm} (hl : fr.length ≤ 100) {v3 v4 v5 v6 v7 v8 v9 v10 : Option D} {i many : Nat} (hm : many ≤ 6) (hi : i < many) : ∃ f K' c' w5 w6 w7 w8 w9 w10, Fm.Ok f ∧ Bx g K' c' ∧
    exS ⟨callF fs fuel (l + 4), fuel, l + 4⟩ f_law_state_b1 [some (.cell 2), some (.cell 3), some (.int many), some (.int i), v4, v5, v6, v7, v8, v9, v10] [g, K, c, .lst (fr.map Fm.d)] = .ok (.nx [some (.cell 2), some (.cell 3), some (.int many), some (.int i), v4, w5, w6, w7, w8, w9, w10]) [g, K', c', .lst ((fr ++ [f]).map Fm.d)] := by
  obtain ⟨d0, K0, c0, e0, b0, n0, rfl, h0⟩ := gulp (fuel := fuel) (l := l + 3) (many := 5) (by omega) (by omega) g K c [.lst (fr.map Fm.d)] b
  obtain ⟨ys, S1, e1, p1, l1, K1, c1, rfl, b1⟩ := compM_ex (f := elG ⟨callF fs fuel (l + 4), fuel, l + 4⟩ [10] (.nm 10) .nil f_law_state_e4 [some (.cell 2), some (.cell 3), some (.int many), some (.int i), v4, v5, v6, v7, v8, v9, v10]) (fun S => ∃ K c, S = [g, K, c, .lst (fr.map Fm.d)] ∧ Bx g K c) (fun y => y ∈ [D.str [98, 111, 120], .str [116, 119, 111], .str [98]]) (xs := rngD 0 n0) (k := 0) (S := [g, K0, c0, .lst (fr.map Fm.d)])
    (fun x _ S ⟨K, c, e, b⟩ => by
      subst e
      obtain ⟨d, K', c', e, b', h⟩ := draw_of (fuel := fuel) (l := l + 2) (xs := [D.str [98, 111, 120], .str [116, 119, 111], .str [98]]) (by simp) (by simp) rfl g K c [.lst (fr.map Fm.d)] b
      exact ⟨d, _, el_nm (by simp (disch := (first | decide | assumption | (simp only [List.length_append, List.length_cons, List.length_nil, List.length_map] <;> omega) | omega)) [wipeE, f_law_state_e4, e]), h, K', c', rfl, b'⟩) (by rw [rng_len]; omega) ⟨K0, c0, rfl, b0⟩
  rw [rng_len] at l1
  obtain ⟨ts, rfl, ht⟩ := list_of (f := D.str) (Q := fun t => t ∈ tyA) (fun y hy => by
    simp only [List.mem_cons, List.not_mem_nil, or_false] at hy
    rcases hy with rfl | rfl | rfl <;> exact ⟨_, rfl, by decide⟩) p1
  obtain ⟨d2, K2, c2, e2, b2, h2⟩ := draw_of (fuel := fuel) (l := l + 2) (xs := [D.str [102], .str [109, 97, 105, 110], .str [117, 112, 97, 110, 100, 100, 110]]) (by simp) (by simp) rfl g K1 c1 [.lst (fr.map Fm.d)] b1
  obtain ⟨nm, rfl, hnm⟩ : ∃ nm, d2 = .str nm ∧ nm ∈ nmA := by
    simp only [List.mem_cons, List.not_mem_nil, or_false] at h2
    rcases h2 with rfl | rfl | rfl <;> exact ⟨_, rfl, by decide⟩
  obtain ⟨d3, K3, c3, e3, b3, h3⟩ := draw_of (fuel := fuel) (l := l + 2) (xs := [D.str [105, 110, 116], .str [100, 111, 116]]) (by simp) (by simp) rfl g K2 c2 [.lst (fr.map Fm.d)] b2
  obtain ⟨gr, rfl, hgr⟩ : ∃ gr, d3 = .str gr ∧ gr ∈ tyA := by
    simp only [List.mem_cons, List.not_mem_nil, or_false] at h3
    rcases h3 with rfl | rfl <;> exact ⟨_, rfl, by decide⟩
  generalize hσ : [some (D.cell 2), some (.cell 3), some (.int many), some (.int i), v4, some (.tup (ts.map .str)), some (.tup [.str nm, .tup (ts.map .str ++ [.str gr])]), v7, v8, v9, v10] = σ at *
  obtain ⟨zs, S4, e4, p4, l4, K4, c4, rfl, b4⟩ := compM_px (f := elG ⟨callF fs fuel (l + 4), fuel, l + 4⟩ [9] (.nm 9) (.cons f_law_state_c3 .nil) f_law_state_e3 σ) (fun S => ∃ K c, S = [g, K, c, .lst (fr.map Fm.d)] ∧ Bx g K c) (fun y => y ∈ vaA.map D.str) (xs := vaA.map D.str) (k := 0) (S := [g, K3, c3, .lst (fr.map Fm.d)])
    (fun x hx S ⟨K, c, e, b⟩ => by
      subst e hσ
      obtain ⟨d, K', c', e, b', n, rfl, hn⟩ := gulp (fuel := fuel) (l := l + 3) (many := 2) (by omega) (by omega) g K c [.lst (fr.map Fm.d)] b
      by_cases hz : n = 0
      · subst hz
        exact ⟨some x, _, el_t (S1 := [g, K', c', .lst (fr.map Fm.d)]) (by simp (disch := (first | decide | assumption | (simp only [List.length_append, List.length_cons, List.length_nil, List.length_map] <;> omega) | omega)) [wipeE, f_law_state_c3, e]) (by simp (disch := (first | decide | assumption | (simp only [List.length_append, List.length_cons, List.length_nil, List.length_map] <;> omega) | omega)) [wipeE, f_law_state_e3]), ⟨K', c', rfl, b'⟩, fun y hy => by cases hy; exact hx⟩
      · exact ⟨none, _, el_f (S1 := [g, K', c', .lst (fr.map Fm.d)]) (by simp (disch := (first | decide | assumption | (simp only [List.length_append, List.length_cons, List.length_nil, List.length_map] <;> omega) | omega)) [wipeE, f_law_state_c3, e, hz]), ⟨K', c', rfl, b'⟩, fun y hy => by cases hy⟩) (by simp [vaA]) ⟨K3, c3, rfl, b3⟩
  obtain ⟨ns, rfl, hns⟩ := list_of (f := D.str) (Q := fun t => t ∈ vaA) (fun y hy => by
    obtain ⟨t, h, rfl⟩ := List.mem_map.mp hy
    exact ⟨t, rfl, h⟩) p4
  have l4 : ns.length ≤ 6 := by simpa [vaA] using l4
  obtain ⟨d5, K5, c5, e5, b5, n5, rfl, h5⟩ := gulp (fuel := fuel) (l := l + 3) (many := 30) (by omega) (by omega) g K4 c4 [.lst (fr.map Fm.d)] b4
  have hbi : (if ((i : Int) + 1 < (many : Int)) then (1 : Int) else 0) = 0 ∨ (if ((i : Int) + 1 < (many : Int)) then (1 : Int) else 0) = 1 := by
    by_cases h : ((i : Int) + 1 < (many : Int)) <;> simp [h]
  have hbt : ∀ S : Store, bltD S .int [.bl (decide ((i : Int) + 1 < (many : Int)))] = some (.int (if ((i : Int) + 1 < (many : Int)) then 1 else 0)) := fun S => by
    show some (D.int (if decide ((i : Int) + 1 < (many : Int)) = true then 1 else 0)) = _
    simp
  generalize hu : (if ((i : Int) + 1 < (many : Int)) then (1 : Int) else 0) = u at *
  subst hσ
  generalize hσ : [some (D.cell 2), some (.cell 3), some (.int many), some (.int i), v4, some (.tup (ts.map .str)), some (.tup [.str nm, .tup (ts.map .str ++ [.str gr])]), some (.lst (ns.map .str)), some (.int (u + n5)), v9, v10] = σ at *
  have all : ∀ (ns : List (List Nat)) (k : Nat) (K c : Cell), ns.length + k ≤ 16777216 → (∀ t ∈ ns, t ∈ vaA) → Bx g K c → ∃ (vs : List (List Nat × Int)) (K' c' : Cell), compM (elG ⟨callF fs fuel (l + 4), fuel, l + 4⟩ [9] (.nm 9) .nil f_law_state_e2 σ) (ns.map .str) k [g, K, c, .lst (fr.map Fm.d)] = .ok (vs.map pairD) [g, K', c', .lst (fr.map Fm.d)] ∧ vs.length = ns.length ∧ (∀ p ∈ vs, p.1 ∈ vaA ∧ Sm p.2) ∧ Bx g K' c' := by
    intro ns
    induction ns with
    | nil => exact fun k K c _ _ b => ⟨[], K, c, rfl, rfl, (fun _ z => (nomatch z)), b⟩
    | cons t r ih =>
      intro k K c hk ha b
      obtain ⟨d, K', c', e, b', j, rfl, hj⟩ := number (fuel := fuel) (l := l + 1) g K c [.lst (fr.map Fm.d)] b
      obtain ⟨vs, K2, c2, e2, h1, h2, b2⟩ := ih (k + 1) K' c' (by simp at hk; omega) (fun y hy => ha y (List.mem_cons_of_mem _ hy)) b'
      refine ⟨(t, j) :: vs, K2, c2, ?_, by simp [h1], fun p hp => ?_, b2⟩
      · have e9 : elG ⟨callF fs fuel (l + 4), fuel, l + 4⟩ [9] (.nm 9) .nil f_law_state_e2 σ (.str t) [g, K, c, .lst (fr.map Fm.d)] = .ok (some (pairD (t, j))) [g, K', c', .lst (fr.map Fm.d)] := el_nm (by subst hσ; simp (disch := (first | decide | assumption | (simp only [List.length_append, List.length_cons, List.length_nil, List.length_map] <;> omega) | omega)) [wipeE, f_law_state_e2, e, pairD])
        rw [List.map_cons]
        show Res.bnd (elG ⟨callF fs fuel (l + 4), fuel, l + 4⟩ [9] (.nm 9) .nil f_law_state_e2 σ (.str t) [g, K, c, .lst (fr.map Fm.d)]) _ = _
        rw [e9]
        show (if k < SL then M.bind (compM _ (r.map .str) (k + 1)) fun ys => M.ret (pairD (t, j) :: ys) else M.bad) [g, K', c', .lst (fr.map Fm.d)] = _
        rw [if_pos (show k < SL by show k < 16777216; simp at hk; omega)]
        show Res.bnd (compM _ (r.map .str) (k + 1) [g, K', c', .lst (fr.map Fm.d)]) _ = _
        rw [e2]; rfl
      · rcases List.mem_cons.mp hp with rfl | hp
        · exact ⟨ha t List.mem_cons_self, hj⟩
        · exact h2 p hp
  obtain ⟨vs, K6, c6, e6, l6, p6, b6⟩ := all ns 0 K5 c5 (by omega) hns b5
  subst hσ
  have f0 : ∀ S : Store, rngM (.int (n0 : Int)) S = .ok (.xs (rngD 0 n0)) S := fun S => rngM_nat (by omega)
  have eA := m_app (S := [g, K6, c6, Cell.lst (fr.map Fm.d)]) (n := 3) (xs := fr.map Fm.d) (y := .tup [.tup [.str nm, .tup (ts.map .str ++ [.str gr])], .int (u + n5), .tup (vs.map pairD)]) rfl (by simp; omega)
  have e4' : ∀ S, compM (elG ⟨callF fs fuel (l + 4), fuel, l + 4⟩ [9] (.nm 9) (.cons f_law_state_c3 .nil) f_law_state_e3 S) [D.str [97], .str [98], .str [110], .str [114], .str [115, 116, 97, 116, 101], .str [120, 120]] 0 = compM (elG ⟨callF fs fuel (l + 4), fuel, l + 4⟩ [9] (.nm 9) (.cons f_law_state_c3 .nil) f_law_state_e3 S) (vaA.map D.str) 0 := fun S => rfl
  have hts : ts.length = n0 := by simpa using l1
  have ok : Fm.Ok ⟨nm, ts ++ [gr], u + n5, vs⟩ := by
    refine ⟨hnm, ?_, fun t ht' => ?_, ?_, ?_, p6⟩
    · show (ts ++ [gr]).length ≤ 5
      simp; omega
    · rcases List.mem_append.mp ht' with h | h
      · exact ht t h
      · rw [List.mem_singleton.mp h]; exact hgr
    · show 0 ≤ u + n5 ∧ u + n5 ≤ 40
      rcases hbi with h | h <;> omega
    · show vs.length ≤ 6
      omega
  refine ⟨_, K6, c6, some (.tup (ts.map .str)), some (.tup [.str nm, .tup (ts.map .str ++ [.str gr])]), some (.lst (ns.map .str)), some (.int (u + n5)), v9, v10, ok, b6, ?_⟩
  simp (disch := (first | decide | assumption | (simp only [List.length_append, List.length_cons, List.length_nil, List.length_map] <;> omega) | omega)) [-x_comp, x_comp2, f_law_state_b1, e0, f0, e1, e2, e3, e4', e4, e5, hbt, e6, eA, recvOk, srcD, Fm.d]
end Lw
set_option linter.all false
set_option maxRecDepth 100000
set_option maxHeartbeats 8000000
set_option exponentiation.threshold 4000
/-! K5e: a state and its lines. -/
namespace Lw
open Fb
variable {fuel l : Nat}
theorem b_tupC {S : Store} {n : Nat} {xs : List D} (h : S[n]? = some (.lst xs)) : bltD S .tuple [.cell n] = some (.tup xs) := by
  show (seqOf S (.cell n)).map D.tup = _
  have : seqOf S (.cell n) = some xs := by
    show (match S[n]? with
      | some (.lst xs) => some xs
      | none => none) = _
    rw [h]
  rw [this]; rfl
theorem state : Dr fuel (l + 5) 16 [] fun d => ∃ s : Stt, d = s.d ∧ s.Ok := by
  refine Dr.go0 (l := l + 4) (show fs[16]? = some f_law_state from rfl) rfl rfl rfl fun g K c b => ?_
  obtain ⟨d0, K0, c0, e0, b0, n0, rfl, h0⟩ := gulp (fuel := fuel) (l := l + 3) (many := 6) (by omega) (by omega) g K c [.lst []] b
  have em : ((1 : Int) + (n0 : Int)) = ((1 + n0 : Nat) : Int) := by omega
  generalize hm : 1 + n0 = many at *
  obtain ⟨σ1, S1, e1, fr, K1, c1, w3, w5, w6, w7, w8, w9, w10, rfl, rfl, hfl, hfr, b1⟩ := forL_ix (f := patB (.nm 3) fun σ' => exS ⟨callF fs fuel (l + 4), fuel, l + 4⟩ f_law_state_b1 σ') (fun j σ S => ∃ (fr : List Fm) (K c : Cell) (v3 v5 v6 v7 v8 v9 v10 : Option D), σ = [some (.cell 2), some (.cell 3), some (.int many), v3, none, v5, v6, v7, v8, v9, v10] ∧ S = [g, K, c, .lst (fr.map Fm.d)] ∧ fr.length = j ∧ (∀ f ∈ fr, f.Ok) ∧ Bx g K c)
    (xs := rngD 0 many) (j := 0) (σ := [some (.cell 2), some (.cell 3), some (.int many), none, none, none, none, none, none, none, none]) (S := [g, K0, c0, .lst []])
    (fun i x σ S hx ⟨fr, K, c, v3, v5, v6, v7, v8, v9, v10, e1, e2, hl, hf, b⟩ => by
      obtain ⟨rfl, hi⟩ := rng_at hx
      subst e1 e2
      obtain ⟨f, K', c', u5, u6, u7, u8, u9, u10, hok, b', e⟩ := frame_draw (fuel := fuel) (l := l) b (fr := fr) (v3 := v3) (v4 := none) (v5 := v5) (v6 := v6) (v7 := v7) (v8 := v8) (v9 := v9) (v10 := v10) (i := i) (many := many) (by omega) (by omega) hi
      exact ⟨_, _, e, fr ++ [f], K', c', _, _, _, _, _, _, _, rfl, rfl, by simp; omega, fun y hy => by
        rcases List.mem_append.mp hy with h | h
        · exact hf y h
        · rw [List.mem_singleton.mp h]; exact hok, b'⟩) ⟨[], K0, c0, none, none, none, none, none, none, none, rfl, rfl, rfl, (fun _ z => (nomatch z)), b0⟩
  have hfl : fr.length = many := by rw [rng_len] at hfl; omega
  obtain ⟨d2, K2, c2, e2, b2, n2, rfl, h2⟩ := gulp (fuel := fuel) (l := l + 3) (many := 5) (by omega) (by omega) g K1 c1 [.lst (fr.map Fm.d)] b1
  generalize hσ : [some (D.cell 2), some (.cell 3), some (.int many), w3, none, w5, w6, w7, w8, w9, w10] = σ at *
  obtain ⟨ys, S3, e3, p3, l3, K3, c3, rfl, b3⟩ := compM_ex (f := elG ⟨callF fs fuel (l + 4), fuel, l + 4⟩ [10] (.nm 10) .nil f_law_state_e0 σ) (fun S => ∃ K c, S = [g, K, c, .lst (fr.map Fm.d)] ∧ Bx g K c) (fun y => ∃ i, y = .int i ∧ Sm i) (xs := rngD 0 n2) (k := 0) (S := [g, K2, c2, .lst (fr.map Fm.d)])
    (fun x _ S ⟨K, c, e, b⟩ => by
      subst e hσ
      obtain ⟨d, K', c', e, b', h⟩ := number (fuel := fuel) (l := l + 1) g K c [.lst (fr.map Fm.d)] b
      exact ⟨d, _, el_nm (by simp (disch := (first | decide | assumption | (simp only [List.length_append, List.length_cons, List.length_nil, List.length_map] <;> omega) | omega)) [wipeE, f_law_state_e0, e]), h, K', c', rfl, b'⟩) (by rw [rng_len]; omega) ⟨K2, c2, rfl, b2⟩
  rw [rng_len] at l3
  obtain ⟨os, rfl, hos⟩ := list_of (f := D.int) (Q := Sm) (fun y hy => hy) p3
  obtain ⟨d4, K4, c4, e4, b4, n4, rfl, h4⟩ := gulp (fuel := fuel) (l := l + 3) (many := 2000) (by omega) (by omega) g K3 c3 [.lst (fr.map Fm.d)] b3
  obtain ⟨d5, K5, c5, e5, b5, h5⟩ := draw_of (fuel := fuel) (l := l + 2) (xs := [D.int 0, .int 1, .int n4]) (by simp) (by simp) rfl g K4 c4 [.lst (fr.map Fm.d)] b4
  obtain ⟨st, rfl, hst⟩ : ∃ st, d5 = .int st ∧ 0 ≤ st ∧ st ≤ 2000 := by
    simp only [List.mem_cons, List.not_mem_nil, or_false] at h5
    rcases h5 with rfl | rfl | rfl <;> exact ⟨_, rfl, by omega, by omega⟩
  have f2 : ∀ S : Store, rngM (.int (n2 : Int)) S = .ok (.xs (rngD 0 n2)) S := fun S => rngM_nat (by omega)
  have f0 : ∀ S : Store, rngM (.int (many : Int)) S = .ok (.xs (rngD 0 many)) S := fun S => rngM_nat (by omega)
  have et := b_tupC (S := [g, K5, c5, Cell.lst (fr.map Fm.d)]) (n := 3) rfl
  have hol : os.length = n2 := by simpa using l3
  have ok : Stt.Ok ⟨st, os, fr⟩ := by
    refine ⟨hst, ?_, hos, ?_, hfr⟩
    · show os.length ≤ 4; omega
    · show fr.length ≤ 6; omega
  refine ⟨Stt.d ⟨st, os, fr⟩, K5, c5, [.lst (fr.map Fm.d)], ?_, b5, Stt.free _, ⟨st, os, fr⟩, rfl, ok⟩
  have e1' : forL (patB (.nm 3) fun σ' => exS ⟨callF fs fuel (l + 4), fuel, l + 4⟩ f_law_state_b1 σ') (rngD 0 many) [some (.cell 2), some (.cell 3), some (.int many), none, none, none, none, none, none, none, none] [g, K0, c0, .lst []] = .ok (.nx σ) [g, K1, c1, .lst (fr.map Fm.d)] := e1
  subst hσ
  simp (disch := (first | decide | assumption | (simp only [List.length_append, List.length_cons, List.length_nil, List.length_map] <;> omega) | omega)) [-x_comp, x_comp2, f_law_state, e0, em, f0, e1', e2, f2, e3, e4, e5, et, Stt.d]
/-! ### the lines of a state -/
def flat (vs : List (List Nat × Int)) : List (List Nat) := vs.flatMap fun p => [p.1, intText p.2]
def Fm.ws (f : Fm) : List (List Nat) := [102, 114, 97, 109, 101] :: f.nm :: (f.ty ++ [97, 116] :: intText f.pl :: flat f.vs)
def Stt.ws (s : Stt) : List (List (List Nat)) := [[115, 116, 101, 112, 115], intText s.st] :: ([111, 117, 116] :: s.os.map intText) :: s.fr.map Fm.ws
def lw (ws : List (List Nat)) : D := .lst (ws.map .str)
theorem Sm.b {i : Int} (h : Sm i) {S : Store} : bltD S .str [.int i] = some (.str (intText i)) := b_str (Nat.lt_trans h (by decide))
theorem flat_len (vs : List (List Nat × Int)) : (flat vs).length = 2 * vs.length := by
  induction vs with
  | nil => rfl
  | cons p r ih => simp [flat] at ih ⊢; omega
theorem lines_in {C : Cf} {v0 v1 v2 v3 v4 v5 v6 v7 v11 : Option D} {S : Store} : ∀ (vs : List (List Nat × Int)) (acc : List (List Nat)) (v9 v10 : Option D), (∀ p ∈ vs, Sm p.2) → acc.length + 2 * vs.length ≤ 10000 →
    ∃ w9 w10, forL (patB (.tp [9, 10]) fun σ' => exS C f_law_lines_b1 σ') (vs.map pairD) [v0, v1, v2, v3, v4, v5, v6, v7, some (lw acc), v9, v10, v11] S = .ok (.nx [v0, v1, v2, v3, v4, v5, v6, v7, some (lw (acc ++ flat vs)), w9, w10, v11]) S
  | [], acc, v9, v10, _, _ => ⟨v9, v10, by simp [flat, forL_nil]⟩
  | p :: r, acc, v9, v10, h, hl => by
    simp only [List.length_cons] at hl
    have hb := fun S => (h p List.mem_cons_self).b (S := S)
    obtain ⟨w9, w10, e⟩ := lines_in (C := C) (v0 := v0) (v1 := v1) (v2 := v2) (v3 := v3) (v4 := v4) (v5 := v5) (v6 := v6) (v7 := v7) (v11 := v11) (S := S) r (acc ++ [p.1, intText p.2]) (some (.str p.1)) (some (.int p.2)) (fun q hq => h q (List.mem_cons_of_mem _ hq)) (by simp; omega)
    refine ⟨w9, w10, ?_⟩
    rw [List.map_cons, forL_nx (σ' := [v0, v1, v2, v3, v4, v5, v6, v7, some (lw (acc ++ [p.1, intText p.2])), some (.str p.1), some (.int p.2), v11]) (S' := S) ?_, e]
    · simp [flat, lw]
    · have e8 : ∀ S : Store, binM .add (.lst (acc.map .str)) (.lst [.str p.1, .str (intText p.2)]) S = .ok (.lst (acc.map .str ++ [.str p.1, .str (intText p.2)])) S := fun S => o_addL (by simp; omega)
      simp (disch := (first | decide | assumption | (simp only [List.length_append, List.length_cons, List.length_nil, List.length_map] <;> omega) | omega)) [pairD, f_law_lines_b1, hb, lw, e8]
theorem frame_line {C : Cf} {f : Fm} (hf : f.Ok) {done : List (List (List Nat))} (hl : done.length ≤ 100) {v0 v2 v3 v4 v5 v6 v7 v8 v9 v10 v11 : Option D} : ∃ w9 w10, patB (.tp [5, 6, 7]) (fun σ' => exS C f_law_lines_b0 σ') f.d [v0, some (.cell 0), v2, v3, v4, v5, v6, v7, v8, v9, v10, v11] [.lst (done.map lw)] = .ok (.nx [v0, some (.cell 0), v2, v3, v4, some (.tup [.str f.nm, .tup (f.ty.map .str)]), some (.int f.pl), some (.tup (f.vs.map pairD)), some (lw f.ws), w9, w10, v11]) [.lst ((done ++ [f.ws]).map lw)] := by
  have hp : ∀ S : Store, bltD S .str [.int f.pl] = some (.str (intText f.pl)) := fun S => b_str (Nat.lt_trans (show f.pl.natAbs < 10 ^ 41 by have := hf.pl; omega) (by decide))
  obtain ⟨w9, w10, e⟩ := lines_in (C := C) (v0 := v0) (v1 := some (.cell 0)) (v2 := v2) (v3 := v3) (v4 := v4) (v5 := some (.tup [.str f.nm, .tup (f.ty.map .str)])) (v6 := some (.int f.pl)) (v7 := some (.tup (f.vs.map pairD))) (v11 := v11) (S := [.lst (done.map lw)]) f.vs ([102, 114, 97, 109, 101] :: f.nm :: (f.ty ++ [[97, 116], intText f.pl])) v9 v10 (fun p hp => (hf.vs p hp).2) (by have := hf.tl; have := hf.vl; simp; omega)
  simp only [List.cons_append, List.append_assoc, List.nil_append] at e
  refine ⟨w9, w10, ?_⟩
  have eA := m_app (S := [Cell.lst (done.map lw)]) (n := 0) (xs := done.map lw) (y := lw f.ws) rfl (by simp; omega)
  unfold Fm.ws at eA
  have e1 : ∀ S : Store, binM .add (.lst [.str [102, 114, 97, 109, 101], .str f.nm]) (.lst (f.ty.map .str)) S = .ok (.lst (.str [102, 114, 97, 109, 101] :: .str f.nm :: f.ty.map .str)) S := fun S => o_addL (by have := hf.tl; simp; omega)
  have e2 : ∀ S : Store, binM .add (.lst (.str [102, 114, 97, 109, 101] :: .str f.nm :: f.ty.map .str)) (.lst [.str [97, 116], .str (intText f.pl)]) S = .ok (lw ([102, 114, 97, 109, 101] :: f.nm :: (f.ty ++ [[97, 116], intText f.pl]))) S := fun S => by
    rw [o_addL (by have := hf.tl; simp; omega)]
    simp [lw]
  simp (disch := (first | decide | assumption | (simp only [List.length_append, List.length_cons, List.length_nil, List.length_map] <;> omega) | omega)) [Fm.d, f_law_lines_b0, hp, e1, e2, srcD, e, eA, recvOk, Fm.ws]
theorem ws_bound {f : Fm} (hf : f.Ok) : f.ws.length ≤ 30 := by
  have := hf.tl; have := hf.vl
  unfold Fm.ws
  simp [flat_len]; omega
theorem law_lines {s : Stt} (hs : s.Ok) (S : Store) : callF fs fuel (l + 1) 17 [s.d] S = .ok (.lst (s.ws.map lw)) S := by
  rw [callF_succ (show fs[17]? = some f_law_lines from rfl) rfl]
  have hst : ∀ S : Store, bltD S .str [.int s.st] = some (.str (intText s.st)) := fun S => b_str (Nat.lt_trans (show s.st.natAbs < 10 ^ 41 by have := hs.st; omega) (by decide))
  have ec : ∀ σ S, compM (elG ⟨callF fs fuel l, fuel, l⟩ [11] (.nm 11) .nil f_law_lines_e2 [some s.d, none, some (.int s.st), some (.tup (s.os.map .int)), some (.tup (s.fr.map Fm.d)), none, none, none, none, none, none, σ]) (s.os.map .int) 0 S = .ok ((s.os.map intText).map .str) S := fun σ S => by
    refine compM_all ?_ (by have := hs.ol; simp; omega)
    rw [List.map_map]
    refine all2_map fun i hi S => ?_
    have hb := (hs.os i hi).b (S := S)
    exact el_nm (by simp (disch := (first | decide | assumption | (simp only [List.length_append, List.length_cons, List.length_nil, List.length_map] <;> omega) | omega)) [wipeE, f_law_lines_e2, hb])
  obtain ⟨σ1, S1, e1, w5, w6, w7, w8, w9, w10, rfl, rfl⟩ := forL_ix (f := patB (.tp [5, 6, 7]) fun σ' => exS ⟨callF fs fuel l, fuel, l⟩ f_law_lines_b0 σ') (fun j σ S => ∃ (v5 v6 v7 v8 v9 v10 : Option D), σ = [some s.d, some (.cell 0), some (.int s.st), some (.tup (s.os.map .int)), some (.tup (s.fr.map Fm.d)), v5, v6, v7, v8, v9, v10, none] ∧ S = [.lst ((([[115, 116, 101, 112, 115], intText s.st] :: ([111, 117, 116] :: s.os.map intText) :: (s.fr.take j).map Fm.ws)).map lw)])
    (xs := s.fr.map Fm.d) (j := 0) (σ := [some s.d, some (.cell 0), some (.int s.st), some (.tup (s.os.map .int)), some (.tup (s.fr.map Fm.d)), none, none, none, none, none, none, none]) (S := [.lst [lw [[115, 116, 101, 112, 115], intText s.st], lw ([111, 117, 116] :: s.os.map intText)]])
    (fun i x σ S hx ⟨v5, v6, v7, v8, v9, v10, e1, e2⟩ => by
      rw [Nat.zero_add] at e2 ⊢
      obtain ⟨f, hf, rfl⟩ : ∃ f, s.fr[i]? = some f ∧ f.d = x := by
        rw [List.getElem?_map] at hx
        cases q : s.fr[i]? with
        | none => rw [q] at hx; cases hx
        | some f => rw [q] at hx; exact ⟨f, rfl, Option.some.inj hx⟩
      subst e1 e2
      have hm := List.mem_of_getElem? hf
      have hfl := hs.fl
      obtain ⟨w9, w10, e⟩ := frame_line (C := ⟨callF fs fuel l, fuel, l⟩) (hs.fr f hm) (done := [[115, 116, 101, 112, 115], intText s.st] :: ([111, 117, 116] :: s.os.map intText) :: (s.fr.take i).map Fm.ws) (by simp; omega) (v0 := some s.d) (v2 := some (.int s.st)) (v3 := some (.tup (s.os.map .int))) (v4 := some (.tup (s.fr.map Fm.d))) (v5 := v5) (v6 := v6) (v7 := v7) (v8 := v8) (v9 := v9) (v10 := v10) (v11 := none)
      refine ⟨_, _, e, _, _, _, _, _, _, rfl, ?_⟩
      have hi := (List.getElem?_eq_some_iff.mp hf)
      obtain ⟨hi, e3⟩ := hi
      rw [List.take_succ_eq_append_getElem hi, e3]
      simp) ⟨none, none, none, none, none, none, rfl, rfl⟩
  rw [Nat.zero_add, List.length_map, List.take_length] at e1
  have hd : D.frees [s.d] = true := by simp [D.frees, s.free]
  have ef : D.frees (s.ws.map lw) = true := frees_mem.mpr fun d hd => by
    obtain ⟨p, _, rfl⟩ := List.mem_map.mp hd
    exact frees_strs p
  refine call_freeZ (S' := [.lst (s.ws.map lw)]) (d := .cell 0) rfl (tops_free hd) ?_ (frz_cell 3 (Nat.zero_le _) rfl ef)
  have e8 : ∀ S : Store, binM .add (.lst [.str [111, 117, 116]]) (.lst ((s.os.map intText).map .str)) S = .ok (lw ([111, 117, 116] :: s.os.map intText)) S := fun S => by
    rw [o_addL (by have := hs.ol; simp; omega)]
    simp [lw]
  have e9 : D.lst [.str [115, 116, 101, 112, 115], .str (intText s.st)] = lw [[115, 116, 101, 112, 115], intText s.st] := rfl
  have ed : s.d = .tup [.int s.st, .tup (s.os.map .int), .tup (s.fr.map Fm.d)] := rfl
  simp only [ed] at ec e1
  simp (disch := (first | decide | assumption | (simp only [List.length_append, List.length_cons, List.length_nil, List.length_map] <;> omega) | omega)) [-x_comp, -List.map_map, x_comp2, f_law_lines, Stt.d, hst, ec, e8, e9, srcD, e1, Stt.ws]
end Lw
set_option linter.all false
set_option maxRecDepth 100000
set_option maxHeartbeats 8000000
set_option exponentiation.threshold 4000
/-! K5f: the program's text of a state. -/
namespace Lw
open Fb
variable {fuel l : Nat}
def lineT (ws : List (List Nat)) : List Nat := joinD [32] ws ++ [10]
theorem frame_in {C : Cf} {v0 v2 v3 v6 v7 : Option D} : ∀ (vs : List (List Nat × Int)) (acc : List (List Nat)) (v4 v5 : Option D), (∀ p ∈ vs, Sm p.2) → acc.length + 2 * vs.length ≤ 10000 →
    ∃ w4 w5, forL (patB (.tp [4, 5]) fun σ' => exS C f_frame_text_b0 σ') (vs.map pairD) [v0, some (.cell 0), v2, v3, v4, v5, v6, v7] [.lst (acc.map .str)] = .ok (.nx [v0, some (.cell 0), v2, v3, w4, w5, v6, v7]) [.lst ((acc ++ flat vs).map .str)]
  | [], acc, v4, v5, _, _ => ⟨v4, v5, by simp [flat, forL_nil]⟩
  | p :: r, acc, v4, v5, h, hl => by
    simp only [List.length_cons] at hl
    have hb := fun S => (h p List.mem_cons_self).b (S := S)
    obtain ⟨w4, w5, e⟩ := frame_in (C := C) (v0 := v0) (v2 := v2) (v3 := v3) (v6 := v6) (v7 := v7) r (acc ++ [p.1, intText p.2]) (some (.str p.1)) (some (.int p.2)) (fun q hq => h q (List.mem_cons_of_mem _ hq)) (by simp; omega)
    refine ⟨w4, w5, ?_⟩
    have me := m_ext (S := [Cell.lst (acc.map .str)]) (n := 0) (xs := acc.map .str) (ys := [.str p.1, .str (intText p.2)]) rfl (by simp; omega)
    rw [List.map_cons, forL_nx (σ' := [v0, some (.cell 0), v2, v3, some (.str p.1), some (.int p.2), v6, v7]) (S' := [.lst ((acc ++ [p.1, intText p.2]).map .str)]) ?_, e]
    · simp [flat]
    · simp (disch := (first | decide | assumption | (simp only [List.length_append, List.length_cons, List.length_nil, List.length_map] <;> omega) | omega)) [pairD, f_frame_text_b0, hb, me, recvOk]
/-- the words are short -/
theorem va_len : ∀ w ∈ vaA, w.length ≤ 5 := by decide
theorem ty_len : ∀ w ∈ tyA, w.length ≤ 3 := by decide
theorem nm_len : ∀ w ∈ nmA, w.length ≤ 7 := by decide
theorem Sm.len {i : Int} (h : Sm i) : (intText i).length ≤ 42 := nat_pow_lt (k := 40) h
theorem pl_len {i : Int} (h : 0 ≤ i ∧ i ≤ 40) : (intText i).length ≤ 3 := nat_pow_lt (k := 1) (by omega)
theorem ws_words {f : Fm} (hf : f.Ok) : ∀ w ∈ f.ws, w.length ≤ 42 := by
  intro w hw
  unfold Fm.ws at hw
  simp only [List.mem_cons, List.mem_append] at hw
  rcases hw with rfl | rfl | hw | rfl | rfl | hw
  · decide
  · have := nm_len _ hf.nm; omega
  · have := ty_len _ (hf.ty w hw); omega
  · decide
  · have := pl_len hf.pl; omega
  · obtain ⟨p, hp, hq⟩ := List.mem_flatMap.mp hw
    obtain ⟨h1, h2⟩ := hf.vs p hp
    simp only [List.mem_cons, List.not_mem_nil, or_false] at hq
    rcases hq with rfl | rfl
    · have := va_len _ h1; omega
    · exact h2.len
theorem join_ws {S : Store} {ws : List (List Nat)} {d : D} (hq : seqOf S d = some (ws.map .str)) (h : ∀ w ∈ ws, w.length ≤ 1000) (hl : ws.length ≤ 1000) : mthD S .join (.str [32]) [d] = some (.str (joinD [32] ws), S) := by
  refine join_seq ws hq rfl ?_
  have := sum_le h
  simp
  have : 1000 * ws.length ≤ 1000 * 1000 := Nat.mul_le_mul_left _ hl
  omega
theorem joinL_len {s : List Nat} {ws : List (List Nat)} {b : Nat} (h : ∀ w ∈ ws, w.length ≤ b) : (joinD s ws).length ≤ b * ws.length + ws.length * s.length := by
  have h1 := join_len s ws
  have h2 := sum_le h
  omega
theorem frame_text {f : Fm} (hf : f.Ok) (S : Store) : callF fs fuel (l + 1) 4 [f.d] S = .ok (.str (lineT f.ws)) S := by
  rw [callF_succ (show fs[4]? = some f_frame_text from rfl) rfl]
  have hp : ∀ S : Store, bltD S .str [.int f.pl] = some (.str (intText f.pl)) := fun S => b_str (Nat.lt_trans (show f.pl.natAbs < 10 ^ 41 by have := hf.pl; omega) (by decide))
  have hbl := ws_bound hf
  have hbw := ws_words hf
  obtain ⟨w4, w5, e⟩ := frame_in (C := ⟨callF fs fuel l, fuel, l⟩) (v0 := some f.d) (v2 := some (.int f.pl)) (v3 := some (.tup (f.vs.map pairD))) (v6 := some (.str f.nm)) (v7 := some (.tup (f.ty.map .str))) f.vs ([102, 114, 97, 109, 101] :: f.nm :: (f.ty ++ [[97, 116], intText f.pl])) none none (fun p hp => (hf.vs p hp).2) (by have := hf.tl; have := hf.vl; simp; omega)
  have ew : ([102, 114, 97, 109, 101] :: f.nm :: (f.ty ++ [[97, 116], intText f.pl])) ++ flat f.vs = f.ws := by simp [Fm.ws]
  rw [ew] at e
  have ej := join_ws (S := [.lst (f.ws.map .str)]) (d := .cell 0) rfl (fun w hw => by have := hbw w hw; omega) (by omega)
  have jl := joinL_len (s := [32]) hbw
  have jl : (joinD [32] f.ws).length ≤ 10000 := by simp at jl; omega
  refine call_freeE (S' := [.lst (f.ws.map .str)]) rfl (tops_free (by simp [D.frees, f.free])) rfl ?_
  have e1 : ∀ S : Store, binM .add (.lst [.str [102, 114, 97, 109, 101], .str f.nm]) (.lst (f.ty.map .str)) S = .ok (.lst (.str [102, 114, 97, 109, 101] :: .str f.nm :: f.ty.map .str)) S := fun S => o_addL (by have := hf.tl; simp; omega)
  have e2 : ∀ S : Store, binM .add (.lst (.str [102, 114, 97, 109, 101] :: .str f.nm :: f.ty.map .str)) (.lst [.str [97, 116], .str (intText f.pl)]) S = .ok (.lst (([102, 114, 97, 109, 101] :: f.nm :: (f.ty ++ [[97, 116], intText f.pl])).map .str)) S := fun S => by
    rw [o_addL (by have := hf.tl; simp; omega)]
    simp
  have ed : f.d = .tup [.tup [.str f.nm, .tup (f.ty.map .str)], .int f.pl, .tup (f.vs.map pairD)] := rfl
  rw [ed] at e
  generalize hW : ([102, 114, 97, 109, 101] :: f.nm :: (f.ty ++ [[97, 116], intText f.pl])) = W at e2 e
  simp (disch := (first | decide | assumption | (simp only [List.length_append, List.length_cons, List.length_nil, List.length_map] <;> omega) | omega)) [f_frame_text, Fm.d, hp, e1, e2, srcD, e, ej, recvOk, lineT]
/-- the text of a state -/
def Stt.text (s : Stt) : List Nat := (s.ws.map lineT).flatten
theorem line_len {f : Fm} (hf : f.Ok) : (lineT f.ws).length ≤ 10000 := by
  have jl := joinL_len (s := [32]) (ws_words hf)
  have hbl := ws_bound hf
  unfold lineT
  simp at jl ⊢; omega
theorem state_text {s : Stt} (hs : s.Ok) (S : Store) : callF fs fuel (l + 2) 5 [s.d] S = .ok (.str s.text) S := by
  rw [callF_succ (show fs[5]? = some f_state_text from rfl) rfl]
  refine call_freeE (S' := []) rfl (tops_free (by simp [D.frees, s.free])) rfl ?_
  have hst : ∀ S : Store, bltD S .str [.int s.st] = some (.str (intText s.st)) := fun S => b_str (Nat.lt_trans (show s.st.natAbs < 10 ^ 41 by have := hs.st; omega) (by decide))
  have hsl : (intText s.st).length ≤ 6 := nat_pow_lt (k := 4) (by have := hs.st; omega)
  have ec : ∀ σ S, compM (elG ⟨callF fs fuel (l + 1), fuel, l + 1⟩ [3] (.nm 3) .nil f_state_text_e1 [some s.d, none, none, σ]) (s.os.map .int) 0 S = .ok ((s.os.map intText).map .str) S := fun σ S => by
    refine compM_all ?_ (by have := hs.ol; simp; omega)
    rw [List.map_map]
    refine all2_map fun i hi S => ?_
    have hb := (hs.os i hi).b (S := S)
    exact el_nm (by simp (disch := (first | decide | assumption | (simp only [List.length_append, List.length_cons, List.length_nil, List.length_map] <;> omega) | omega)) [wipeE, f_state_text_e1, hb])
  have ef : ∀ v σ S, compM (elG ⟨callF fs fuel (l + 1), fuel, l + 1⟩ [2] (.nm 2) .nil f_state_text_e0 [some s.d, v, none, σ]) (s.fr.map Fm.d) 0 S = .ok ((s.fr.map fun f => lineT f.ws).map .str) S := fun v σ S => by
    refine compM_all ?_ (by have := hs.fl; simp; omega)
    rw [List.map_map]
    refine all2_map fun f hf S => ?_
    have hb := frame_text (fuel := fuel) (l := l) (hs.fr f hf) S
    exact el_nm (by simp (disch := (first | decide | assumption | (simp only [List.length_append, List.length_cons, List.length_nil, List.length_map] <;> omega) | omega)) [wipeE, f_state_text_e0, hb])
  have e8 : ∀ S : Store, binM .add (.lst [.str [111, 117, 116]]) (.lst ((s.os.map intText).map .str)) S = .ok (.lst (([111, 117, 116] :: s.os.map intText).map .str)) S := fun S => by
    rw [o_addL (by have := hs.ol; simp; omega)]
    simp
  have how : ∀ w ∈ ([111, 117, 116] :: s.os.map intText), w.length ≤ 42 := fun w hw => by
    rcases List.mem_cons.mp hw with rfl | hw
    · decide
    · obtain ⟨i, hi, rfl⟩ := List.mem_map.mp hw
      exact (hs.os i hi).len
  have ej := fun S => join_ws (S := S) (ws := [111, 117, 116] :: s.os.map intText) (d := .lst (([111, 117, 116] :: s.os.map intText).map .str)) rfl (fun w hw => by have := how w hw; omega) (by have := hs.ol; simp; omega)
  have jl := joinL_len (s := [32]) how
  have jl : (joinD [32] ([111, 117, 116] :: s.os.map intText)).length ≤ 1000 := by have := hs.ol; simp at jl; omega
  have ejf : ∀ S : Store, mthD S .join (.str []) [.lst ((s.fr.map fun f => lineT f.ws).map .str)] = some (.str (s.fr.map fun f => lineT f.ws).flatten, S) := fun S => by
    have h1 : ∀ w ∈ (s.fr.map fun f => lineT f.ws), w.length ≤ 10000 := fun w hw => by
      obtain ⟨f, hf, rfl⟩ := List.mem_map.mp hw
      exact line_len (hs.fr f hf)
    have h2 := sum_le h1
    rw [join_seq (S := S) (s := []) (d := .lst ((s.fr.map fun f => lineT f.ws).map .str)) (s.fr.map fun f => lineT f.ws) rfl rfl (by have := hs.fl; simp at h2 ⊢; omega), join_nil]
  have jl2 : (s.fr.map fun f => lineT f.ws).flatten.length ≤ 100000 := by
    have h1 : ∀ w ∈ (s.fr.map fun f => lineT f.ws), w.length ≤ 10000 := fun w hw => by
      obtain ⟨f, hf, rfl⟩ := List.mem_map.mp hw
      exact line_len (hs.fr f hf)
    have h2 := sum_le h1
    rw [List.length_flatten]
    refine Nat.le_trans h2 ?_
    have := hs.fl
    simp only [List.length_map]
    omega
  have et : s.text = [115, 116, 101, 112, 115, 32] ++ intText s.st ++ [10] ++ joinD [32] ([111, 117, 116] :: s.os.map intText) ++ [10] ++ (s.fr.map fun f => lineT f.ws).flatten := by
    simp [Stt.text, Stt.ws, lineT, joinD, List.map_map, Function.comp_def]
  have ed : s.d = .tup [.int s.st, .tup (s.os.map .int), .tup (s.fr.map Fm.d)] := rfl
  rw [et]
  simp only [ed] at ec ef
  generalize joinD [32] ([111, 117, 116] :: s.os.map intText) = J at ej jl
  generalize (s.fr.map fun f => lineT f.ws).flatten = F at ejf jl2
  generalize ((s.fr.map fun f => lineT f.ws).map D.str) = Fs at ejf ef
  generalize (([111, 117, 116] :: s.os.map intText).map D.str) = Os at ej e8
  simp (disch := (first | decide | assumption | (simp only [List.length_append, List.length_cons, List.length_nil, List.length_map] <;> omega) | omega)) [-x_comp, -List.map_map, x_comp2, f_state_text, Stt.d, hst, ec, e8, ej, recvOk, srcD, ef, ejf]
end Lw
set_option linter.all false
set_option maxRecDepth 100000
set_option maxHeartbeats 8000000
set_option exponentiation.threshold 4000
/-! K5g: words that are integers. -/
namespace Lw
open Fb
variable {fuel l : Nat}
def fig (w : List Nat) : List Nat := if w.take 1 = [45] then w.drop 1 else w
def li (w : List Nat) : Bool := !(fig w).isEmpty && (fig w).all isDig
def val (w : List Nat) : Int := (intOf w).getD 0
theorem dig_in {c : Nat} : ([48, 49, 50, 51, 52, 53, 54, 55, 56, 57] : List Nat).contains c = isDig c := by
  unfold isDig
  rw [Bool.eq_iff_iff]
  simp
  omega
theorem dig_ni {c : Nat} {S : Store} : cmpM .notIn (.str [c]) (.str [48, 49, 50, 51, 52, 53, 54, 55, 56, 57]) S = .ok (!isDig c) S := by
  rw [ni_str, dig_in]
theorem fig_len (w : List Nat) : (fig w).length ≤ w.length := by
  unfold fig
  split
  · simp
  · exact Nat.le_refl _
theorem cut1 {w : List Nat} : cutL w none (some 1) = w.take 1 := by
  unfold cutL Fb.cut1
  simp
theorem cut1r {w : List Nat} : cutL w (some 1) none = w.drop 1 := by
  unfold cutL Fb.cut1
  simp only [if_neg (show ¬ (1 : Int) < 0 by omega)]
  by_cases h : 1 ≤ w.length
  · rw [show min (1 : Int).toNat w.length = 1 by simp; omega, List.take_of_length_le (by simp)]
  · have : w = [] := List.eq_nil_of_length_eq_zero (by omega)
    subst this; rfl
/-- signs that are no figures -/
theorem no_fig {x : List Nat} : ((x.map fun c => D.str [c]).filterMap fun d => if (match d with | .str [c] => !isDig c | _ => false) = true then some d else none).isEmpty = x.all isDig := by
  induction x with
  | nil => rfl
  | cons c r ih =>
    rw [List.map_cons, List.filterMap_cons, List.all_cons]
    cases h : isDig c with
    | true => simp only [h, Bool.not_true, Bool.false_eq_true, if_false, Bool.true_and]; exact ih
    | false => simp [h]
def nf (d : D) : Bool := match d with
  | .str [c] => !isDig c
  | _ => false
theorem int_comp {C : Cf} {v : Option D} {c0 e0 : IE} (h0 : c0 = .cmp .notIn (.var 2) (.lit (.str [48, 49, 50, 51, 52, 53, 54, 55, 56, 57])) ∨ c0 = .cmp .notIn (.var 2) (.glo [70, 73, 71, 85, 82, 69, 83] (.str [48, 49, 50, 51, 52, 53, 54, 55, 56, 57]))) (he : e0 = .var 2) {x : List Nat} (hl : x.length ≤ 100000) : ∃ F : List D, F.isEmpty = x.all isDig ∧ compM (elG C [2] (.nm 2) (.cons c0 .nil) e0 [v, some (.str x), none]) (x.map fun c => .str [c]) 0 [] = .ok F [] := by
  refine ⟨_, no_fig, compM_fm (g := fun d => if (match d with | .str [c] => !isDig c | _ => false) = true then some d else none) (fun d hd => ?_) (by simp; omega)⟩
  obtain ⟨c, _, rfl⟩ := List.mem_map.mp hd
  subst he
  rcases h0 with rfl | rfl
  · exact el_fl (t := !isDig c) (by simp (disch := (first | decide | assumption | (simp only [List.length_append, List.length_cons, List.length_nil, List.length_map] <;> omega) | omega)) [wipeE, dig_ni]) fun _ => by simp (disch := (first | decide | assumption | (simp only [List.length_append, List.length_cons, List.length_nil, List.length_map] <;> omega) | omega)) [wipeE]
  · exact el_fl (t := !isDig c) (by simp (disch := (first | decide | assumption | (simp only [List.length_append, List.length_cons, List.length_nil, List.length_map] <;> omega) | omega)) [wipeE, dig_ni]) fun _ => by simp (disch := (first | decide | assumption | (simp only [List.length_append, List.length_cons, List.length_nil, List.length_map] <;> omega) | omega)) [wipeE]
theorem law_int {w : List Nat} (h : w.length ≤ 100000) (S : Store) : callF fs fuel (l + 1) 18 [.str w] S = .ok (.bl (li w)) S := by
  rw [callF_succ (show fs[18]? = some f_law_is_integer from rfl) rfl]
  refine call_freeE (S' := []) rfl rfl rfl ?_
  have hl := fig_len w
  have e5 : ∀ S : Store, Fb.cutD S (.str w) none (some 1) = some (.str (w.take 1)) := fun S => by rw [cut_str (by omega), cut1]
  have e6 : ∀ S : Store, Fb.cutD S (.str w) (some 1) none = some (.str (w.drop 1)) := fun S => by rw [cut_str (by omega), cut1r]
  obtain ⟨F, hF, e⟩ := int_comp (C := ⟨callF fs fuel l, fuel, l⟩) (v := some (.str w)) (c0 := f_law_is_integer_c0) (e0 := f_law_is_integer_e0) (.inl rfl) rfl (x := fig w) (by omega)
  have hli : li w = (!(fig w).isEmpty && (fig w).all isDig) := rfl
  have hx : ∀ x, fig w = x → (x = w.drop 1 ∧ w.take 1 = [45]) ∨ (x = w ∧ w.take 1 ≠ [45]) := fun x e => by
    subst e
    by_cases h1 : w.take 1 = [45]
    · exact .inl ⟨if_pos h1, h1⟩
    · exact .inr ⟨if_neg h1, h1⟩
  generalize hq : fig w = x at *
  have hx := hx x rfl
  have hb := fun S => b_lenS (S := S) (a := x) (by omega)
  rw [hli, ← hF]
  have e7 : ((F.length : Int) == 0) = F.isEmpty := by cases F <;> simp <;> omega
  by_cases h2 : x = []
  · rcases hx with ⟨hx, h1⟩ | ⟨hx, h1⟩
    · rw [← hx] at e6
      simp (disch := (first | decide | assumption | (simp only [List.length_append, List.length_cons, List.length_nil, List.length_map] <;> omega) | omega)) [-x_comp, x_comp2, f_law_is_integer, e5, e6, h1, hb, h2]
    · have h1' : (w.take 1 == [45]) = false := by simpa using h1
      have h3 : w = [] := by rw [← hx]; exact h2
      subst h3
      simp (disch := (first | decide | assumption | (simp only [List.length_append, List.length_cons, List.length_nil, List.length_map] <;> omega) | omega)) [-x_comp, x_comp2, f_law_is_integer, e5, e6, h2]
  · have hp : 0 < x.length := List.length_pos_iff.mpr h2
    have h3 : x.isEmpty = false := by simpa using h2
    rcases hx with ⟨hx, h1⟩ | ⟨hx, h1⟩
    · rw [← hx] at e6
      simp (disch := (first | decide | assumption | (simp only [List.length_append, List.length_cons, List.length_nil, List.length_map] <;> omega) | omega)) [-x_comp, x_comp2, f_law_is_integer, e5, e6, h1, hb, srcD, e, hp, h3, e7]
    · have h1' : (w.take 1 == [45]) = false := by simpa using h1
      subst hx
      simp (disch := (first | decide | assumption | (simp only [List.length_append, List.length_cons, List.length_nil, List.length_map] <;> omega) | omega)) [-x_comp, x_comp2, f_law_is_integer, e5, e6, h1', hb, srcD, e, hp, h3, e7]
/-- a word that is no integer, or one as it is written -/
def Wok (w : List Nat) : Prop := w.length ≤ 1000 ∧ (li w = false ∨ ∃ i, Sm i ∧ w = intText i)
def wD (w : List Nat) : D := if li w then .int (val w) else .non
theorem fig_int (i : Int) : fig (intText i) = digitsOf i.natAbs := by
  unfold fig intText
  by_cases h : i < 0
  · rw [if_pos h]; simp
  · rw [if_neg h]
    refine if_neg fun z => ?_
    have : 45 ∈ digitsOf i.natAbs := List.mem_of_mem_take (by rw [z]; simp)
    have := dig_all _ _ this
    cases this
theorem li_int (i : Int) : li (intText i) = true := by
  unfold li
  rw [fig_int, all_dig]
  have := dig_ne i.natAbs
  simp [this]
theorem Sm.of {i : Int} (h : Sm i) : intOf (intText i) = some i := int_textN (Nat.lt_trans h (by decide))
theorem val_int {i : Int} (h : Sm i) : val (intText i) = i := by
  unfold val
  rw [h.of]; rfl
theorem Wok.int {w : List Nat} (h : Wok w) (hl : li w = true) : intOf w = some (val w) ∧ Sm (val w) ∧ w = intText (val w) := by
  rcases h.2 with h | ⟨i, hi, rfl⟩
  · rw [h] at hl; cases hl
  · rw [val_int hi]; exact ⟨hi.of, hi, rfl⟩
theorem starts {S : Store} {w : List Nat} : mthD S .startswith (.str w) [.str [45]] = some (.bl (w.take 1 == [45]), S) := (rfl)
theorem written {w : List Nat} (h : Wok w) (S : Store) : callF fs fuel (l + 1) 2 [.str w] S = .ok (wD w) S := by
  rw [callF_succ (show fs[2]? = some f_written_integer from rfl) rfl]
  have hw := h.1
  refine call_freeE (S' := []) rfl rfl (by unfold wD; split <;> rfl) ?_
  have hl := fig_len w
  have e6 : ∀ S : Store, Fb.cutD S (.str w) (some 1) none = some (.str (w.drop 1)) := fun S => by rw [cut_str (by omega), cut1r]
  obtain ⟨F, hF, e⟩ := int_comp (C := ⟨callF fs fuel l, fuel, l⟩) (v := some (.str w)) (c0 := f_written_integer_c0) (e0 := f_written_integer_e0) (.inr rfl) rfl (x := fig w) (by omega)
  have hx : ∀ x, fig w = x → (x = w.drop 1 ∧ w.take 1 = [45]) ∨ (x = w ∧ w.take 1 ≠ [45]) := fun x e => by
    subst e
    by_cases h1 : w.take 1 = [45]
    · exact .inl ⟨if_pos h1, h1⟩
    · exact .inr ⟨if_neg h1, h1⟩
  have hb := fun S => b_lenS (S := S) (a := w) (by omega)
  have hli : li w = (!(fig w).isEmpty && (fig w).all isDig) := rfl
  cases hl2 : li w with
  | true =>
    obtain ⟨h1, h2, h3⟩ := h.int hl2
    have h60 : ¬ ((60 : Int) < (w.length : Int)) := by have := h2.len; rw [← h3] at this; omega
    have hwd : wD w = .int (val w) := by unfold wD; rw [hl2]; rfl
    rw [hwd]
    have hbi := fun S => b_intS (S := S) h1
    have hfd : fig w = digitsOf (val w).natAbs := by rw [h3, val_int h2, fig_int]
    have hz : ∃ c r, fig w = c :: r ∧ (c = 48 → w = [48]) := by
      rw [hfd]
      by_cases h0 : (val w).natAbs = 0
      · refine ⟨48, [], by rw [h0]; rfl, fun _ => ?_⟩
        have : val w = 0 := by omega
        rw [h3, this]; rfl
      · obtain ⟨c, r, e, hc⟩ := dig_head h0
        exact ⟨c, r, e, fun z => absurd z hc⟩
    obtain ⟨c, r, hcr, hz⟩ := hz
    rw [hl2] at hli
    have hFe : F = [] := by
      rw [eq_comm, Bool.and_eq_true] at hli
      exact List.isEmpty_iff.mp (hF.trans hli.2)
    rw [hFe] at e
    generalize hq : fig w = x at *
    have hx := hx x rfl
    have hxl : x.length ≤ 100000 := by omega
    have hne : (x == []) = false := by rw [hcr]; rfl
    have h0 : x[0]? = some c := by rw [hcr]; rfl
    have hix := idx_str (S := []) (a := x) (i := 0) (by omega) (by omega)
    have h0' := get_in h0
    have hlx : 0 < x.length := by rw [hcr]; simp
    have hw48 : (([c] == [48]) && (!(w == [48]))) = false := by
      by_cases hc : c = 48
      · rw [hz hc]; simp
      · simp [hc]
    rcases hx with ⟨hx, h1'⟩ | ⟨hx, h1'⟩
    · rw [← hx] at e6
      by_cases hc : c = 48
      · have := hz hc
        rw [this] at h1'; cases h1'
      · simp (disch := (first | decide | assumption | (simp only [List.length_append, List.length_cons, List.length_nil, List.length_map] <;> omega) | omega)) [-x_comp, x_comp2, f_written_integer, starts, recvOk, e6, h1', hb, srcD, e, h60, hne, hix, h0', hlx, hc, hbi]
    · have h1'' : (w.take 1 == [45]) = false := by simpa using h1'
      subst hx
      by_cases hc : c = 48
      · have := hz hc
        subst this
        simp only [List.map_cons, List.map_nil] at e
        simp (disch := (first | decide | assumption | (simp only [List.length_append, List.length_cons, List.length_nil, List.length_map] <;> omega) | omega)) [-x_comp, x_comp2, f_written_integer, starts, recvOk, e6, hb, srcD, e, hix, hbi]
      · simp (disch := (first | decide | assumption | (simp only [List.length_append, List.length_cons, List.length_nil, List.length_map] <;> omega) | omega)) [-x_comp, x_comp2, f_written_integer, starts, recvOk, e6, h1'', hb, srcD, e, h60, hne, hix, h0', hlx, hc, hbi]
  | false =>
    have hwd : wD w = .non := by unfold wD; rw [hl2]; rfl
    rw [hwd]
    rw [hl2] at hli
    generalize hq : fig w = x at *
    have hx := hx x rfl
    by_cases h2 : x = []
    · rcases hx with ⟨hx, h1'⟩ | ⟨hx, h1'⟩
      · rw [← hx, h2] at e6
        simp (disch := (first | decide | assumption | (simp only [List.length_append, List.length_cons, List.length_nil, List.length_map] <;> omega) | omega)) [-x_comp, x_comp2, f_written_integer, starts, recvOk, e6, h1']
      · have h3 : w = [] := by rw [← hx]; exact h2
        subst h3
        simp (disch := (first | decide | assumption | (simp only [List.length_append, List.length_cons, List.length_nil, List.length_map] <;> omega) | omega)) [-x_comp, x_comp2, f_written_integer, starts, recvOk]
    · have hne : (x == []) = false := by simpa using h2
      have hFe : F.isEmpty = false := by
        rw [hF]
        have : x.isEmpty = false := by simpa using h2
        rw [this] at hli
        simpa using hli.symm
      have h1'' : w.take 1 ≠ [45] → (w.take 1 == [45]) = false := fun z => by simpa using z
      by_cases h60 : (60 : Int) < (w.length : Int)
      · rcases hx with ⟨hx, h1'⟩ | ⟨hx, h1'⟩
        · rw [← hx] at e6
          simp (disch := (first | decide | assumption | (simp only [List.length_append, List.length_cons, List.length_nil, List.length_map] <;> omega) | omega)) [-x_comp, x_comp2, f_written_integer, starts, recvOk, e6, h1', hb, srcD, e, h60, hne, hFe]
        · have h1'' := h1'' h1'
          subst hx
          simp (disch := (first | decide | assumption | (simp only [List.length_append, List.length_cons, List.length_nil, List.length_map] <;> omega) | omega)) [-x_comp, x_comp2, f_written_integer, starts, recvOk, e6, h1'', hb, srcD, e, h60, hne, hFe]
      · rcases hx with ⟨hx, h1'⟩ | ⟨hx, h1'⟩
        · rw [← hx] at e6
          simp (disch := (first | decide | assumption | (simp only [List.length_append, List.length_cons, List.length_nil, List.length_map] <;> omega) | omega)) [-x_comp, x_comp2, f_written_integer, starts, recvOk, e6, h1', hb, srcD, e, h60, hne, hFe]
        · have h1'' := h1'' h1'
          subst hx
          simp (disch := (first | decide | assumption | (simp only [List.length_append, List.length_cons, List.length_nil, List.length_map] <;> omega) | omega)) [-x_comp, x_comp2, f_written_integer, starts, recvOk, e6, h1'', hb, srcD, e, h60, hne, hFe]
end Lw
set_option linter.all false
set_option maxRecDepth 100000
set_option maxHeartbeats 8000000
set_option exponentiation.threshold 4000
/-! K5h: integers of words; pairs. -/
namespace Lw
open Fb
variable {fuel l : Nat}
theorem wD_free (w : List Nat) : D.free (wD w) = true := by unfold wD; split <;> rfl
theorem wD_flat (w : List Nat) : D.flat (wD w) = true := by unfold wD; split <;> rfl
theorem wDs_free (ws : List (List Nat)) : D.frees (ws.map wD) = true := frees_mem.mpr fun d hd => by
  obtain ⟨w, _, rfl⟩ := List.mem_map.mp hd
  exact wD_free w
theorem none_in {ws : List (List Nat)} {S : Store} : cmpM .isIn .non (.tup (ws.map wD)) S = .ok (!ws.all li) S := by
  have hf : (ws.map wD).all D.flat = true := List.all_eq_true.mpr fun d hd => by
    obtain ⟨w, _, rfl⟩ := List.mem_map.mp hd
    exact wD_flat w
  have hm : memD .non (ws.map wD) = !ws.all li := by
    clear hf
    induction ws with
    | nil => rfl
    | cons w r ih =>
      rw [List.map_cons, List.all_cons]
      show (D.eqv (wD w) .non || memD .non (r.map wD)) = _
      rw [ih]
      unfold wD
      cases h : li w with
      | true => simp [D.eqv]
      | false => simp [D.eqv]
  show M.opt (if (D.flat .non && (ws.map wD).all D.flat) = true then some (memD .non (ws.map wD)) else none) S = _
  rw [hf, hm]; rfl
def wInt : List Nat := [105, 110, 116, 101, 103, 101, 114]
def wWor : List Nat := [119, 111, 114, 100, 115]
theorem integers {ws : List (List Nat)} (h : ∀ w ∈ ws, Wok w) (hl : ws.length ≤ 100000) (n : Int) (S : Store) : callF fs fuel (l + 3) 6 [.int n, .lst (ws.map .str)] S = if ws.all li then .ok (.tup (ws.map wD)) S else .exc 0 [.int n, .str wInt] S := by
  rw [callF_succ (show fs[6]? = some f_integers_of from rfl) rfl]
  have ht : D.tops [D.int n, .lst (ws.map .str)] = 0 := tops_free (by simp [D.frees, D.free, frees_strs])
  have ec : compM (elG ⟨callF fs fuel (l + 2), fuel, l + 2⟩ [3] (.nm 3) .nil f_integers_of_e0 [some (.int n), some (.lst (ws.map .str)), none, none]) (ws.map .str) 0 [] = .ok (ws.map wD) [] := by
    refine compM_all ?_ (by simp; omega)
    refine all2_map fun w hw S => ?_
    have hb := written (fuel := fuel) (l := l + 1) (h w hw) S
    exact el_nm (by simp (disch := (first | decide | assumption | (simp only [List.length_append, List.length_cons, List.length_nil, List.length_map] <;> omega) | omega)) [wipeE, f_integers_of_e0, hb])
  have hn := fun S => none_in (S := S) (ws := ws)
  cases ha : ws.all li with
  | true =>
    rw [if_pos rfl]
    refine call_freeE (S' := []) rfl ht (by simp [D.free, wDs_free]) ?_
    rw [ha] at hn
    generalize ws.map wD = W at ec hn
    simp (disch := (first | decide | assumption | (simp only [List.length_append, List.length_cons, List.length_nil, List.length_map] <;> omega) | omega)) [-x_comp, x_comp2, f_integers_of, srcD, ec, hn]
  | false =>
    rw [if_neg (by simp)]
    rw [ha] at hn
    refine call_freeX (S' := []) (σ := [some (.int n), some (.lst (ws.map .str)), some (.tup (ws.map wD)), none]) rfl ht (by simp [D.frees, D.free]) ?_
    generalize ws.map wD = W at ec hn
    simp (disch := (first | decide | assumption | (simp only [List.length_append, List.length_cons, List.length_nil, List.length_map] <;> omega) | omega)) [-x_comp, x_comp2, f_integers_of, srcD, ec, hn, wInt]
def flat2 (ps : List (List Nat × List Nat)) : List (List Nat) := ps.flatMap fun p => [p.1, p.2]
theorem flat2_len (ps : List (List Nat × List Nat)) : (flat2 ps).length = 2 * ps.length := by
  induction ps with
  | nil => rfl
  | cons p r ih => simp [flat2] at ih ⊢; omega
theorem flat2_of : ∀ (n : Nat) (xs : List (List Nat)), xs.length = 2 * n → ∃ ps, xs = flat2 ps ∧ ps.length = n
  | 0, xs, h => ⟨[], by simpa [flat2] using h, rfl⟩
  | n + 1, [], h => by simp at h
  | n + 1, [a], h => by simp at h; omega
  | n + 1, a :: b :: r, h => by
    obtain ⟨ps, e, hl⟩ := flat2_of n r (by simp at h; omega)
    exact ⟨(a, b) :: ps, by rw [e]; rfl, by simp [hl]⟩
theorem flat2_even : ∀ (ps : List (List Nat × List Nat)) (i : Nat), (flat2 ps)[2 * i]? = (ps[i]?).map Prod.fst
  | [], i => by simp [flat2]
  | p :: r, 0 => rfl
  | p :: r, i + 1 => by
    have := flat2_even r i
    rw [show 2 * (i + 1) = 2 * i + 1 + 1 by omega]
    simpa [flat2] using this
theorem flat2_odd : ∀ (ps : List (List Nat × List Nat)) (i : Nat), (flat2 ps)[2 * i + 1]? = (ps[i]?).map Prod.snd
  | [], i => by simp [flat2]
  | p :: r, 0 => rfl
  | p :: r, i + 1 => by
    have := flat2_odd r i
    rw [show 2 * (i + 1) + 1 = 2 * i + 1 + 1 + 1 by omega]
    simpa [flat2] using this
theorem step_even : ∀ ps : List (List Nat × List Nat), stepL 2 0 ((flat2 ps).map D.str) = ps.map fun p => .str p.1
  | [] => rfl
  | p :: r => by
    have := step_even r
    show D.str p.1 :: stepL 2 0 ((flat2 r).map D.str) = _
    rw [this]; rfl
theorem step_odd : ∀ ps : List (List Nat × List Nat), stepL 2 0 (((flat2 ps).map D.str).drop 1) = ps.map fun p => .str p.2
  | [] => rfl
  | [p] => rfl
  | p :: q :: r => by
    have := step_odd (q :: r)
    show D.str p.2 :: stepL 2 0 (((flat2 (q :: r)).map D.str).drop 1) = _
    rw [this]; rfl
theorem zip_map {α : Type} {f g : α → D} : ∀ ps : List α, zipD (ps.map f) (ps.map g) = ps.map fun p => .tup [f p, g p]
  | [] => rfl
  | p :: r => by
    show D.tup [f p, g p] :: zipD (r.map f) (r.map g) = _
    rw [zip_map r]; rfl
end Lw
set_option linter.all false
set_option maxRecDepth 100000
set_option maxHeartbeats 8000000
set_option exponentiation.threshold 4000
/-! K5i: the law's frame. -/
namespace Lw
open Fb
variable {fuel l : Nat}
def wFr : List Nat := [102, 114, 97, 109, 101]
def wAt : List Nat := [97, 116]
def frameD (w1 : List Nat) (ty : List (List Nat)) (p : List Nat) (ps : List (List Nat × List Nat)) : D := .tup [.tup [.str w1, .tup (ty.map .str)], .int (val p), .tup (ps.map fun q => .tup [.str q.1, .int (val q.2)])]
theorem lw_tops (ws : List (List Nat)) : D.tops [lw ws] = 0 := tops_free (by simp [lw, D.frees, D.free, frees_strs])
theorem len_lw {S : Store} {ws : List (List Nat)} : bltD S .len [.lst (ws.map .str)] = some (.int (ws.length : Int)) := by
  show some (D.int ((ws.map D.str).length : Nat)) = _
  rw [List.length_map]
/-- a list of words, unseen -/
structure Seen (Q : List D) (w0 : List Nat) (r : List (List Nat)) : Prop where
  get : Q[0]? = some (.str w0)
  len : ∀ S : Store, bltD S .len [.lst Q] = some (.int ((r.length : Int) + 1))
  cut : ∀ S : Store, cutD S (.lst Q) (some 2) none = some (.lst ((r.drop 1).map .str))
theorem seen (w0 : List Nat) (r : List (List Nat)) : Seen ((w0 :: r).map .str) w0 r := ⟨rfl, fun S => by rw [len_lw]; rfl, fun S => by
  rw [cut_lst, cut_fr (by omega), ← List.map_drop]; rfl⟩
theorem neq {a b : List Nat} (h : a ≠ b) : (a == b) = false := by simpa using h
theorem law_frame_A {w0 : List Nat} {r : List (List Nat)} (h : w0 ≠ wFr ∨ wAt ∉ r.drop 1) (S : Store) : callF fs fuel (l + 1) 19 [lw (w0 :: r)] S = .ok (.str wWor) S := by
  rw [callF_succ (show fs[19]? = some f_law_frame from rfl) rfl]
  refine call_freeE (S' := []) rfl (lw_tops _) rfl ?_
  obtain ⟨e0, e1, e2⟩ := seen w0 r
  unfold lw
  generalize (w0 :: r).map D.str = Q at *
  by_cases h0 : w0 = wFr
  · have h1 := h.resolve_left (fun z => z h0)
    have hn : ∀ S, cmpM .notIn (.str [97, 116]) (.lst ((r.drop 1).map .str)) S = .ok true S := fun S => by
      rw [ni_lst]
      have h1 : ¬ ([97, 116] ∈ r.drop 1) := h1
      rw [decide_eq_false h1]; rfl
    generalize (r.drop 1).map D.str = q at *
    rw [h0, wFr] at e0
    by_cases h3 : ((r.length : Int) + 1 < 2)
    · simp (disch := (first | decide | assumption | (simp only [List.length_append, List.length_cons, List.length_nil, List.length_map] <;> omega) | omega)) [f_law_frame, e0, e1, h3, wWor]
    · simp (disch := (first | decide | assumption | (simp only [List.length_append, List.length_cons, List.length_nil, List.length_map] <;> omega) | omega)) [f_law_frame, e0, e1, h3, e2, hn, wWor]
  · have h2 := neq h0
    unfold wFr at h2
    simp (disch := (first | decide | assumption | (simp only [List.length_append, List.length_cons, List.length_nil, List.length_map] <;> omega) | omega)) [f_law_frame, e0, h2, wWor]
theorem law_frame_B0 {w1 : List Nat} {ty be : List (List Nat)} (ha : wAt ∉ ty) (hb : be.length % 2 = 0) (hl : be.length ≤ 1000 ∧ ty.length ≤ 1000) (S : Store) : callF fs fuel (l + 1) 19 [lw (wFr :: w1 :: (ty ++ wAt :: be))] S = .ok (.str wWor) S := by
  rw [callF_succ (show fs[19]? = some f_law_frame from rfl) rfl]
  refine call_freeE (S' := []) rfl (lw_tops _) rfl ?_
  obtain ⟨e0, e1, e2⟩ := seen wFr (w1 :: (ty ++ wAt :: be))
  have e3 : ∀ S : Store, cutD S (.lst ((wFr :: w1 :: (ty ++ wAt :: be)).map .str)) (some (2 + (ty.length : Int) + 1)) none = some (.lst (be.map .str)) := fun S => by
    rw [cut_lst, cut_fr (by omega), ← List.map_drop]
    have : (2 + (ty.length : Int) + 1).toNat = ty.length + 1 + 1 + 1 := by omega
    rw [this, List.drop_succ_cons, List.drop_succ_cons, ← List.drop_drop, List.drop_left]
    rfl
  unfold lw
  generalize (wFr :: w1 :: (ty ++ wAt :: be)).map D.str = Q at *
  have hn : ∀ S, cmpM .notIn (.str [97, 116]) (.lst (((w1 :: (ty ++ wAt :: be)).drop 1).map .str)) S = .ok false S := fun S => by
    rw [ni_lst, decide_eq_true (by simp [wAt])]; rfl
  have hi : ∀ S : Store, mthD S .index (.lst (((w1 :: (ty ++ wAt :: be)).drop 1).map .str)) [.str [97, 116]] = some (.int (ty.length : Nat), S) := fun S => m_index (a := wAt) ha
  generalize ((w1 :: (ty ++ wAt :: be)).drop 1).map D.str = q at *
  have h3 : ¬ (((w1 :: (ty ++ wAt :: be)).length : Int) + 1 < 2) := by simp; omega
  generalize ((w1 :: (ty ++ wAt :: be)).length : Int) = n at *
  have hlb := fun S => len_lw (S := S) (ws := be)
  have hm : ((be.length : Int) % 2) = 0 := by omega
  unfold wFr at e0
  generalize be.map D.str = Be at *
  simp (disch := (first | decide | assumption | (simp only [List.length_append, List.length_cons, List.length_nil, List.length_map] <;> omega) | omega)) [f_law_frame, e0, e1, h3, e2, hn, hi, recvOk, e3, hlb, hm, wWor]
theorem law_frame_B {w1 p : List Nat} {ty : List (List Nat)} {ps : List (List Nat × List Nat)} (ha : wAt ∉ ty) (hl : ps.length ≤ 1000 ∧ ty.length ≤ 1000) (hp : Wok p) (hps : ∀ q ∈ ps, Wok q.2) (S : Store) : callF fs fuel (l + 2) 19 [lw (wFr :: w1 :: (ty ++ wAt :: p :: flat2 ps))] S = .ok (if li p && ps.all (fun q => li q.2) then frameD w1 ty p ps else .str wInt) S := by
  rw [callF_succ (show fs[19]? = some f_law_frame from rfl) rfl]
  refine call_freeE (S' := []) rfl (lw_tops _) (by
    split
    · have : D.frees (ps.map fun q => .tup [.str q.1, .int (val q.2)]) = true := frees_mem.mpr fun d hd => by
        obtain ⟨q, _, rfl⟩ := List.mem_map.mp hd
        rfl
      simp [frameD, D.free, D.frees, frees_strs, this]
    · rfl) ?_
  obtain ⟨e0, e1, e2⟩ := seen wFr (w1 :: (ty ++ wAt :: p :: flat2 ps))
  have e3 : ∀ S : Store, cutD S (.lst ((wFr :: w1 :: (ty ++ wAt :: p :: flat2 ps)).map .str)) (some (2 + (ty.length : Int) + 1)) none = some (.lst ((p :: flat2 ps).map .str)) := fun S => by
    rw [cut_lst, cut_fr (by omega), ← List.map_drop]
    have : (2 + (ty.length : Int) + 1).toNat = ty.length + 1 + 1 + 1 := by omega
    rw [this, List.drop_succ_cons, List.drop_succ_cons, ← List.drop_drop, List.drop_left]
    rfl
  have e4 : ∀ S : Store, cutD S (.lst ((wFr :: w1 :: (ty ++ wAt :: p :: flat2 ps)).map .str)) (some 2) (some (2 + (ty.length : Int))) = some (.lst (ty.map .str)) := fun S => by
    rw [cut_lst, cut_mid (by omega) (by omega), ← List.map_take, ← List.map_drop]
    have : (2 + (ty.length : Int)).toNat = ty.length + 1 + 1 := by omega
    rw [this, List.take_succ_cons, List.take_succ_cons, List.take_left]
    rfl
  have e5 : ((wFr :: w1 :: (ty ++ wAt :: p :: flat2 ps)).map D.str)[1]? = some (.str w1) := rfl
  unfold lw
  generalize (wFr :: w1 :: (ty ++ wAt :: p :: flat2 ps)).map D.str = Q at *
  have hn : ∀ S, cmpM .notIn (.str [97, 116]) (.lst (((w1 :: (ty ++ wAt :: p :: flat2 ps)).drop 1).map .str)) S = .ok false S := fun S => by
    rw [ni_lst, decide_eq_true (by simp [wAt])]; rfl
  have hi : ∀ S : Store, mthD S .index (.lst (((w1 :: (ty ++ wAt :: p :: flat2 ps)).drop 1).map .str)) [.str [97, 116]] = some (.int (ty.length : Nat), S) := fun S => m_index (a := wAt) ha
  generalize ((w1 :: (ty ++ wAt :: p :: flat2 ps)).drop 1).map D.str = q at *
  have h3 : ¬ (((w1 :: (ty ++ wAt :: p :: flat2 ps)).length : Int) + 1 < 2) := by simp; omega
  generalize ((w1 :: (ty ++ wAt :: p :: flat2 ps)).length : Int) = n at *
  have hbl : (p :: flat2 ps).length = 2 * ps.length + 1 := by simp [flat2_len]
  have hlb : ∀ S : Store, bltD S .len [.lst ((p :: flat2 ps).map .str)] = some (.int ((2 * ps.length + 1 : Nat) : Int)) := fun S => by rw [len_lw, hbl]
  have hm : (((2 * ps.length + 1 : Nat) : Int) % 2) = 1 := by omega
  have g0 : ((p :: flat2 ps).map D.str)[0]? = some (.str p) := rfl
  have gE : ∀ i (hi : i < (p :: ps.map Prod.snd).length), ((p :: flat2 ps).map D.str)[2 * i]? = some (.str (p :: ps.map Prod.snd)[i]) := fun i hi => by
    cases i with
    | zero => rfl
    | succ i =>
      have hi2 : i < ps.length := by simpa using hi
      rw [show 2 * (i + 1) = 2 * i + 1 + 1 by omega, List.map_cons, List.getElem?_cons_succ, List.getElem?_map, flat2_odd, List.getElem?_eq_getElem hi2]
      simp
  have gO : ∀ i (hi : i < ps.length), ((p :: flat2 ps).map D.str)[2 * i + 1]? = some (.str ps[i].1) ∧ ((p :: flat2 ps).map D.str)[2 * i + 1 + 1]? = some (.str ps[i].2) := fun i hi => by
    constructor
    · rw [List.map_cons, List.getElem?_cons_succ, List.getElem?_map, flat2_even, List.getElem?_eq_getElem hi]; rfl
    · rw [List.map_cons, List.getElem?_cons_succ, List.getElem?_map, flat2_odd, List.getElem?_eq_getElem hi]; rfl
  generalize hBe : (p :: flat2 ps).map D.str = Be at *
  clear hBe
  have wE : ∀ w ∈ p :: ps.map Prod.snd, Wok w := fun w hw => by
    rcases List.mem_cons.mp hw with rfl | hw
    · exact hp
    · obtain ⟨q, hq, rfl⟩ := List.mem_map.mp hw
      exact hps q hq
  have hall : (li p && ps.all fun q => li q.2) = (p :: ps.map Prod.snd).all li := by simp [List.all_map, Function.comp_def]
  rw [hall]
  have hEl : (p :: ps.map Prod.snd).length = ps.length + 1 := by simp
  generalize hE : p :: ps.map Prod.snd = E at *
  have e6 : ∀ v3, compM (elG ⟨callF fs fuel (l + 1), fuel, l + 1⟩ [4] (.nm 4) (.cons f_law_frame_c1 .nil) f_law_frame_e1 [some (.lst Q), some (.int (2 + (ty.length : Int))), some (.lst Be), v3, none]) (rngK 0 2 (ps.length + 1)) 0 [] = .ok (((List.range (ps.length + 1)).filter fun i => !li (E.getD i [])).map fun (i : Nat) => .int (0 + (i : Int) * (2 : Nat))) [] := fun v3 => by
    refine compM_flt (fun i hi => ?_) (by simp; omega)
    have hi := List.mem_range.mp hi
    have hi2 : i < E.length := by omega
    have hw := law_int (fuel := fuel) (l := l) (w := E[i]) (by have := (wE _ (List.getElem_mem hi2)).1; omega) []
    have q0 : (0 : Int) ≤ (i : Int) * 2 := by omega
    have q1 : ((i : Int) * 2).toNat = 2 * i := by omega
    have hg := gE i hi2
    have hd : E.getD i [] = E[i] := by simp [hi2]
    rw [hd]
    cases hli : li E[i] with
    | true => rw [hli] at hw; exact el_f (by simp (disch := (first | decide | assumption | (simp only [List.length_append, List.length_cons, List.length_nil, List.length_map] <;> omega) | omega)) [wipeE, f_law_frame_c1, q1, hg, hw])
    | false => rw [hli] at hw; exact el_t (S1 := []) (by simp (disch := (first | decide | assumption | (simp only [List.length_append, List.length_cons, List.length_nil, List.length_map] <;> omega) | omega)) [wipeE, f_law_frame_c1, q1, hg, hw]) (by simp (disch := (first | decide | assumption | (simp only [List.length_append, List.length_cons, List.length_nil, List.length_map] <;> omega) | omega)) [wipeE, f_law_frame_e1])
  have e7 : (((List.range (ps.length + 1)).filter fun i => !li (E.getD i [])).map fun (i : Nat) => D.int (0 + (i : Int) * (2 : Nat))).isEmpty = E.all li := by
    rw [List.isEmpty_map, flt_empty, Bool.eq_iff_iff, List.all_eq_true, List.all_eq_true]
    constructor
    · intro h w hw
      obtain ⟨i, hi, rfl⟩ := List.getElem_of_mem hw
      have := h i (List.mem_range.mpr (by omega))
      simpa [hi] using this
    · intro h i hi
      have hi := List.mem_range.mp hi
      have hi2 : i < E.length := by omega
      have := h _ (List.getElem_mem hi2)
      simp [hi2, this]
  generalize (((List.range (ps.length + 1)).filter fun i => !li (E.getD i [])).map fun (i : Nat) => D.int (0 + (i : Int) * (2 : Nat))) = F at e6 e7
  have r1 : ∀ S : Store, rng3M (.int 0) (.int ((2 * ps.length + 1 : Nat) : Int)) 2 S = .ok (.xs (rngK 0 2 (ps.length + 1))) S := fun S => by rw [rng3M_ok (by omega) (by omega), rngN_even]
  have r2 : ∀ S : Store, rng3M (.int 1) (.int ((2 * ps.length + 1 : Nat) : Int)) 2 S = .ok (.xs (rngK 1 2 ps.length)) S := fun S => by rw [rng3M_ok (by omega) (by omega), rngN_odd]
  generalize hL : ((2 * ps.length + 1 : Nat) : Int) = L at *
  unfold wFr at e0
  cases hal : E.all li with
  | false =>
    rw [hal] at e7
    have hF : 0 < F.length := by cases F with
      | nil => cases e7
      | cons => simp
    simp (disch := (first | decide | assumption | (simp only [List.length_append, List.length_cons, List.length_nil, List.length_map] <;> omega) | omega)) [-x_comp, x_comp2, f_law_frame, e0, e1, h3, e2, hn, hi, recvOk, e3, hlb, hm, r1, e6, hF, wInt]
  | true =>
    rw [hal] at e7
    have hF : ¬ 0 < F.length := by rw [List.isEmpty_iff.mp e7]; simp
    have hlp : li p = true := List.all_eq_true.mp hal p (by rw [← hE]; simp)
    have hp0 := fun S => b_intS (S := S) (hp.int hlp).1
    have e8 : compM (elG ⟨callF fs fuel (l + 1), fuel, l + 1⟩ [4] (.nm 4) .nil f_law_frame_e0 [some (.lst Q), some (.int (2 + (ty.length : Int))), some (.lst Be), none, none]) (rngK 1 2 ps.length) 0 [] = .ok (ps.map fun q => .tup [.str q.1, .int (val q.2)]) [] := by
      refine compM_all ?_ (by simp [rngK]; omega)
      have := all2_rngK (lo := 1) (c := 2) (ys := ps.map fun q => D.tup [.str q.1, .int (val q.2)]) (R := fun x y => ∀ S, elG ⟨callF fs fuel (l + 1), fuel, l + 1⟩ [4] (.nm 4) .nil f_law_frame_e0 [some (.lst Q), some (.int (2 + (ty.length : Int))), some (.lst Be), none, none] x S = .ok (some y) S) fun i hi S => by
        have hi2 : i < ps.length := by simpa using hi
        obtain ⟨g1, g2⟩ := gO i hi2
        have hli : li ps[i].2 = true := List.all_eq_true.mp hal _ (by rw [← hE]; exact List.mem_cons_of_mem _ (List.mem_map_of_mem (List.getElem_mem hi2)))
        have hb := fun S => b_intS (S := S) ((hps _ (List.getElem_mem hi2)).int hli).1
        have q0 : (0 : Int) ≤ 1 + (i : Int) * 2 := by omega
        have q1 : (1 + (i : Int) * 2).toNat = 2 * i + 1 := by omega
        have q2 : (0 : Int) ≤ 1 + (i : Int) * 2 + 1 := by omega
        have q3 : (1 + (i : Int) * 2 + 1).toNat = 2 * i + 1 + 1 := by omega
        rw [List.getElem_map]
        exact el_nm (by simp (disch := (first | decide | assumption | (simp only [List.length_append, List.length_cons, List.length_nil, List.length_map] <;> omega) | omega)) [wipeE, f_law_frame_e0, q1, q3, g1, g2, hb])
      rwa [List.length_map] at this
    simp (disch := (first | decide | assumption | (simp only [List.length_append, List.length_cons, List.length_nil, List.length_map] <;> omega) | omega)) [-x_comp, x_comp2, f_law_frame, e0, e1, h3, e2, hn, hi, recvOk, e3, hlb, hm, r1, e6, hF, r2, e8, e5, e4, g0, hp0, frameD]
end Lw
set_option linter.all false
set_option maxRecDepth 100000
set_option maxHeartbeats 8000000
set_option exponentiation.threshold 4000
/-! K5j: the program's frame. -/
namespace Lw
open Fb
variable {fuel l : Nat}
theorem flt_one {t : Nat → Bool} {a : Nat} : ∀ {n : Nat}, a < n → (∀ i, i < n → t i = decide (i = a)) → (List.range n).filter t = [a]
  | 0, h, _ => by omega
  | n + 1, h, ht => by
    rw [List.range_succ, List.filter_append]
    by_cases e : a = n
    · subst e
      have h1 : (List.range a).filter t = [] := List.filter_eq_nil_iff.mpr fun i hi => by
        have hi := List.mem_range.mp hi
        rw [ht i (by omega), decide_eq_false (by omega)]; simp
      rw [h1, List.filter_cons_of_pos (by rw [ht a (by omega)]; simp)]; rfl
    · rw [flt_one (n := n) (by omega) fun i hi => ht i (by omega), List.filter_cons_of_neg (by rw [ht n (by omega), decide_eq_false (fun z => e z.symm)]; simp)]; rfl
theorem flt_none {t : Nat → Bool} {n : Nat} (ht : ∀ i, i < n → t i = false) : (List.range n).filter t = [] := List.filter_eq_nil_iff.mpr fun i hi => by
  rw [ht i (List.mem_range.mp hi)]; simp
theorem stp_lst {S : Store} {xs : List D} {lo k : Nat} : stpD S (.lst xs) lo k = some (.lst (stepL k 0 (xs.drop lo))) := (rfl)
/-- where at stands -/
theorem ats_comp {C : Cf} {n0 : D} {ws : List (List Nat)} {n : Nat} (hn : 2 + n ≤ ws.length) (hl : n ≤ 10000) {v3 v5 v6 v7 : Option D} : compM (elG C [4] (.nm 4) (.cons f_read_frame_c1 .nil) f_read_frame_e1 [some n0, some (.lst (ws.map .str)), none, v3, none, v5, v6, v7]) (rngD 2 n) 0 [] = .ok (((List.range n).filter fun i => ws.getD (2 + i) [] == wAt).map fun (i : Nat) => .int (2 + (i : Int))) [] := by
  refine compM_flt (fun i hi => ?_) (by simp; omega)
  have hi := List.mem_range.mp hi
  have hi2 : 2 + i < ws.length := by omega
  have q0 : (0 : Int) ≤ 2 + (i : Int) := by omega
  have q1 : (2 + (i : Int)).toNat = 2 + i := by omega
  have hg : (ws.map D.str)[2 + i]? = some (.str ws[2 + i]) := by rw [List.getElem?_map, List.getElem?_eq_getElem hi2]; rfl
  have hd : ws.getD (2 + i) [] = ws[2 + i] := by simp [hi2]
  rw [hd]
  unfold wAt
  generalize ws.map D.str = Q at *
  cases h : ws[2 + i] == [97, 116] with
  | true => exact el_t (S1 := []) (by simp (disch := (first | decide | assumption | (simp only [List.length_append, List.length_cons, List.length_nil, List.length_map] <;> omega) | omega)) [wipeE, f_read_frame_c1, q1, hg, h]) (by simp (disch := (first | decide | assumption | (simp only [List.length_append, List.length_cons, List.length_nil, List.length_map] <;> omega) | omega)) [wipeE, f_read_frame_e1])
  | false => exact el_f (S1 := []) (by simp (disch := (first | decide | assumption | (simp only [List.length_append, List.length_cons, List.length_nil, List.length_map] <;> omega) | omega)) [wipeE, f_read_frame_c1, q1, hg, h])
theorem getD_at {ws : List (List Nat)} {i : Nat} (h : i < ws.length) : ws.getD i [] = ws[i] := by simp [h]
theorem fr_tops (n : Int) (ws : List (List Nat)) : D.tops [.int n, lw ws] = 0 := tops_free (by simp [lw, D.frees, D.free, frees_strs])
theorem read_frame_A {n : Int} {w0 : List Nat} {r : List (List Nat)} (hl : r.length ≤ 1000) (h : w0 ≠ wFr ∨ wAt ∉ r.drop 1) (S : Store) : callF fs fuel (l + 3) 7 [.int n, lw (w0 :: r)] S = .exc 0 [.int n, .str wWor] S := by
  rw [callF_succ (show fs[7]? = some f_read_frame from rfl) rfl]
  obtain ⟨e0, e1, e2⟩ := seen w0 r
  have er : ∀ S : Store, rng2M (.int 2) (.int ((r.length : Int) + 1 - 1)) S = .ok (.xs (rngD 2 ((r.length : Int) + 1 - 1 - 2).toNat)) S := fun S => rng2M_ok (by omega)
  have ec := fun v3 v5 v6 v7 => ats_comp (C := ⟨callF fs fuel (l + 2), fuel, l + 2⟩) (n0 := .int n) (ws := w0 :: r) (n := ((r.length : Int) + 1 - 1 - 2).toNat) (v3 := v3) (v5 := v5) (v6 := v6) (v7 := v7)
  by_cases h0 : w0 = wFr
  · have h1 := h.resolve_left (fun z => z h0)
    have hF : (List.range ((r.length : Int) + 1 - 1 - 2).toNat).filter (fun i => (w0 :: r).getD (2 + i) [] == wAt) = [] := flt_none fun i hi => by
      have hi2 : 2 + i < (w0 :: r).length := by simp; omega
      have hd : (w0 :: r).getD (2 + i) [] = (w0 :: r)[2 + i] := getD_at hi2
      rw [hd]
      refine neq fun z => h1 ?_
      rw [← z]
      have : (w0 :: r).drop 2 = r.drop 1 := rfl
      rw [← this]
      have hm : ((w0 :: r).drop 2)[i]'(by simp; omega) = (w0 :: r)[2 + i] := List.getElem_drop ..
      rw [← hm]
      exact List.getElem_mem _
    by_cases hr : 1 ≤ r.length
    · have ec := ec none none none none (by simp; omega) (by omega)
      rw [hF] at ec
      refine call_freeX (S' := []) (σ := [some (.int n), some (lw (w0 :: r)), some (.lst []), none, none, none, none, none]) rfl (fr_tops n _) rfl ?_
      unfold lw
      generalize (w0 :: r).map D.str = Q at *
      rw [h0, wFr] at e0
      generalize ((r.length : Int) + 1 - 1 - 2).toNat = N at *
      generalize ((r.length : Int) + 1) = L at *
      simp (disch := (first | decide | assumption | (simp only [List.length_append, List.length_cons, List.length_nil, List.length_map] <;> omega) | omega)) [-x_comp, x_comp2, f_read_frame, e0, e1, er, ec, wWor]
    · have : r = [] := List.eq_nil_of_length_eq_zero (by omega)
      subst this
      subst h0
      refine call_freeX (S' := []) (σ := [some (.int n), some (lw [wFr]), some (.lst []), none, none, none, none, none]) rfl (fr_tops n _) rfl ?_
      have er : ∀ S : Store, rng2M (.int 2) (.int 0) S = .ok (.xs []) S := fun S => rng2M_ok (by omega)
      have ec : ∀ f k, compM f ([] : List D) k ([] : Store) = .ok [] [] := fun f k => rfl
      simp (disch := (first | decide | assumption | (simp only [List.length_append, List.length_cons, List.length_nil, List.length_map] <;> omega) | omega)) [-x_comp, x_comp2, f_read_frame, lw, wFr, er, ec, wWor]
  · have h2 := neq h0
    unfold wFr at h2
    by_cases hr : 1 ≤ r.length
    · have ec := ec none none none none (by simp; omega) (by omega)
      generalize (List.map (fun (i : Nat) => D.int (2 + (i : Int))) ((List.range ((r.length : Int) + 1 - 1 - 2).toNat).filter fun i => (w0 :: r).getD (2 + i) [] == wAt)) = F at ec
      refine call_freeX (S' := []) (σ := [some (.int n), some (lw (w0 :: r)), some (.lst F), none, none, none, none, none]) rfl (fr_tops n _) rfl ?_
      unfold lw
      generalize (w0 :: r).map D.str = Q at *
      generalize ((r.length : Int) + 1 - 1 - 2).toNat = N at *
      generalize ((r.length : Int) + 1) = L at *
      simp (disch := (first | decide | assumption | (simp only [List.length_append, List.length_cons, List.length_nil, List.length_map] <;> omega) | omega)) [-x_comp, x_comp2, f_read_frame, e0, e1, er, ec, h2, wWor]
    · have : r = [] := List.eq_nil_of_length_eq_zero (by omega)
      subst this
      refine call_freeX (S' := []) (σ := [some (.int n), some (lw [w0]), some (.lst []), none, none, none, none, none]) rfl (fr_tops n _) rfl ?_
      have er : ∀ S : Store, rng2M (.int 2) (.int 0) S = .ok (.xs []) S := fun S => rng2M_ok (by omega)
      have ec : ∀ f k, compM f ([] : List D) k ([] : Store) = .ok [] [] := fun f k => rfl
      simp (disch := (first | decide | assumption | (simp only [List.length_append, List.length_cons, List.length_nil, List.length_map] <;> omega) | omega)) [-x_comp, x_comp2, f_read_frame, lw, er, ec, h2, wWor]
/-- a frame's words with one at -/
theorem ats_B {w1 : List Nat} {ty be : List (List Nat)} (ha : wAt ∉ ty) (hb : wAt ∉ be) {n : Nat} (hn : n ≤ ty.length + be.length) : (List.range n).filter (fun i => (wFr :: w1 :: (ty ++ wAt :: be)).getD (2 + i) [] == wAt) = if ty.length < n then [ty.length] else [] := by
  have key : ∀ i, i < n → ((wFr :: w1 :: (ty ++ wAt :: be)).getD (2 + i) [] == wAt) = decide (i = ty.length) := fun i hi => by
    have e : (wFr :: w1 :: (ty ++ wAt :: be)).getD (2 + i) [] = (ty ++ wAt :: be).getD i [] := by
      rw [show 2 + i = i + 1 + 1 by omega]; rfl
    rw [e]
    by_cases h1 : i < ty.length
    · rw [decide_eq_false (by omega)]
      refine neq fun z => ha ?_
      rw [← z, getD_at (by simp; omega), List.getElem_append_left h1]
      exact List.getElem_mem _
    · by_cases h2 : i = ty.length
      · subst h2
        simp
      · rw [decide_eq_false h2]
        refine neq fun z => hb ?_
        rw [← z, getD_at (by simp; omega), List.getElem_append_right (by omega)]
        obtain ⟨j, hj⟩ : ∃ j, i - ty.length = j + 1 := ⟨i - ty.length - 1, by omega⟩
        simp only [hj, List.getElem_cons_succ]
        exact List.getElem_mem _
  by_cases h : ty.length < n
  · rw [if_pos h]; exact flt_one h key
  · rw [if_neg h]; exact flt_none fun i hi => by rw [key i hi, decide_eq_false (by omega)]
theorem read_frame_B0 {n : Int} {w1 : List Nat} {ty : List (List Nat)} (ha : wAt ∉ ty) (hl : ty.length ≤ 1000) (S : Store) : callF fs fuel (l + 3) 7 [.int n, lw (wFr :: w1 :: (ty ++ [wAt]))] S = .exc 0 [.int n, .str wWor] S := by
  rw [callF_succ (show fs[7]? = some f_read_frame from rfl) rfl]
  obtain ⟨e0, e1, e2⟩ := seen wFr (w1 :: (ty ++ [wAt]))
  have hr : ((w1 :: (ty ++ [wAt])).length : Int) + 1 - 1 - 2 = (ty.length : Nat) := by simp; omega
  have er : ∀ S : Store, rng2M (.int 2) (.int (((w1 :: (ty ++ [wAt])).length : Int) + 1 - 1)) S = .ok (.xs (rngD 2 ty.length)) S := fun S => by
    rw [rng2M_ok (by simp; omega), hr]; rfl
  have ec := ats_comp (C := ⟨callF fs fuel (l + 2), fuel, l + 2⟩) (n0 := .int n) (ws := wFr :: w1 :: (ty ++ [wAt])) (n := ty.length) (v3 := none) (v5 := none) (v6 := none) (v7 := none) (by simp; omega) (by omega)
  rw [ats_B ha (by simp) (by simp), if_neg (by omega)] at ec
  refine call_freeX (S' := []) (σ := [some (.int n), some (lw (wFr :: w1 :: (ty ++ [wAt]))), some (.lst []), none, none, none, none, none]) rfl (fr_tops n _) rfl ?_
  unfold lw
  generalize (wFr :: w1 :: (ty ++ [wAt])).map D.str = Q at *
  generalize ((w1 :: (ty ++ [wAt])).length : Int) = L at *
  simp only [Int.add_sub_cancel] at er
  unfold wFr at e0
  simp (disch := (first | decide | assumption | (simp only [List.length_append, List.length_cons, List.length_nil, List.length_map] <;> omega) | omega)) [-x_comp, x_comp2, f_read_frame, e0, e1, er, ec, wWor]
/-- with something behind -/
theorem read_frame_B {n : Int} {w1 p : List Nat} {ty rest : List (List Nat)} (ha : wAt ∉ ty) (hb : wAt ∉ p :: rest) (hl : ty.length ≤ 1000 ∧ rest.length ≤ 2001) (hp : Wok p) (S : Store) :
    (rest.length % 2 = 1 → callF fs fuel (l + 4) 7 [.int n, lw (wFr :: w1 :: (ty ++ wAt :: p :: rest))] S = .exc 0 [.int n, .str wWor] S) ∧
    ∀ ps, rest = flat2 ps → (∀ q ∈ ps, Wok q.2) → callF fs fuel (l + 4) 7 [.int n, lw (wFr :: w1 :: (ty ++ wAt :: p :: rest))] S = if li p && ps.all (fun q => li q.2) then .ok (frameD w1 ty p ps) S else .exc 0 [.int n, .str wInt] S := by
  rw [callF_succ (show fs[7]? = some f_read_frame from rfl) rfl]
  have hft := fr_tops n (wFr :: w1 :: (ty ++ wAt :: p :: rest))
  obtain ⟨e0, e1, e2⟩ := seen wFr (w1 :: (ty ++ wAt :: p :: rest))
  have hr : ((w1 :: (ty ++ wAt :: p :: rest)).length : Int) + 1 - 1 - 2 = ((ty.length + 1 + rest.length : Nat) : Int) := by simp; omega
  have er : ∀ S : Store, rng2M (.int 2) (.int (((w1 :: (ty ++ wAt :: p :: rest)).length : Int) + 1 - 1)) S = .ok (.xs (rngD 2 (ty.length + 1 + rest.length))) S := fun S => by
    rw [rng2M_ok (by simp; omega), hr]; rfl
  have ec := ats_comp (C := ⟨callF fs fuel (l + 3), fuel, l + 3⟩) (n0 := .int n) (ws := wFr :: w1 :: (ty ++ wAt :: p :: rest)) (n := ty.length + 1 + rest.length) (v3 := none) (v5 := none) (v6 := none) (v7 := none) (by simp; omega) (by omega)
  rw [ats_B ha hb (by simp; omega), if_pos (by omega)] at ec
  have g1 : ((wFr :: w1 :: (ty ++ wAt :: p :: rest)).map D.str)[1]? = some (.str w1) := rfl
  have gp : ((wFr :: w1 :: (ty ++ wAt :: p :: rest)).map D.str)[ty.length + 3]? = some (.str p) := by
    rw [List.getElem?_map, List.getElem?_cons_succ, List.getElem?_cons_succ, List.getElem?_append_right (by omega)]
    simp
  have c1 : ∀ S : Store, cutD S (.lst ((wFr :: w1 :: (ty ++ wAt :: p :: rest)).map .str)) (some (2 + (ty.length : Int) + 2)) none = some (.lst (rest.map .str)) := fun S => by
    rw [cut_lst, cut_fr (by omega), ← List.map_drop]
    have : (2 + (ty.length : Int) + 2).toNat = ty.length + 1 + 1 + 1 + 1 := by omega
    rw [this, List.drop_succ_cons, List.drop_succ_cons, ← List.drop_drop, List.drop_left]
    rfl
  have c2 : ∀ S : Store, cutD S (.lst ((wFr :: w1 :: (ty ++ wAt :: p :: rest)).map .str)) (some (2 + (ty.length : Int) + 1)) (some (2 + (ty.length : Int) + 2)) = some (.lst [.str p]) := fun S => by
    rw [cut_lst, cut_mid (by omega) (by omega), ← List.map_take, ← List.map_drop]
    have h1 : (2 + (ty.length : Int) + 2).toNat = ty.length + 2 + 1 + 1 := by omega
    have h2 : (2 + (ty.length : Int) + 1).toNat = ty.length + 1 + 1 + 1 := by omega
    rw [h1, h2, List.take_succ_cons, List.take_succ_cons, List.drop_succ_cons, List.drop_succ_cons, List.take_append, List.drop_append]
    simp
  have c3 : ∀ S : Store, cutD S (.lst ((wFr :: w1 :: (ty ++ wAt :: p :: rest)).map .str)) (some 2) (some (2 + (ty.length : Int))) = some (.lst (ty.map .str)) := fun S => by
    rw [cut_lst, cut_mid (by omega) (by omega), ← List.map_take, ← List.map_drop]
    have : (2 + (ty.length : Int)).toNat = ty.length + 1 + 1 := by omega
    rw [this, List.take_succ_cons, List.take_succ_cons, List.take_left]
    rfl
  unfold lw at *
  generalize (wFr :: w1 :: (ty ++ wAt :: p :: rest)).map D.str = Q at *
  generalize ((w1 :: (ty ++ wAt :: p :: rest)).length : Int) = L at *
  simp only [Int.add_sub_cancel] at er
  have q0 : (0 : Int) ≤ 2 + (ty.length : Int) + 1 := by omega
  have q1 : (2 + (ty.length : Int) + 1).toNat = ty.length + 3 := by omega
  have hw := written (fuel := fuel) (l := l + 2) hp
  have e4 : compM (elG ⟨callF fs fuel (l + 3), fuel, l + 3⟩ [4] (.nm 4) (.cons f_read_frame_c0 .nil) f_read_frame_e0 [some (.int n), some (.lst Q), some (.lst [.int (2 + (ty.length : Int))]), none, none, none, none, none]) [.int (2 + (ty.length : Int))] 0 [] = .ok (if li p then [.int (2 + (ty.length : Int))] else []) [] := by
    have := compM_flt (f := elG ⟨callF fs fuel (l + 3), fuel, l + 3⟩ [4] (.nm 4) (.cons f_read_frame_c0 .nil) f_read_frame_e0 [some (.int n), some (.lst Q), some (.lst [.int (2 + (ty.length : Int))]), none, none, none, none, none]) (S := []) (x := fun d : D => d) (y := fun d : D => d) (t := fun _ => li p) (as := [.int (2 + (ty.length : Int))]) (k := 0) (fun d hd => by
      rw [List.mem_singleton.mp hd]
      cases h : li p with
      | true =>
        have hw2 : ∀ S, callF fs fuel (l + 3) 2 [.str p] S = .ok (.int (val p)) S := fun S => by rw [hw S]; unfold wD; rw [h]; rfl
        exact el_t (S1 := []) (by simp (disch := (first | decide | assumption | (simp only [List.length_append, List.length_cons, List.length_nil, List.length_map] <;> omega) | omega)) [wipeE, f_read_frame_c0, q1, gp, hw2]) (by simp (disch := (first | decide | assumption | (simp only [List.length_append, List.length_cons, List.length_nil, List.length_map] <;> omega) | omega)) [wipeE, f_read_frame_e0])
      | false =>
        have hw2 : ∀ S, callF fs fuel (l + 3) 2 [.str p] S = .ok .non S := fun S => by rw [hw S]; unfold wD; rw [h]; rfl
        exact el_f (S1 := []) (by simp (disch := (first | decide | assumption | (simp only [List.length_append, List.length_cons, List.length_nil, List.length_map] <;> omega) | omega)) [wipeE, f_read_frame_c0, q1, gp, hw2])) (by simp)
    cases h : li p with
    | true => rw [h] at this; simpa using this
    | false => rw [h] at this; simpa using this
  have hlr := fun S => len_lw (S := S) (ws := rest)
  unfold wFr at e0
  generalize hT : 2 + (ty.length : Int) = T at *
  have i1 := fun S => integers (fuel := fuel) (l := l) (ws := [p]) (by simpa using hp) (by simp) n S
  simp only [List.map_cons, List.map_nil, List.all_cons, List.all_nil, Bool.and_true] at i1
  refine ⟨fun hodd => ?_, fun ps he hps => ?_⟩
  · have hm : ((rest.length : Int) % 2) = 1 := by omega
    generalize (rest.length : Int) = rl at *
    generalize rest.map D.str = R at *
    cases h : li p with
    | true =>
      rw [h, if_pos rfl] at e4
      refine call_freeX (S' := []) (σ := [some (.int n), some (.lst Q), some (.lst [.int T]), some (.lst [.int T]), some (.int T), some (.lst R), none, none]) rfl hft rfl ?_
      simp (disch := (first | decide | assumption | (simp only [List.length_append, List.length_cons, List.length_nil, List.length_map] <;> omega) | omega)) [-x_comp, x_comp2, f_read_frame, e0, e1, er, ec, hT, srcD, e4, c1, hlr, hm, wWor]
    | false =>
      rw [h, if_neg (by simp)] at e4
      refine call_freeX (S' := []) (σ := [some (.int n), some (.lst Q), some (.lst [.int T]), some (.lst []), some (.int T), some (.lst R), none, none]) rfl hft rfl ?_
      simp (disch := (first | decide | assumption | (simp only [List.length_append, List.length_cons, List.length_nil, List.length_map] <;> omega) | omega)) [-x_comp, x_comp2, f_read_frame, e0, e1, er, ec, hT, srcD, e4, c1, hlr, hm, wWor]
  · subst he
    have hlf := flat2_len ps
    have hm : ((flat2 ps).length : Int) % 2 = 0 := by omega
    have hpl : ps.length ≤ 2001 := by omega
    have s1 := step_odd ps
    rw [List.drop_one] at s1
    have s2 := step_even ps
    have i2 := fun S => integers (fuel := fuel) (l := l) (ws := ps.map Prod.snd) (fun w hw => by
      obtain ⟨q, hq, rfl⟩ := List.mem_map.mp hw
      exact hps q hq) (by simp; omega) n S
    have ei : ((ps.map Prod.snd).map D.str) = ps.map fun q => .str q.2 := by simp
    rw [ei] at i2
    have ea : (ps.map Prod.snd).all li = ps.all fun q => li q.2 := by simp [List.all_map, Function.comp_def]
    rw [ea] at i2
    have ew : (ps.map Prod.snd).map wD = ps.map fun q => wD q.2 := by simp
    rw [ew] at i2
    generalize ((flat2 ps).length : Int) = rl at *
    generalize (flat2 ps).map D.str = R at *
    generalize hO : ps.map (fun q => D.str q.2) = O at *
    cases h : li p with
    | false =>
      rw [h, if_neg (by simp)] at e4
      rw [h] at i1
      simp only [Bool.false_eq_true, if_false, Bool.false_and] at i1 ⊢
      refine call_freeX (S' := []) (σ := [some (.int n), some (.lst Q), some (.lst [.int T]), some (.lst []), some (.int T), some (.lst R), none, none]) rfl hft rfl ?_
      simp (disch := (first | decide | assumption | (simp only [List.length_append, List.length_cons, List.length_nil, List.length_map] <;> omega) | omega)) [-x_comp, x_comp2, f_read_frame, e0, e1, er, ec, hT, srcD, e4, c1, c2, hlr, hm, i1, wInt]
    | true =>
      rw [h, if_pos rfl] at e4
      rw [h] at i1
      simp only [if_true, Bool.true_and] at i1 ⊢
      have hwp : wD p = .int (val p) := by unfold wD; rw [h]; rfl
      rw [hwp] at i1
      cases h2 : ps.all fun q => li q.2 with
      | false =>
        rw [h2] at i2
        simp only [Bool.false_eq_true, if_false] at i2 ⊢
        refine call_freeX (S' := []) (σ := [some (.int n), some (.lst Q), some (.lst [.int T]), some (.lst [.int T]), some (.int T), some (.lst R), some (.int (val p)), none]) rfl hft rfl ?_
        simp (disch := (first | decide | assumption | (simp only [List.length_append, List.length_cons, List.length_nil, List.length_map] <;> omega) | omega)) [-x_comp, x_comp2, f_read_frame, e0, e1, er, ec, hT, srcD, e4, c1, c2, hlr, hm, i1, stp_lst, s1, i2, wInt]
      | true =>
        rw [h2] at i2
        simp only [if_true] at i2 ⊢
        have hz : zipD (ps.map fun q => D.str q.1) (ps.map fun q => wD q.2) = ps.map fun q => .tup [.str q.1, .int (val q.2)] := by
          rw [zip_map]
          refine List.map_congr_left fun q hq => ?_
          have : li q.2 = true := List.all_eq_true.mp h2 q hq
          unfold wD
          rw [this]; rfl
        have hfr : D.frees (ps.map fun q => .tup [.str q.1, .int (val q.2)]) = true := frees_mem.mpr fun d hd => by
          obtain ⟨q, _, rfl⟩ := List.mem_map.mp hd
          rfl
        refine call_freeE (S' := []) rfl hft (by simp [frameD, D.free, D.frees, frees_strs, hfr]) ?_
        unfold frameD
        rw [← hz]
        generalize (ps.map fun q => D.str q.1) = PE at *
        generalize (ps.map fun q => wD q.2) = PO at *
        have sq1 : ∀ S : Store, seqOf S (.lst PE) = some PE := fun _ => rfl
        have sq2 : ∀ S : Store, seqOf S (.tup PO) = some PO := fun _ => rfl
        simp (disch := (first | decide | assumption | (simp only [List.length_append, List.length_cons, List.length_nil, List.length_map] <;> omega) | omega)) [-x_comp, x_comp2, f_read_frame, e0, e1, er, ec, hT, srcD, e4, c1, c2, c3, hlr, hm, i1, stp_lst, s1, s2, i2, g1, sq1, sq2]
end Lw
set_option linter.all false
set_option maxRecDepth 100000
set_option maxHeartbeats 8000000
set_option exponentiation.threshold 4000
/-! K5k: a line's words. -/
namespace Lw
open Fb
variable {fuel l : Nat}
inductive Rs where
  | bad (w : List Nat) | good (d : D)
def pairs : List (List Nat) → List (List Nat × List Nat)
  | a :: b :: r => (a, b) :: pairs r
  | _ => []
theorem pairs_flat : ∀ ps : List (List Nat × List Nat), pairs (flat2 ps) = ps
  | [] => rfl
  | p :: r => by
    show (p.1, p.2) :: pairs (flat2 r) = _
    rw [pairs_flat r]
def beh (w1 : List Nat) (ty be : List (List Nat)) : Rs := match be with
  | [] => .bad wWor
  | p :: rest => if rest.length % 2 = 1 then .bad wWor else if li p && (pairs rest).all (fun q => li q.2) then .good (frameD w1 ty p (pairs rest)) else .bad wInt
def stF (ws : List (List Nat)) : Rs := match ws with
  | w0 :: w1 :: r => if w0 = wFr ∧ wAt ∈ r then beh w1 (r.takeWhile (fun w => w != wAt)) ((r.dropWhile (fun w => w != wAt)).drop 1) else .bad wWor
  | _ => .bad wWor
/-- words that both read alike -/
structure Gw (ws : List (List Nat)) : Prop where
  ok : ∀ w ∈ ws, Wok w
  one : ws.count wAt ≤ 1
theorem at_split {r : List (List Nat)} (h : wAt ∈ r) : ∃ ty be, r = ty ++ wAt :: be ∧ wAt ∉ ty ∧ r.takeWhile (fun w => w != wAt) = ty ∧ (r.dropWhile (fun w => w != wAt)).drop 1 = be := by
  induction r with
  | nil => cases h
  | cons w r ih =>
    by_cases e : w = wAt
    · subst e
      exact ⟨[], r, rfl, by simp, by simp, by simp⟩
    · obtain ⟨ty, be, h1, h2, h3, h4⟩ := ih ((List.mem_cons.mp h).resolve_left fun z => e z.symm)
      have e2 : (w != wAt) = true := by simpa using e
      refine ⟨w :: ty, be, by rw [h1]; rfl, fun z => ?_, by rw [List.takeWhile_cons, if_pos e2, h3], by rw [List.dropWhile_cons, if_pos e2, h4]⟩
      rcases List.mem_cons.mp z with z | z
      · exact e z.symm
      · exact h2 z
def Rs.D : Rs → D
  | .bad w => .str w
  | .good d => d
def Rs.R (n : Int) (S : Store) : Rs → Res Fb.D
  | .bad w => .exc 0 [.int n, .str w] S
  | .good d => .ok d S
theorem frames {n : Int} {w0 : List Nat} {r : List (List Nat)} (hg : Gw (w0 :: r)) (hl : r.length ≤ 500) (S : Store) : callF fs fuel (l + 2) 19 [lw (w0 :: r)] S = .ok (stF (w0 :: r)).D S ∧ callF fs fuel (l + 4) 7 [.int n, lw (w0 :: r)] S = (stF (w0 :: r)).R n S := by
  by_cases h : w0 = wFr ∧ wAt ∈ r.drop 1
  · obtain ⟨rfl, h2⟩ := h
    cases r with
    | nil => simp at h2
    | cons w1 r =>
      have h2 : wAt ∈ r := h2
      obtain ⟨ty, be, e, ha, e3, e4⟩ := at_split h2
      have est : stF (wFr :: w1 :: r) = beh w1 ty be := by
        show (if wFr = wFr ∧ wAt ∈ r then _ else _) = _
        rw [if_pos ⟨rfl, h2⟩, e3, e4]
      rw [est]
      subst e
      have hbe : wAt ∉ be := fun z => by
        have := hg.one
        have h1 : 0 < be.count wAt := List.count_pos_iff.mpr z
        simp only [List.count_cons, List.count_append] at this
        simp at this
        omega
      have hll : ty.length ≤ 500 ∧ be.length ≤ 500 := by simp at hl; omega
      cases be with
      | nil => exact ⟨law_frame_B0 ha rfl (by simp; omega) S, read_frame_B0 ha (by omega) S⟩
      | cons p rest =>
        have hp : Wok p := hg.ok p (by simp)
        have hrl : rest.length ≤ 500 := by simp at hll; omega
        obtain ⟨b1, b2⟩ := read_frame_B (fuel := fuel) (l := l) (n := n) (w1 := w1) ha hbe (by omega) hp S
        by_cases hodd : rest.length % 2 = 1
        · have : beh w1 ty (p :: rest) = .bad wWor := if_pos hodd
          rw [this]
          exact ⟨law_frame_B0 ha (by simp; omega) (by simp; omega) S, b1 hodd⟩
        · obtain ⟨ps, rfl, hps⟩ := flat2_of (rest.length / 2) rest (by omega)
          have ok2 : ∀ q ∈ ps, Wok q.2 := fun q hq => hg.ok q.2 (by
            have : q.2 ∈ flat2 ps := List.mem_flatMap.mpr ⟨q, hq, by simp⟩
            simp [this])
          have : beh w1 ty (p :: flat2 ps) = if li p && ps.all (fun q => li q.2) then .good (frameD w1 ty p ps) else .bad wInt := by
            show (if (flat2 ps).length % 2 = 1 then _ else _) = _
            rw [if_neg hodd, pairs_flat]
          rw [this]
          have hpl : ps.length ≤ 500 := by omega
          have a1 := law_frame_B (fuel := fuel) (l := l) (w1 := w1) (p := p) (ty := ty) (ps := ps) ha (by omega) hp ok2 S
          have a2 := b2 ps rfl ok2
          rw [a1, a2]
          cases hc : (li p && ps.all fun q => li q.2) <;> exact ⟨rfl, rfl⟩
  · have est : stF (w0 :: r) = .bad wWor := by
      cases r with
      | nil => rfl
      | cons w1 r => exact if_neg h
    rw [est]
    have h' : w0 ≠ wFr ∨ wAt ∉ r.drop 1 := by
      by_cases e : w0 = wFr
      · exact .inr fun z => h ⟨e, z⟩
      · exact .inl e
    exact ⟨law_frame_A h' S, read_frame_A (by omega) h' S⟩
def wSt : List Nat := [115, 116, 101, 112, 115]
def wOu : List Nat := [111, 117, 116]
def st0 (w0 : List Nat) (r : List (List Nat)) : Rs := if w0 ≠ wSt ∨ r.length ≠ 1 then .bad wWor else if r.all li then .good (wD (r.getD 0 [])) else .bad wInt
def st1 (w0 : List Nat) (r : List (List Nat)) : Rs := if w0 ≠ wOu then .bad wWor else if r.all li then .good (.tup (r.map wD)) else .bad wInt
theorem read_steps {n : Int} {w0 : List Nat} {r : List (List Nat)} (hg : Gw (w0 :: r)) (hl : r.length ≤ 500) (S : Store) : callF fs fuel (l + 4) 8 [.int n, lw (w0 :: r)] S = (st0 w0 r).R n S := by
  rw [callF_succ (show fs[8]? = some f_read_steps from rfl) rfl]
  have hft := fr_tops n (w0 :: r)
  obtain ⟨e0, e1, e2⟩ := seen w0 r
  have c1 : ∀ S : Store, cutD S (.lst ((w0 :: r).map .str)) (some 1) none = some (.lst (r.map .str)) := fun S => by
    rw [cut_lst, cut_fr (by omega), ← List.map_drop]; rfl
  have i1 := fun S => integers (fuel := fuel) (l := l) (ws := r) (fun w hw => hg.ok w (by simp [hw])) (by omega) n S
  unfold lw at *
  by_cases h0 : w0 = wSt
  · by_cases h1 : r.length = 1
    · have est : st0 w0 r = if r.all li then .good (wD (r.getD 0 [])) else .bad wInt := if_neg (by simp [h0, h1])
      rw [est]
      have hm : ((r.length : Int) + 1 != 2) = false := by simp; omega
      obtain ⟨w1, rfl⟩ : ∃ w1, r = [w1] := List.length_eq_one_iff.mp h1
      generalize (w0 :: [w1]).map D.str = Q at *
      rw [h0, wSt] at e0
      simp only [List.map_cons, List.map_nil, List.all_cons, List.all_nil, Bool.and_true, List.length_cons, List.length_nil] at *
      cases hc : li w1 with
      | true =>
        rw [hc] at i1
        refine call_freeE (S' := []) (d := wD w1) rfl hft (wD_free _) ?_
        simp (disch := (first | decide | assumption | (simp only [List.length_append, List.length_cons, List.length_nil, List.length_map] <;> omega) | omega)) [f_read_steps, e0, e1, c1, i1]
      | false =>
        rw [hc] at i1
        refine call_freeX (S' := []) (σ := [some (.int n), some (.lst Q)]) rfl hft rfl ?_
        simp (disch := (first | decide | assumption | (simp only [List.length_append, List.length_cons, List.length_nil, List.length_map] <;> omega) | omega)) [f_read_steps, e0, e1, c1, i1]
    · have est : st0 w0 r = .bad wWor := if_pos (.inr h1)
      rw [est]
      refine call_freeX (S' := []) (σ := [some (.int n), some (.lst ((w0 :: r).map .str))]) rfl hft rfl ?_
      have hm : ¬ ((r.length : Int) + 1 = 2) := by omega
      generalize (w0 :: r).map D.str = Q at *
      rw [h0, wSt] at e0
      generalize (r.length : Int) + 1 = L at *
      simp (disch := (first | decide | assumption | (simp only [List.length_append, List.length_cons, List.length_nil, List.length_map] <;> omega) | omega)) [f_read_steps, e0, e1, hm, wWor]
  · have est : st0 w0 r = .bad wWor := if_pos (.inl h0)
    rw [est]
    refine call_freeX (S' := []) (σ := [some (.int n), some (.lst ((w0 :: r).map .str))]) rfl hft rfl ?_
    have h2 := neq h0
    unfold wSt at h2
    generalize (w0 :: r).map D.str = Q at *
    simp (disch := (first | decide | assumption | (simp only [List.length_append, List.length_cons, List.length_nil, List.length_map] <;> omega) | omega)) [f_read_steps, e0, h2, wWor]
theorem read_out {n : Int} {w0 : List Nat} {r : List (List Nat)} (hg : Gw (w0 :: r)) (hl : r.length ≤ 500) (S : Store) : callF fs fuel (l + 4) 9 [.int n, lw (w0 :: r)] S = (st1 w0 r).R n S := by
  rw [callF_succ (show fs[9]? = some f_read_out from rfl) rfl]
  have hft := fr_tops n (w0 :: r)
  obtain ⟨e0, e1, e2⟩ := seen w0 r
  have c1 : ∀ S : Store, cutD S (.lst ((w0 :: r).map .str)) (some 1) none = some (.lst (r.map .str)) := fun S => by
    rw [cut_lst, cut_fr (by omega), ← List.map_drop]; rfl
  have i1 := fun S => integers (fuel := fuel) (l := l) (ws := r) (fun w hw => hg.ok w (by simp [hw])) (by omega) n S
  unfold lw at *
  by_cases h0 : w0 = wOu
  · have est : st1 w0 r = if r.all li then .good (.tup (r.map wD)) else .bad wInt := if_neg (by simp [h0])
    rw [est]
    have hfr := wDs_free r
    generalize (w0 :: r).map D.str = Q at *
    rw [h0, wOu] at e0
    generalize r.map D.str = R at *
    generalize r.map wD = W at *
    cases hc : r.all li with
    | true =>
      rw [hc] at i1
      simp only [if_true] at i1
      refine call_freeE (S' := []) (d := .tup W) rfl hft (by simpa [D.free] using hfr) ?_
      simp (disch := (first | decide | assumption | (simp only [List.length_append, List.length_cons, List.length_nil, List.length_map] <;> omega) | omega)) [f_read_out, e0, e1, c1, i1]
    | false =>
      rw [hc] at i1
      simp only [Bool.false_eq_true, if_false] at i1
      refine call_freeX (S' := []) (σ := [some (.int n), some (.lst Q)]) rfl hft rfl ?_
      simp (disch := (first | decide | assumption | (simp only [List.length_append, List.length_cons, List.length_nil, List.length_map] <;> omega) | omega)) [f_read_out, e0, e1, c1, i1]
  · have est : st1 w0 r = .bad wWor := if_pos h0
    rw [est]
    refine call_freeX (S' := []) (σ := [some (.int n), some (.lst ((w0 :: r).map .str))]) rfl hft rfl ?_
    have h2 := neq h0
    unfold wOu at h2
    generalize (w0 :: r).map D.str = Q at *
    simp (disch := (first | decide | assumption | (simp only [List.length_append, List.length_cons, List.length_nil, List.length_map] <;> omega) | omega)) [f_read_out, e0, h2, wWor]
end Lw
set_option linter.all false
set_option maxRecDepth 100000
set_option maxHeartbeats 8000000
set_option exponentiation.threshold 4000
/-! K5l: the program reads a state. -/
namespace Lw
open Fb
variable {fuel l : Nat}
theorem split_mem {c : Nat} : ∀ (x acc : List Nat), ∀ w ∈ splitD c acc x, w.length ≤ acc.length + x.length
  | [], acc, w, h => by
    rw [show splitD c acc [] = [acc] from rfl] at h
    rw [List.mem_singleton.mp h]; simp
  | a :: x, acc, w, h => by
    by_cases e : a = c
    · subst e
      rw [split_eq] at h
      rcases List.mem_cons.mp h with rfl | h
      · simp
      · have := split_mem x [] w h
        simp at this ⊢; omega
    · rw [split_ne e] at h
      have := split_mem x (acc ++ [a]) w h
      simp at this ⊢; omega
def isRem (ws : List (List Nat)) : Bool := match ws with
  | (c :: _) :: _ => c == 35
  | _ => false
def shownW (x : List Nat) : List (List Nat) := if isRem (wordsOf x) then [] else wordsOf x
def tlD (n : Nat) (x : List Nat) : D := .tup [.int ((n : Int) + 1), .str x, lw (shownW x)]
def tls : Nat → List (List Nat) → List D
  | _, [] => []
  | n, x :: r => tlD n x :: tls (n + 1) r
theorem tlD_free (n : Nat) (x : List Nat) : D.free (tlD n x) = true := by simp [tlD, lw, D.free, D.frees, frees_strs]
theorem tls_free : ∀ (n : Nat) (xs : List (List Nat)), D.frees (tls n xs) = true
  | _, [] => rfl
  | n, x :: r => by simp [tls, D.frees, tlD_free, tls_free (n + 1) r]
theorem tls_len : ∀ (n : Nat) (xs : List (List Nat)), (tls n xs).length = xs.length
  | _, [] => rfl
  | n, x :: r => by simp [tls, tls_len (n + 1) r]
theorem words_len (x : List Nat) : (wordsOf x).length ≤ x.length + 1 := Nat.le_trans (List.length_filter_le _ _) (split_len 32 x [])
theorem words_short {x w : List Nat} (h : w ∈ wordsOf x) : w.length ≤ x.length := by
  have := split_mem x [] w (List.mem_filter.mp h).1
  simpa using this
theorem words_comp {C : Cf} {i : Nat} {own : List Nat} {c e : IE} {σ : Ev} {x : List Nat} {S : Store} (hl : x.length ≤ 100000) (hi : i < σ.length) (hc : c = .cmp .ne (.var i) (.lit (.str []))) (he : e = .var i) : compM (elG C own (.nm i) (.cons c .nil) e σ) ((splitD 32 [] x).map .str) 0 S = .ok ((wordsOf x).map .str) S := by
  subst hc he
  refine compM_flt (t := nonE) (fun w hw => ?_) (by have := split_len 32 x []; omega)
  have hj : ((wipeE σ own).set i (some (D.str w)))[i]? = some (some (.str w)) := el_set hi
  cases h : nonE w with
  | true =>
    have h2 : (w == []) = false := by
      unfold nonE at h
      simpa using h
    exact el_t (S1 := S) (by simp (disch := (first | decide | assumption | (simp only [List.length_append, List.length_cons, List.length_nil, List.length_map] <;> omega) | omega)) [hj, h2]) (by simp (disch := (first | decide | assumption | (simp only [List.length_append, List.length_cons, List.length_nil, List.length_map] <;> omega) | omega)) [hj])
  | false =>
    have h2 : (w == []) = true := by
      unfold nonE at h
      simpa using h
    exact el_f (S1 := S) (by simp (disch := (first | decide | assumption | (simp only [List.length_append, List.length_cons, List.length_nil, List.length_map] <;> omega) | omega)) [hj, h2])
theorem told_turn {C : Cf} {v0 v2 v3 v4 v5 : Option D} {n : Nat} {x : List Nat} {done : List D} (hl : x.length ≤ 100000) (hd : done.length ≤ 100000) : ∃ w4 w5, patB (.tp [2, 3]) (fun σ' => exS C f_told_lines_b0 σ') (.tup [.int (n : Nat), .str x]) [v0, some (.cell 0), v2, v3, v4, v5] [.lst done] = .ok (.nx [v0, some (.cell 0), some (.int n), some (.str x), w4, w5]) [.lst (done ++ [tlD n x])] := by
  have es := fun S => m_split (S := S) (x := x) (c := 32) (by omega) (by omega)
  have ec := fun S => words_comp (C := C) (i := 5) (own := [5]) (σ := [v0, some (.cell 0), some (.int n), some (.str x), v4, v5]) (c := f_told_lines_c1) (e := f_told_lines_e1) (S := S) hl (by simp) rfl rfl
  have eA := m_app (S := [Cell.lst done]) (n := 0) (xs := done) (y := tlD n x) rfl (by omega)
  unfold tlD shownW lw at *
  generalize hW : wordsOf x = W at *
  cases W with
  | nil =>
    simp only [isRem, Bool.false_eq_true, if_false, List.map_nil] at eA ec
    refine ⟨some (.lst []), v5, ?_⟩
    simp (disch := (first | decide | assumption | (simp only [List.length_append, List.length_cons, List.length_nil, List.length_map] <;> omega) | omega)) [-x_comp, x_comp2, f_told_lines_b0, es, recvOk, srcD, ec, eA, isRem]
  | cons w r =>
    have hw : w ∈ wordsOf x := by rw [hW]; simp
    have h1 := words_mem hw
    have h2 := words_short hw
    obtain ⟨c, cs, rfl⟩ : ∃ c cs, w = c :: cs := by
      cases w with
      | nil => exact absurd rfl h1
      | cons c cs => exact ⟨c, cs, rfl⟩
    refine ⟨some (.lst (((c :: cs) :: r).map .str)), v5, ?_⟩
    have h0 : (((c :: cs) :: r).map D.str)[0]? = some (.str (c :: cs)) := rfl
    have hne : (((c :: cs) :: r).map D.str).isEmpty = false := rfl
    have hix := fun S => idx_str (S := S) (a := c :: cs) (i := 0) (by omega) (by omega)
    have hr : isRem ((c :: cs) :: r) = (c == 35) := rfl
    rw [hr] at eA ⊢
    generalize hQ : ((c :: cs) :: r).map D.str = Q at *
    by_cases hc : c = 35
    · subst hc
      simp only [if_true, List.map_nil, beq_self_eq_true] at eA ⊢
      simp (disch := (first | decide | assumption | (simp only [List.length_append, List.length_cons, List.length_nil, List.length_map] <;> omega) | omega)) [-x_comp, x_comp2, f_told_lines_b0, es, recvOk, srcD, ec, eA, h0, hne, hix]
    · have e : (c == 35) = false := by simpa using hc
      rw [e] at eA ⊢
      simp only [Bool.false_eq_true, if_false, hQ] at eA ⊢
      simp (disch := (first | decide | assumption | (simp only [List.length_append, List.length_cons, List.length_nil, List.length_map] <;> omega) | omega)) [-x_comp, x_comp2, f_told_lines_b0, es, recvOk, srcD, ec, eA, h0, hne, hix, hc]
theorem told_loop {C : Cf} {v0 : Option D} : ∀ (xs : List (List Nat)) (n : Nat) (done : List D) (v2 v3 v4 v5 : Option D), (∀ x ∈ xs, x.length ≤ 100000) → done.length + xs.length ≤ 100001 → ∃ σ', forL (patB (.tp [2, 3]) fun σ' => exS C f_told_lines_b0 σ') (enumD n (xs.map .str)) [v0, some (.cell 0), v2, v3, v4, v5] [.lst done] = .ok (.nx (v0 :: some (.cell 0) :: σ')) [.lst (done ++ tls n xs)]
  | [], n, done, v2, v3, v4, v5, _, _ => ⟨[v2, v3, v4, v5], by simp [tls, enumD, forL_nil]⟩
  | x :: r, n, done, v2, v3, v4, v5, h, hl => by
    simp only [List.length_cons] at hl
    obtain ⟨w4, w5, e⟩ := told_turn (C := C) (v0 := v0) (v2 := v2) (v3 := v3) (v4 := v4) (v5 := v5) (n := n) (x := x) (done := done) (h x List.mem_cons_self) (by omega)
    obtain ⟨σ', e2⟩ := told_loop (C := C) (v0 := v0) r (n + 1) (done ++ [tlD n x]) (some (.int n)) (some (.str x)) w4 w5 (fun y hy => h y (List.mem_cons_of_mem _ hy)) (by simp; omega)
    refine ⟨σ', ?_⟩
    show forL _ (.tup [.int n, .str x] :: enumD (n + 1) (r.map .str)) _ _ = _
    rw [forL_nx e, e2]
    simp [tls]
theorem told_lines {x : List Nat} (hl : x.length ≤ 100000) (S : Store) : callF fs fuel (l + 1) 0 [.str x] S = .ok (.lst (tls 0 (linesOf x))) S := by
  rw [callF_succ (show fs[0]? = some f_told_lines from rfl) rfl]
  have es := fun S => m_split (S := S) (x := x) (c := 10) (by omega) (by omega)
  obtain ⟨σ', e⟩ := told_loop (C := ⟨callF fs fuel l, fuel, l⟩) (v0 := some (.str x)) (linesOf x) 0 [] none none none none (fun y hy => by have := split_mem x [] y hy; simp at this; omega) (by have := split_len 10 x []; simp [linesOf]; omega)
  unfold linesOf at *
  refine call_freeZ (S' := [.lst (tls 0 (splitD 10 [] x))]) (d := .cell 0) rfl rfl ?_ (frz_cell 3 (Nat.zero_le _) rfl (tls_free 0 _))
  generalize (splitD 10 [] x).map D.str = Q at *
  simp (disch := (first | decide | assumption | (simp only [List.length_append, List.length_cons, List.length_nil, List.length_map] <;> omega) | omega)) [f_told_lines, es, recvOk, enumV, valL, e]
def wLim : List Nat := [108, 105, 109, 105, 116]
theorem need_short {n : Nat} {x : List Nat} (hl : x.length ≤ 100000) (S : Store) : callF fs fuel (l + 3) 1 [.int ((n : Int) + 1), .str x, .int 600] S = if 400 < x.length ∨ 600 < n + 1 then .exc 0 [.int ((n : Int) + 1), .str wLim] S else .ok .non S := by
  rw [callF_succ (show fs[1]? = some f_need_short from rfl) rfl]
  have hb := fun S => b_lenS (S := S) (a := x) (by omega)
  by_cases h1 : 400 < x.length
  · rw [if_pos (.inl h1)]
    have h1' : ((400 : Int) < (x.length : Int)) := by omega
    refine call_freeX (S' := []) (σ := [some (.int ((n : Int) + 1)), some (.str x), some (.int 600)]) rfl rfl rfl ?_
    simp (disch := (first | decide | assumption | (simp only [List.length_append, List.length_cons, List.length_nil, List.length_map] <;> omega) | omega)) [f_need_short, hb, h1', wLim]
  · have h1' : ¬ ((400 : Int) < (x.length : Int)) := by omega
    by_cases h2 : 600 < n + 1
    · rw [if_pos (.inr h2)]
      have h2' : ((600 : Int) < (n : Int) + 1) := by omega
      refine call_freeX (S' := []) (σ := [some (.int ((n : Int) + 1)), some (.str x), some (.int 600)]) rfl rfl rfl ?_
      simp (disch := (first | decide | assumption | (simp only [List.length_append, List.length_cons, List.length_nil, List.length_map] <;> omega) | omega)) [f_need_short, hb, h1', h2', wLim]
    · rw [if_neg (by omega)]
      have h2' : ¬ ((600 : Int) < (n : Int) + 1) := by omega
      have e : exS ⟨callF fs fuel (l + 2), fuel, l + 2⟩ f_need_short.body ([D.int ((n : Int) + 1), .str x, .int 600].map some ++ List.replicate (f_need_short.nl - f_need_short.np) none) [] = .ok (.nx [some (.int ((n : Int) + 1)), some (.str x), some (.int 600)]) [] := by
        simp (disch := (first | decide | assumption | (simp only [List.length_append, List.length_cons, List.length_nil, List.length_map] <;> omega) | omega)) [f_need_short, hb, h1', h2']
      unfold callFn runFn
      rw [show f_need_short.keep = false from rfl, shown0 rfl]
      simp only [Bool.false_eq_true, if_false, List.take_zero, List.drop_zero, e]
      rfl
end Lw
set_option linter.all false
set_option maxRecDepth 100000
set_option maxHeartbeats 8000000
set_option exponentiation.threshold 4000
/-! K5m: the program reads a text. -/
namespace Lw
open Fb
variable {fuel l : Nat}
def st (k : Nat) (w0 : List Nat) (ws : List (List Nat)) : Rs := match k with
  | 0 => st0 w0 ws
  | 1 => st1 w0 ws
  | _ => stF (w0 :: ws)
inductive Oc where
  | ok (T : List D) | err (n : Nat) (w : List Nat)
def rd : Nat → List D → List (List Nat) → Oc
  | _, T, [] => .ok T
  | n, T, x :: r => if 400 < x.length ∨ 600 < n + 1 then .err (n + 1) wLim else match shownW x with
    | [] => rd (n + 1) T r
    | w0 :: ws => match st T.length w0 ws with
      | .bad w => .err (n + 1) w
      | .good d => rd (n + 1) (T ++ [d]) r
theorem frameD_free (w1 : List Nat) (ty : List (List Nat)) (p : List Nat) (ps : List (List Nat × List Nat)) : D.free (frameD w1 ty p ps) = true := by
  have : D.frees (ps.map fun q => .tup [.str q.1, .int (val q.2)]) = true := frees_mem.mpr fun d hd => by
    obtain ⟨q, _, rfl⟩ := List.mem_map.mp hd
    rfl
  simp [frameD, D.free, D.frees, frees_strs, this]
theorem good_free {k : Nat} {w0 : List Nat} {ws : List (List Nat)} {d : D} (h : st k w0 ws = .good d) : D.free d = true := by
  unfold st at h
  split at h
  · unfold st0 at h
    split at h
    · cases h
    · split at h
      · cases h; exact wD_free _
      · cases h
  · unfold st1 at h
    split at h
    · cases h
    · split at h
      · cases h; simpa [D.free] using wDs_free ws
      · cases h
  · unfold stF at h
    split at h
    · split at h
      · unfold beh at h
        split at h
        · cases h
        · split at h
          · cases h
          · split at h
            · cases h; exact frameD_free _ _ _ _
            · cases h
      · cases h
    · cases h
structure Gl (x : List Nat) : Prop where
  len : x.length ≤ 100000
  gw : Gw (wordsOf x)
theorem shown_gw {x w0 : List Nat} {ws : List (List Nat)} (h : Gl x) (e : shownW x = w0 :: ws) : Gw (w0 :: ws) ∧ wordsOf x = w0 :: ws := by
  unfold shownW at e
  split at e
  · cases e
  · rw [← e]; exact ⟨h.gw, rfl⟩
theorem read_turn {v0 v2 v3 v4 : Option D} {n : Nat} {x : List Nat} {T : List D} (hg : Gl x) (hT : T.length ≤ 100000) :
    (400 < x.length ∨ 600 < n + 1 → ∃ σ', patB (.tp [2, 3, 4]) (fun σ' => exS ⟨callF fs fuel (l + 4), fuel, l + 4⟩ f_read_state_b0 σ') (tlD n x) [v0, some (.cell 0), v2, v3, v4] [.lst T] = .ok (.xc 0 [.int ((n + 1 : Nat) : Int), .str wLim] σ') [.lst T]) ∧
    (¬ (400 < x.length ∨ 600 < n + 1) → shownW x = [] → ∃ v2' v3' v4', patB (.tp [2, 3, 4]) (fun σ' => exS ⟨callF fs fuel (l + 4), fuel, l + 4⟩ f_read_state_b0 σ') (tlD n x) [v0, some (.cell 0), v2, v3, v4] [.lst T] = .ok (.nx [v0, some (.cell 0), v2', v3', v4']) [.lst T]) ∧
    (¬ (400 < x.length ∨ 600 < n + 1) → ∀ w0 ws, shownW x = w0 :: ws → (∀ w, st T.length w0 ws = .bad w → ∃ σ', patB (.tp [2, 3, 4]) (fun σ' => exS ⟨callF fs fuel (l + 4), fuel, l + 4⟩ f_read_state_b0 σ') (tlD n x) [v0, some (.cell 0), v2, v3, v4] [.lst T] = .ok (.xc 0 [.int ((n + 1 : Nat) : Int), .str w] σ') [.lst T]) ∧
      ∀ d, st T.length w0 ws = .good d → ∃ v2' v3' v4', patB (.tp [2, 3, 4]) (fun σ' => exS ⟨callF fs fuel (l + 4), fuel, l + 4⟩ f_read_state_b0 σ') (tlD n x) [v0, some (.cell 0), v2, v3, v4] [.lst T] = .ok (.nx [v0, some (.cell 0), v2', v3', v4']) [.lst (T ++ [d])]) := by
  have hn := fun S => need_short (fuel := fuel) (l := l + 1) (n := n) (x := x) hg.len S
  have hc : (((n + 1 : Nat)) : Int) = (n : Int) + 1 := by omega
  rw [hc]
  refine ⟨fun hlim => ?_, fun hlim he => ?_, fun hlim w0 ws he => ?_⟩
  · simp only [if_pos hlim] at hn
    refine ⟨[v0, some (.cell 0), some (.int ((n : Int) + 1)), some (.str x), some (lw (shownW x))], ?_⟩
    unfold tlD
    generalize lw (shownW x) = L at *
    simp (disch := (first | decide | assumption | (simp only [List.length_append, List.length_cons, List.length_nil, List.length_map] <;> omega) | omega)) [f_read_state_b0, hn]
  · simp only [if_neg hlim] at hn
    refine ⟨some (.int ((n : Int) + 1)), some (.str x), some (lw []), ?_⟩
    unfold tlD
    rw [he]
    simp (disch := (first | decide | assumption | (simp only [List.length_append, List.length_cons, List.length_nil, List.length_map] <;> omega) | omega)) [f_read_state_b0, hn, lw]
  · simp only [if_neg hlim] at hn
    obtain ⟨gw, ew⟩ := shown_gw hg he
    have hwl : ws.length ≤ 500 := by
      have := words_len x
      rw [ew] at this
      simp at this
      omega
    have b0 := fun S => read_steps (fuel := fuel) (l := l) (n := (n : Int) + 1) gw hwl S
    have b1 := fun S => read_out (fuel := fuel) (l := l) (n := (n : Int) + 1) gw hwl S
    have b2 := fun S => (frames (fuel := fuel) (l := l) (n := (n : Int) + 1) gw hwl S).2
    have eA := fun d => m_app (S := [Cell.lst T]) (n := 0) (xs := T) (y := d) rfl (by omega)
    have hlen := len_cell (S := [Cell.lst T]) (n := 0) rfl
    have hne : ((w0 :: ws).map D.str).isEmpty = false := rfl
    unfold tlD
    rw [he]
    unfold lw at *
    generalize (w0 :: ws).map D.str = Q at *
    have cases3 : T.length = 0 ∨ T.length = 1 ∨ ∃ k, T.length = k + 2 := by
      match T.length with
      | 0 => exact .inl rfl
      | 1 => exact .inr (.inl rfl)
      | k + 2 => exact .inr (.inr ⟨k, rfl⟩)
    rcases cases3 with h0 | h0 | ⟨k, h0⟩
    · rw [h0] at hlen ⊢
      have est : st 0 w0 ws = st0 w0 ws := rfl
      rw [est]
      refine ⟨fun w hb => ?_, fun d hb => ?_⟩
      · rw [hb] at b0
        unfold Rs.R at b0
        refine ⟨[v0, some (.cell 0), some (.int ((n : Int) + 1)), some (.str x), some (.lst Q)], ?_⟩
        simp (disch := (first | decide | assumption | (simp only [List.length_append, List.length_cons, List.length_nil, List.length_map] <;> omega) | omega)) [f_read_state_b0, hn, hne, hlen, b0, recvOk]
      · rw [hb] at b0
        unfold Rs.R at b0
        refine ⟨some (.int ((n : Int) + 1)), some (.str x), some (.lst Q), ?_⟩
        simp (disch := (first | decide | assumption | (simp only [List.length_append, List.length_cons, List.length_nil, List.length_map] <;> omega) | omega)) [f_read_state_b0, hn, hne, hlen, b0, recvOk, eA]
    · rw [h0] at hlen ⊢
      have est : st 1 w0 ws = st1 w0 ws := rfl
      rw [est]
      refine ⟨fun w hb => ?_, fun d hb => ?_⟩
      · rw [hb] at b1
        unfold Rs.R at b1
        refine ⟨[v0, some (.cell 0), some (.int ((n : Int) + 1)), some (.str x), some (.lst Q)], ?_⟩
        simp (disch := (first | decide | assumption | (simp only [List.length_append, List.length_cons, List.length_nil, List.length_map] <;> omega) | omega)) [f_read_state_b0, hn, hne, hlen, b1, recvOk]
      · rw [hb] at b1
        unfold Rs.R at b1
        refine ⟨some (.int ((n : Int) + 1)), some (.str x), some (.lst Q), ?_⟩
        simp (disch := (first | decide | assumption | (simp only [List.length_append, List.length_cons, List.length_nil, List.length_map] <;> omega) | omega)) [f_read_state_b0, hn, hne, hlen, b1, recvOk, eA]
    · rw [h0] at hlen ⊢
      have est : st (k + 2) w0 ws = stF (w0 :: ws) := rfl
      rw [est]
      have z0 : (((k + 2 : Nat) : Int) == 0) = false := by simp; omega
      have z1 : (((k + 2 : Nat) : Int) == 1) = false := by simp; omega
      generalize ((k + 2 : Nat) : Int) = K at *
      refine ⟨fun w hb => ?_, fun d hb => ?_⟩
      · rw [hb] at b2
        unfold Rs.R at b2
        refine ⟨[v0, some (.cell 0), some (.int ((n : Int) + 1)), some (.str x), some (.lst Q)], ?_⟩
        simp (disch := (first | decide | assumption | (simp only [List.length_append, List.length_cons, List.length_nil, List.length_map] <;> omega) | omega)) [f_read_state_b0, hn, hne, hlen, b2, recvOk, z0, z1]
      · rw [hb] at b2
        unfold Rs.R at b2
        refine ⟨some (.int ((n : Int) + 1)), some (.str x), some (.lst Q), ?_⟩
        simp (disch := (first | decide | assumption | (simp only [List.length_append, List.length_cons, List.length_nil, List.length_map] <;> omega) | omega)) [f_read_state_b0, hn, hne, hlen, b2, recvOk, eA, z0, z1]
end Lw
set_option linter.all false
set_option maxRecDepth 100000
set_option maxHeartbeats 8000000
set_option exponentiation.threshold 4000
/-! K5n: what is heard. -/
namespace Lw
open Fb
variable {fuel l : Nat}
/-- how a reading's loop ends -/
def LoopE (v0 : Option D) (r : Res Fl) : Oc → Prop
  | .ok T => ∃ σ', r = .ok (.nx (v0 :: some (.cell 0) :: σ')) [.lst T]
  | .err n w => ∃ σ' T', r = .ok (.xc 0 [.int (n : Nat), .str w] σ') [.lst T']
theorem read_loop {v0 : Option D} : ∀ (xs : List (List Nat)) (n : Nat) (T : List D) (v2 v3 v4 : Option D), (∀ x ∈ xs, Gl x) → T.length + xs.length ≤ 100000 →
    LoopE v0 (forL (patB (.tp [2, 3, 4]) fun σ' => exS ⟨callF fs fuel (l + 4), fuel, l + 4⟩ f_read_state_b0 σ') (tls n xs) [v0, some (.cell 0), v2, v3, v4] [.lst T]) (rd n T xs)
  | [], n, T, v2, v3, v4, _, _ => ⟨[v2, v3, v4], rfl⟩
  | x :: r, n, T, v2, v3, v4, h, hl => by
    simp only [List.length_cons] at hl
    obtain ⟨t1, t2, t3⟩ := read_turn (fuel := fuel) (l := l) (v0 := v0) (v2 := v2) (v3 := v3) (v4 := v4) (n := n) (x := x) (T := T) (h x List.mem_cons_self) (by omega)
    have hr : ∀ y ∈ r, Gl y := fun y hy => h y (List.mem_cons_of_mem _ hy)
    show LoopE v0 (forL _ (tlD n x :: tls (n + 1) r) _ _) _
    by_cases hlim : 400 < x.length ∨ 600 < n + 1
    · have e : rd n T (x :: r) = .err (n + 1) wLim := if_pos hlim
      rw [e]
      obtain ⟨σ', e1⟩ := t1 hlim
      exact ⟨σ', T, forL_stop e1 (.inr ⟨_, _, _, rfl⟩)⟩
    · cases hs : shownW x with
      | nil =>
        have e : rd n T (x :: r) = rd (n + 1) T r := by
          show (if 400 < x.length ∨ 600 < n + 1 then _ else _) = _
          rw [if_neg hlim, hs]
        rw [e]
        obtain ⟨u2, u3, u4, e1⟩ := t2 hlim hs
        rw [forL_nx e1]
        exact read_loop r (n + 1) T u2 u3 u4 hr (by omega)
      | cons w0 ws =>
        obtain ⟨s1, s2⟩ := t3 hlim w0 ws hs
        cases hst : st T.length w0 ws with
        | bad w =>
          have e : rd n T (x :: r) = .err (n + 1) w := by
            show (if 400 < x.length ∨ 600 < n + 1 then _ else _) = _
            rw [if_neg hlim, hs]
            simp only [hst]
          rw [e]
          obtain ⟨σ', e1⟩ := s1 w hst
          exact ⟨σ', T, forL_stop e1 (.inr ⟨_, _, _, rfl⟩)⟩
        | good d =>
          have e : rd n T (x :: r) = rd (n + 1) (T ++ [d]) r := by
            show (if 400 < x.length ∨ 600 < n + 1 then _ else _) = _
            rw [if_neg hlim, hs]
            simp only [hst]
          rw [e]
          obtain ⟨u2, u3, u4, e1⟩ := s2 d hst
          rw [forL_nx e1]
          exact read_loop r (n + 1) (T ++ [d]) u2 u3 u4 hr (by simp; omega)
theorem rd_free : ∀ (xs : List (List Nat)) (n : Nat) (T T' : List D), D.frees T = true → rd n T xs = .ok T' → D.frees T' = true ∧ T'.length ≤ T.length + xs.length
  | [], n, T, T', h, e => by cases e; exact ⟨h, by simp⟩
  | x :: r, n, T, T', h, e => by
    by_cases hlim : 400 < x.length ∨ 600 < n + 1
    · rw [show rd n T (x :: r) = .err (n + 1) wLim from if_pos hlim] at e; cases e
    · have e' : rd n T (x :: r) = (match shownW x with
        | [] => rd (n + 1) T r
        | w0 :: ws => match st T.length w0 ws with
          | .bad w => .err (n + 1) w
          | .good d => rd (n + 1) (T ++ [d]) r) := if_neg hlim
      rw [e'] at e
      split at e
      · have := rd_free r (n + 1) T T' h e
        exact ⟨this.1, by simp; omega⟩
      · split at e
        · cases e
        · rename_i w0 ws hs d hst
          have hd := good_free hst
          have := rd_free r (n + 1) (T ++ [d]) T' (by rw [frees_app, h]; simp [D.frees, hd]) e
          exact ⟨this.1, by have := this.2; simp at this ⊢; omega⟩
def outT (T : List D) : D := .tup [T.getD 0 .non, T.getD 1 .non, .tup (T.drop 2)]
/-- what a text tells, or the error's fields -/
inductive An where
  | told (d : D) | line (n : Nat) (w : List Nat)
def an (x : List Nat) : An := match rd 0 [] (linesOf x) with
  | .err n w => .line n w
  | .ok T => if T.length < 2 then .line ((linesOf x).length + 1) wWor else .told (outT T)
def An.R (S : Store) : An → Res D
  | .told d => .ok d S
  | .line n w => .exc 0 [.int (n : Nat), .str w] S
def wTold : List Nat := [116, 111, 108, 100]
def wLine : List Nat := [108, 105, 110, 101]
def An.D : An → D
  | .told d => .tup [.str wTold, d]
  | .line n w => .tup [.str wLine, .int (n : Nat), .str w]
theorem outT_free {T : List D} (h : D.frees T = true) : D.free (outT T) = true := by
  have h1 : ∀ i, D.free (T.getD i .non) = true := fun i => by
    by_cases hi : i < T.length
    · rw [show T.getD i .non = T[i] by simp [hi]]
      exact frees_mem.mp h _ (List.getElem_mem hi)
    · rw [show T.getD i .non = .non by simp; rw [List.getElem?_eq_none (by omega)]; rfl]; rfl
  have h2 : D.frees (T.drop 2) = true := frees_mem.mpr fun d hd => frees_mem.mp h d (List.mem_of_mem_drop hd)
  simp only [outT, D.free, D.frees, h1, h2, Bool.and_self]
/-- a text of right lines -/
structure Gt (x : List Nat) : Prop where
  len : x.length ≤ 90000
  gl : ∀ y ∈ linesOf x, Gl y
theorem cut_cell {S : Store} {n : Nat} {xs : List D} {lo hi : Option Int} (h : S[n]? = some (.lst xs)) : cutD S (.cell n) lo hi = some (.lst (cutL xs lo hi)) := by
  show (lstOf S (.cell n)).map (fun xs => D.lst (cutL xs lo hi)) = _
  have : lstOf S (.cell n) = some xs := by
    show (match S[n]? with
      | some (.lst xs) => some xs
      | none => none) = _
    rw [h]
  rw [this]; rfl
theorem read_state {x : List Nat} (h : Gt x) (S : Store) : callF fs fuel (l + 5) 10 [.str x] S = (an x).R S := by
  rw [callF_succ (show fs[10]? = some f_read_state from rfl) rfl]
  have h1 := h.len
  have hll : (linesOf x).length ≤ x.length + 1 := split_len 10 x []
  have lp := read_loop (fuel := fuel) (l := l) (v0 := some (.str x)) (linesOf x) 0 [] none none none h.gl (by simp; omega)
  have et := fun S => told_lines (fuel := fuel) (l := l + 3) (x := x) (by omega) S
  have hcn : ((countD 10 x : Nat) : Int) + 2 = (((linesOf x).length + 1 : Nat) : Int) := by
    have := count_lines 10 x []
    unfold linesOf
    rw [this]; omega
  have e3 : ∀ S : Store, callF fs fuel (l + 4) 3 [.str x] S = .ok (.int (((linesOf x).length + 1 : Nat) : Int)) S := fun S => by
    rw [callF_succ (show fs[3]? = some f_last_line from rfl) rfl]
    refine call_freeE (S' := []) rfl rfl rfl ?_
    have hc := fun S => m_count (S := S) (x := x) (c := 10)
    rw [← hcn]
    simp (disch := (first | decide | assumption | (simp only [List.length_append, List.length_cons, List.length_nil, List.length_map] <;> omega) | omega)) [f_last_line, hc, recvOk]
  generalize hNL : (linesOf x).length + 1 = NL at e3
  unfold an
  cases hrd : rd 0 [] (linesOf x) with
  | err n w =>
    rw [hrd] at lp
    obtain ⟨σ', T', e⟩ := lp
    generalize tls 0 (linesOf x) = TL at *
    refine call_freeX (S' := [.lst T']) (σ := σ') rfl rfl rfl ?_
    simp (disch := (first | decide | assumption | (simp only [List.length_append, List.length_cons, List.length_nil, List.length_map] <;> omega) | omega)) [f_read_state, et, srcD, e]
  | ok T =>
    rw [hrd] at lp
    obtain ⟨σ', e⟩ := lp
    obtain ⟨hf, hTl⟩ := rd_free _ _ _ _ rfl hrd
    generalize tls 0 (linesOf x) = TL at *
    have hlen := len_cell (S := [Cell.lst T]) (n := 0) rfl
    by_cases h2 : T.length < 2
    · simp only [if_pos h2, hNL]
      refine call_freeX (S' := [.lst T]) (σ := some (.str x) :: some (.cell 0) :: σ') rfl rfl rfl ?_
      have h2i : ((T.length : Int) < 2) := by omega
      simp (disch := (first | decide | assumption | (simp only [List.length_append, List.length_cons, List.length_nil, List.length_map] <;> omega) | omega)) [f_read_state, et, srcD, e, hlen, h2i, e3, wWor]
    · simp only [if_neg h2]
      refine call_freeE (S' := [.lst T]) rfl rfl (outT_free hf) ?_
      obtain ⟨a, b, r, rfl⟩ : ∃ a b r, T = a :: b :: r := by
        match T, h2 with
        | [], h => exact absurd (by simp) h
        | [_], h => exact absurd (by simp) h
        | a :: b :: r, _ => exact ⟨a, b, r, rfl⟩
      have hc := cut_cell (S := [Cell.lst (a :: b :: r)]) (n := 0) (lo := some 2) (hi := none) rfl
      rw [cut_fr (by omega)] at hc
      have e2 : (a :: b :: r).drop (2 : Int).toNat = r := rfl
      rw [e2] at hc
      have hd : outT (a :: b :: r) = .tup [a, b, .tup r] := rfl
      rw [hd]
      have hlen : bltD [Cell.lst (a :: b :: r)] .len [.cell 0] = some (.int ((r.length : Int) + 1 + 1)) := by rw [hlen]; rfl
      have h3 : ¬ ((r.length : Int) + 1 + 1 < 2) := by omega
      simp (disch := (first | decide | assumption | (simp only [List.length_append, List.length_cons, List.length_nil, List.length_map] <;> omega) | omega)) [f_read_state, et, srcD, e, hlen, h3, hc]
theorem heard {x : List Nat} (h : Gt x) (S : Store) : callF fs fuel (l + 6) 21 [.str x] S = .ok (an x).D S := by
  rw [callF_succ (show fs[21]? = some f_law_heard from rfl) rfl]
  have e := fun S => read_state (fuel := fuel) (l := l) h S
  have hf : D.free (an x).D = true := by
    unfold an
    cases hrd : rd 0 [] (linesOf x) with
    | err n w => rfl
    | ok T =>
      obtain ⟨hf, _⟩ := rd_free _ _ _ _ rfl hrd
      by_cases h2 : T.length < 2
      · simp only [if_pos h2]; rfl
      · simp only [if_neg h2]
        simp [An.D, D.free, D.frees, outT_free hf]
  refine call_freeE (S' := []) rfl rfl hf ?_
  cases ha : an x with
  | told d =>
    rw [ha] at e
    unfold An.R at e
    have ex : ∀ hs, exS ⟨callF fs fuel (l + 5), fuel, l + 5⟩ (.try (.seq (.ret (.tup (.cons (.lit (.str [116, 111, 108, 100])) (.cons (.call 10 (.cons (.var 0) .nil)) .nil)))) .skip) hs) [some (.str x), none] [] = .ok (.rt (.tup [.str [116, 111, 108, 100], d])) [] := fun hs => x_try_ok (by simp (disch := (first | decide | assumption | (simp only [List.length_append, List.length_cons, List.length_nil, List.length_map] <;> omega) | omega)) [e]) (fun _ _ _ z => nomatch z)
    simp (disch := (first | decide | assumption | (simp only [List.length_append, List.length_cons, List.length_nil, List.length_map] <;> omega) | omega)) [f_law_heard, ex, An.D, wTold]
  | line n w =>
    rw [ha] at e
    unfold An.R at e
    have ex := fun hs => x_try_xc (C := ⟨callF fs fuel (l + 5), fuel, l + 5⟩) (b := .seq (.ret (.tup (.cons (.lit (.str [116, 111, 108, 100])) (.cons (.call 10 (.cons (.var 0) .nil)) .nil)))) .skip) (hs := hs) (c := 0) (as := [.int n, .str w]) (δ := [some (.str x), none]) (S' := []) (σ := [some (.str x), none]) (S := []) (by simp (disch := (first | decide | assumption | (simp only [List.length_append, List.length_cons, List.length_nil, List.length_map] <;> omega) | omega)) [e])
    simp (disch := (first | decide | assumption | (simp only [List.length_append, List.length_cons, List.length_nil, List.length_map] <;> omega) | omega)) [f_law_heard, ex, An.D, wLine, hdS, evH, evHs]
end Lw
set_option linter.all false
set_option maxRecDepth 100000
set_option maxHeartbeats 8000000
set_option exponentiation.threshold 4000
/-! K5o: the law reads a text. -/
namespace Lw
open Fb
variable {fuel l : Nat}
theorem forL_ct {f : D → Ev → M Fl} {x : D} {r : List D} {σ σ' : Ev} {S S' : Store} (h : f x σ S = .ok (.ct σ') S') : forL f (x :: r) σ S = forL f r σ' S' := by
  show Res.bnd (f x σ S) _ = _
  rw [h]; rfl
theorem bad_ints {C : Cf} {l' : Nat} (hC : C = ⟨callF fs fuel (l' + 1), fuel, l' + 1⟩) {σ : Ev} (h7 : σ.length = 8) {ws : List (List Nat)} (hw : ∀ w ∈ ws, Wok w) (hl : ws.length ≤ 10000) {S : Store} : ∃ F : List D, F.isEmpty = ws.all li ∧ compM (elG C [7] (.nm 7) (.cons f_law_reading_c2 .nil) f_law_reading_e2 σ) (ws.map .str) 0 S = .ok F S := by
  subst hC
  refine ⟨(ws.filter fun w => !li w).map .str, ?_, compM_flt (t := fun w => !li w) (fun w hm => ?_) (by omega)⟩
  · rw [List.isEmpty_map, flt_empty]; simp
  · have e := fun S => law_int (fuel := fuel) (l := l') (w := w) (by have := (hw w hm).1; omega) S
    have hj : ((wipeE σ [7]).set 7 (some (D.str w)))[7]? = some (some (.str w)) := el_set (by omega)
    cases h : li w with
    | true => rw [h] at e; exact el_f (S1 := S) (by simp (disch := (first | decide | assumption | (simp only [List.length_append, List.length_cons, List.length_nil, List.length_map] <;> omega) | omega)) [hj, f_law_reading_c2, e])
    | false => rw [h] at e; exact el_t (S1 := S) (by simp (disch := (first | decide | assumption | (simp only [List.length_append, List.length_cons, List.length_nil, List.length_map] <;> omega) | omega)) [hj, f_law_reading_c2, e]) (by simp (disch := (first | decide | assumption | (simp only [List.length_append, List.length_cons, List.length_nil, List.length_map] <;> omega) | omega)) [hj, f_law_reading_e2])
theorem good_ints {C : Cf} {σ : Ev} (h7 : σ.length = 8) {ws : List (List Nat)} (hw : ∀ w ∈ ws, Wok w) (ha : ws.all li = true) (hl : ws.length ≤ 10000) {S : Store} : compM (elG C [7] (.nm 7) .nil f_law_reading_e1 σ) (ws.map .str) 0 S = .ok (ws.map wD) S := by
  refine compM_map (fun w hm => ?_) (by omega)
  have hli : li w = true := List.all_eq_true.mp ha w hm
  have hb := fun S => b_intS (S := S) ((hw w hm).int hli).1
  have hwd : wD w = .int (val w) := by unfold wD; rw [hli]; rfl
  have hj : ((wipeE σ [7]).set 7 (some (D.str w)))[7]? = some (some (.str w)) := el_set (by omega)
  rw [hwd]
  exact el_nm (by simp (disch := (first | decide | assumption | (simp only [List.length_append, List.length_cons, List.length_nil, List.length_map] <;> omega) | omega)) [hj, f_law_reading_e1, hb])
theorem stF_tup {ws : List (List Nat)} {d : D} (h : stF ws = .good d) : ∃ xs, d = .tup xs := by
  unfold stF at h
  split at h
  · split at h
    · unfold beh at h
      split at h
      · cases h
      · split at h
        · cases h
        · split at h
          · cases h; exact ⟨_, rfl⟩
          · cases h
    · cases h
  · cases h
def LoopR (v0 v1 : Option D) (r : Res Fl) : Oc → Prop
  | .ok T => ∃ σ', r = .ok (.nx (v0 :: v1 :: some (.cell 0) :: some (.cell 1) :: σ')) [.lst (T.take 2), .lst (T.drop 2)]
  | .err n w => ∃ S', r = .ok (.rt (An.line n w).D) S'
/-- what a turn does -/
theorem law_turn {v0 v4 v5 v6 v7 : Option D} {Q : List D} {n : Nat} {x : List Nat} {T : List D} (hg : Gl x) (hT : T.length ≤ 100000) (hQ : Q[n]? = some (.str x)) :
    (400 < x.length ∨ 600 < n + 1 → ∃ S', patB (.nm 4) (fun σ' => exS ⟨callF fs fuel (l + 3), fuel, l + 3⟩ f_law_reading_b0 σ') (.int (n : Nat)) [v0, some (.lst Q), some (.cell 0), some (.cell 1), v4, v5, v6, v7] [.lst (T.take 2), .lst (T.drop 2)] = .ok (.rt (An.line (n + 1) wLim).D) S') ∧
    (¬ (400 < x.length ∨ 600 < n + 1) → shownW x = [] → ∃ v4' v5' v6' v7', patB (.nm 4) (fun σ' => exS ⟨callF fs fuel (l + 3), fuel, l + 3⟩ f_law_reading_b0 σ') (.int (n : Nat)) [v0, some (.lst Q), some (.cell 0), some (.cell 1), v4, v5, v6, v7] [.lst (T.take 2), .lst (T.drop 2)] = .ok (.ct [v0, some (.lst Q), some (.cell 0), some (.cell 1), v4', v5', v6', v7']) [.lst (T.take 2), .lst (T.drop 2)]) ∧
    (¬ (400 < x.length ∨ 600 < n + 1) → ∀ w0 ws, shownW x = w0 :: ws → (∀ w, st T.length w0 ws = .bad w → ∃ S', patB (.nm 4) (fun σ' => exS ⟨callF fs fuel (l + 3), fuel, l + 3⟩ f_law_reading_b0 σ') (.int (n : Nat)) [v0, some (.lst Q), some (.cell 0), some (.cell 1), v4, v5, v6, v7] [.lst (T.take 2), .lst (T.drop 2)] = .ok (.rt (An.line (n + 1) w).D) S') ∧
      ∀ d, st T.length w0 ws = .good d → ∃ v4' v5' v6' v7' o, patB (.nm 4) (fun σ' => exS ⟨callF fs fuel (l + 3), fuel, l + 3⟩ f_law_reading_b0 σ') (.int (n : Nat)) [v0, some (.lst Q), some (.cell 0), some (.cell 1), v4, v5, v6, v7] [.lst (T.take 2), .lst (T.drop 2)] = .ok o [.lst ((T ++ [d]).take 2), .lst ((T ++ [d]).drop 2)] ∧ (o = .nx [v0, some (.lst Q), some (.cell 0), some (.cell 1), v4', v5', v6', v7'] ∨ o = .ct [v0, some (.lst Q), some (.cell 0), some (.cell 1), v4', v5', v6', v7'])) := by
  have hc : (((n + 1 : Nat)) : Int) = (n : Int) + 1 := by omega
  have hx := hg.len
  have hb := fun S => b_lenS (S := S) (a := x) (by omega)
  have es := fun S => m_split (S := S) (x := x) (c := 32) (by omega) (by omega)
  have q0 : (0 : Int) ≤ (n : Int) := by omega
  have hAn : ∀ w, (An.line (n + 1) w).D = .tup [.str [108, 105, 110, 101], .int ((n : Int) + 1), .str w] := fun w => by rw [← hc]; rfl
  simp only [hAn]
  refine ⟨fun hlim => ?_, fun hlim he => ?_, fun hlim w0 ws he => ?_⟩
  · refine ⟨[.lst (T.take 2), .lst (T.drop 2)], ?_⟩
    by_cases h1 : ((599 : Int) < (n : Int))
    · simp (disch := (first | decide | assumption | (simp only [List.length_append, List.length_cons, List.length_nil, List.length_map] <;> omega) | omega)) [f_law_reading_b0, h1, wLim]
    · have h2 : ((400 : Int) < (x.length : Int)) := by omega
      simp (disch := (first | decide | assumption | (simp only [List.length_append, List.length_cons, List.length_nil, List.length_map] <;> omega) | omega)) [f_law_reading_b0, h1, hQ, hb, h2, wLim]
  · have h1 : ¬ ((599 : Int) < (n : Int)) := by omega
    have h2 : ¬ ((400 : Int) < (x.length : Int)) := by omega
    have ec := fun S => words_comp (C := ⟨callF fs fuel (l + 3), fuel, l + 3⟩) (i := 7) (own := [7]) (σ := [v0, some (.lst Q), some (.cell 0), some (.cell 1), some (.int n), v5, v6, v7]) (c := f_law_reading_c3) (e := f_law_reading_e3) (S := S) hx (by simp) rfl rfl
    unfold shownW at he
    generalize hW : wordsOf x = W at *
    cases W with
    | nil =>
      simp only [List.map_nil] at ec
      refine ⟨some (.int n), some (.lst []), v6, v7, ?_⟩
      simp (disch := (first | decide | assumption | (simp only [List.length_append, List.length_cons, List.length_nil, List.length_map] <;> omega) | omega)) [-x_comp, x_comp2, f_law_reading_b0, h1, hQ, hb, h2, es, recvOk, srcD, ec]
    | cons w r =>
      have hw : w ∈ wordsOf x := by rw [hW]; simp
      have hws := words_short hw
      obtain ⟨c, cs, rfl⟩ : ∃ c cs, w = c :: cs := by
        cases w with
        | nil => exact absurd rfl (words_mem hw)
        | cons c cs => exact ⟨c, cs, rfl⟩
      have hr : isRem ((c :: cs) :: r) = (c == 35) := rfl
      rw [hr] at he
      have hc35 : c = 35 := by
        by_cases z : c = 35
        · exact z
        · have : (c == 35) = false := by simpa using z
          rw [this] at he
          cases he
      subst hc35
      have h0 : ((((35 : Nat) :: cs) :: r).map D.str)[0]? = some (.str (35 :: cs)) := rfl
      have hne := fun S => len_lw (S := S) (ws := (35 :: cs) :: r)
      have hnz : ¬ (((((35 : Nat) :: cs) :: r).length : Int) = 0) := by simp; omega
      have hix := fun S => idx_str (S := S) (a := 35 :: cs) (i := 0) (by omega) (by omega)
      generalize (((35 : Nat) :: cs) :: r).map D.str = WQ at *
      generalize ((((35 : Nat) :: cs) :: r).length : Int) = L at *
      refine ⟨some (.int n), some (.lst WQ), v6, v7, ?_⟩
      simp (disch := (first | decide | assumption | (simp only [List.length_append, List.length_cons, List.length_nil, List.length_map] <;> omega) | omega)) [-x_comp, x_comp2, f_law_reading_b0, h1, hQ, hb, h2, es, recvOk, srcD, ec, hne, hnz, h0, hix]
  · have h1 : ¬ ((599 : Int) < (n : Int)) := by omega
    have h2 : ¬ ((400 : Int) < (x.length : Int)) := by omega
    have ec := fun S => words_comp (C := ⟨callF fs fuel (l + 3), fuel, l + 3⟩) (i := 7) (own := [7]) (σ := [v0, some (.lst Q), some (.cell 0), some (.cell 1), some (.int n), v5, v6, v7]) (c := f_law_reading_c3) (e := f_law_reading_e3) (S := S) hx (by simp) rfl rfl
    obtain ⟨gw, ew⟩ := shown_gw hg he
    have hwl : ws.length ≤ 500 := by
      have := words_len x
      rw [ew] at this
      simp at this
      omega
    have hw : w0 ∈ wordsOf x := by rw [ew]; simp
    have hws := words_short hw
    have hrem : isRem (w0 :: ws) = false := by
      unfold shownW at he
      rw [ew] at he
      cases h : isRem (w0 :: ws) with
      | true => rw [h] at he; cases he
      | false => rfl
    obtain ⟨c, cs, rfl⟩ : ∃ c cs, w0 = c :: cs := by
      cases w0 with
      | nil => exact absurd rfl (words_mem hw)
      | cons c cs => exact ⟨c, cs, rfl⟩
    have hc35 : (c == 35) = false := hrem
    have hc35 : ¬ c = 35 := by simpa using hc35
    rw [ew] at ec
    obtain ⟨e0, e1, e2⟩ := seen (c :: cs) ws
    have hix := fun S => idx_str (S := S) (a := c :: cs) (i := 0) (by omega) (by omega)
    have c1 : ∀ S : Store, cutD S (.lst (((c :: cs) :: ws).map .str)) (some 1) none = some (.lst (ws.map .str)) := fun S => by
      rw [cut_lst, cut_fr (by omega), ← List.map_drop]; rfl
    have b2 := fun S => (frames (fuel := fuel) (l := l + 1) (n := 0) gw hwl S).1
    have hwok : ∀ w ∈ ws, Wok w := fun w hw => gw.ok w (by simp [hw])
    have g1 : ws.length = 1 → (((c :: cs) :: ws).map D.str)[1]? = some (.str (ws.getD 0 [])) := fun h => by
      obtain ⟨w1, rfl⟩ := List.length_eq_one_iff.mp h
      rfl
    unfold lw at *
    generalize hWQ : ((c :: cs) :: ws).map D.str = WQ at *
    have hnz : ¬ ((ws.length : Int) + 1 = 0) := by omega
    have cases3 : T.length = 0 ∨ T.length = 1 ∨ ∃ k, T.length = k + 2 := by
      match T.length with
      | 0 => exact .inl rfl
      | 1 => exact .inr (.inl rfl)
      | k + 2 => exact .inr (.inr ⟨k, rfl⟩)
    have hB := fun hl S => bad_ints (fuel := fuel) (l' := l + 2) (C := ⟨callF fs fuel (l + 3), fuel, l + 3⟩) rfl (σ := [v0, some (.lst Q), some (.cell 0), some (.cell 1), some (.int n), some (.lst WQ), v6, v7]) rfl (ws := ws) hwok hl (S := S)
    have hG := fun ha hl S => good_ints (C := ⟨callF fs fuel (l + 3), fuel, l + 3⟩) (σ := [v0, some (.lst Q), some (.cell 0), some (.cell 1), some (.int n), some (.lst WQ), v6, v7]) rfl (ws := ws) hwok ha hl (S := S)
    rcases cases3 with h0 | h0 | ⟨k, h0⟩
    · have : T = [] := List.eq_nil_of_length_eq_zero h0
      subst this
      have hlen := fun r => len_cell (S := Cell.lst [] :: r) (n := 0) rfl
      have est : st ([] : List D).length (c :: cs) ws = st0 (c :: cs) ws := rfl
      rw [est]
      have eA := fun d => m_app (S := [Cell.lst [], .lst []]) (n := 0) (xs := []) (y := d) rfl (by simp)
      by_cases hst : (c :: cs) = wSt
      · have e0' : WQ[0]? = some (.str wSt) := by rw [e0, hst]
        have hix' := hix
        rw [hst] at hix'
        unfold wSt at hix' e0'
        by_cases hl1 : ws.length = 1
        · obtain ⟨w1, rfl⟩ := List.length_eq_one_iff.mp hl1
          have g1' := g1 rfl
          obtain ⟨F, hF, hB⟩ := hB (by omega) [.lst [], .lst []]
          simp only [List.map_cons, List.map_nil, List.all_cons, List.all_nil, Bool.and_true, List.length_cons, List.length_nil, List.getD_cons_zero] at *
          cases hc' : li w1 with
          | true =>
            have : st0 (c :: cs) [w1] = .good (wD w1) := by
              unfold st0
              rw [if_neg (by simp [hst])]
              simp [hc']
            rw [this]
            refine ⟨fun w hb' => (by cases hb'), fun d hb' => ?_⟩
            cases hb'
            rw [hc'] at hF
            have hFl : F = [] := List.isEmpty_iff.mp hF
            subst hFl
            have hI := fun S => b_intS (S := S) ((hwok w1 (by simp)).int hc').1
            have hwd : wD w1 = .int (val w1) := by unfold wD; rw [hc']; rfl
            rw [hwd]
            refine ⟨some (.int n), some (.lst WQ), v6, v7, _, ?_, .inl rfl⟩
            simp (disch := (first | decide | assumption | (simp only [List.length_append, List.length_cons, List.length_nil, List.length_map] <;> omega) | omega)) [-x_comp, x_comp2, f_law_reading_b0, h1, hQ, hb, h2, es, recvOk, srcD, ec, e0', e1, hix', hc35, hlen, hnz, c1, hB, g1', hI, eA]
          | false =>
            have : st0 (c :: cs) [w1] = .bad wInt := by
              unfold st0
              rw [if_neg (by simp [hst])]
              simp [hc']
            rw [this]
            refine ⟨fun w hb' => ?_, fun d hb' => by cases hb'⟩
            cases hb'
            rw [hc'] at hF
            have hpos : 0 < F.length := by
              cases F with
              | nil => cases hF
              | cons a b => simp
            have hFb := fun S => b_lenL (S := S) (xs := F)
            refine ⟨[.lst [], .lst []], ?_⟩
            simp (disch := (first | decide | assumption | (simp only [List.length_append, List.length_cons, List.length_nil, List.length_map] <;> omega) | omega)) [-x_comp, x_comp2, f_law_reading_b0, h1, hQ, hb, h2, es, recvOk, srcD, ec, e0', e1, hix', hc35, hlen, hnz, c1, hB, hpos, wInt]
        · have : st0 (c :: cs) ws = .bad wWor := if_pos (.inr hl1)
          rw [this]
          refine ⟨fun w hb' => ?_, fun d hb' => by cases hb'⟩
          cases hb'
          refine ⟨[.lst [], .lst []], ?_⟩
          have hm : ¬ ((ws.length : Int) + 1 = 2) := by omega
          simp (disch := (first | decide | assumption | (simp only [List.length_append, List.length_cons, List.length_nil, List.length_map] <;> omega) | omega)) [-x_comp, x_comp2, f_law_reading_b0, h1, hQ, hb, h2, es, recvOk, srcD, ec, e0', e1, hix', hc35, hlen, hnz, hm, wWor]
      · have : st0 (c :: cs) ws = .bad wWor := if_pos (.inl hst)
        rw [this]
        refine ⟨fun w hb' => ?_, fun d hb' => by cases hb'⟩
        cases hb'
        refine ⟨[.lst [], .lst []], ?_⟩
        have hst := neq hst
        unfold wSt at hst
        simp (disch := (first | decide | assumption | (simp only [List.length_append, List.length_cons, List.length_nil, List.length_map] <;> omega) | omega)) [-x_comp, x_comp2, f_law_reading_b0, h1, hQ, hb, h2, es, recvOk, srcD, ec, e0, e1, hix, hc35, hlen, hnz, hst, wWor]
    · obtain ⟨a, rfl⟩ := List.length_eq_one_iff.mp h0
      have hlen := fun r => len_cell (S := Cell.lst [a] :: r) (n := 0) rfl
      have est : st ([a] : List D).length (c :: cs) ws = st1 (c :: cs) ws := rfl
      rw [est]
      have eA := fun d => m_app (S := [Cell.lst [a], .lst []]) (n := 0) (xs := [a]) (y := d) rfl (by simp)
      by_cases hst : (c :: cs) = wOu
      · have e0' : WQ[0]? = some (.str wOu) := by rw [e0, hst]
        have hix' := hix
        rw [hst] at hix'
        unfold wOu at hix' e0'
        obtain ⟨F, hF, hB⟩ := hB (by omega) [.lst [a], .lst []]
        cases hc' : ws.all li with
        | true =>
          have : st1 (c :: cs) ws = .good (.tup (ws.map wD)) := by
            unfold st1
            rw [if_neg (by simp [hst])]
            simp [hc']
          rw [this]
          refine ⟨fun w hb' => (by cases hb'), fun d hb' => ?_⟩
          cases hb'
          rw [hc'] at hF
          have hFl : F = [] := List.isEmpty_iff.mp hF
          subst hFl
          have hG' := hG hc' (by omega) [.lst [a], .lst []]
          generalize ws.map wD = W at *
          generalize ws.map D.str = R at *
          refine ⟨some (.int n), some (.lst WQ), v6, v7, _, ?_, .inl rfl⟩
          simp (disch := (first | decide | assumption | (simp only [List.length_append, List.length_cons, List.length_nil, List.length_map] <;> omega) | omega)) [-x_comp, x_comp2, f_law_reading_b0, h1, hQ, hb, h2, es, recvOk, srcD, ec, e0', e1, hix', hc35, hlen, hnz, c1, hB, hG', eA]
        | false =>
          have : st1 (c :: cs) ws = .bad wInt := by
            unfold st1
            rw [if_neg (by simp [hst])]
            simp [hc']
          rw [this]
          refine ⟨fun w hb' => ?_, fun d hb' => by cases hb'⟩
          cases hb'
          rw [hc'] at hF
          have hpos : 0 < F.length := by
            cases F with
            | nil => cases hF
            | cons a b => simp
          generalize ws.map D.str = R at *
          refine ⟨[.lst [a], .lst []], ?_⟩
          simp (disch := (first | decide | assumption | (simp only [List.length_append, List.length_cons, List.length_nil, List.length_map] <;> omega) | omega)) [-x_comp, x_comp2, f_law_reading_b0, h1, hQ, hb, h2, es, recvOk, srcD, ec, e0', e1, hix', hc35, hlen, hnz, c1, hB, hpos, wInt]
      · have : st1 (c :: cs) ws = .bad wWor := if_pos hst
        rw [this]
        refine ⟨fun w hb' => ?_, fun d hb' => by cases hb'⟩
        cases hb'
        refine ⟨[.lst [a], .lst []], ?_⟩
        have hst := neq hst
        unfold wOu at hst
        simp (disch := (first | decide | assumption | (simp only [List.length_append, List.length_cons, List.length_nil, List.length_map] <;> omega) | omega)) [-x_comp, x_comp2, f_law_reading_b0, h1, hQ, hb, h2, es, recvOk, srcD, ec, e0, e1, hix, hc35, hlen, hnz, hst, wWor]
    · obtain ⟨a, b, r, rfl⟩ : ∃ a b r, T = a :: b :: r := by
        match T, h0 with
        | a :: b :: r, _ => exact ⟨a, b, r, rfl⟩
      have hlen := len_cell (S := [Cell.lst [a, b], .lst r]) (n := 0) rfl
      have eA := fun d => m_app (S := [Cell.lst [a, b], .lst r]) (n := 1) (xs := r) (y := d) rfl (by simp at hT; omega)
      have est : st (a :: b :: r).length (c :: cs) ws = stF ((c :: cs) :: ws) := rfl
      rw [est]
      cases hsf : stF ((c :: cs) :: ws) with
      | bad w0 =>
        rw [hsf] at b2
        refine ⟨fun w hb' => ?_, fun d hb' => by cases hb'⟩
        cases hb'
        unfold Rs.D at b2
        refine ⟨[.lst [a, b], .lst r], ?_⟩
        simp (disch := (first | decide | assumption | (simp only [List.length_append, List.length_cons, List.length_nil, List.length_map] <;> omega) | omega)) [-x_comp, x_comp2, f_law_reading_b0, h1, hQ, hb, h2, es, recvOk, srcD, ec, e0, e1, hix, hc35, hlen, hnz, b2, D.isTy]
      | good d0 =>
        rw [hsf] at b2
        refine ⟨fun w hb' => (by cases hb'), fun d hb' => ?_⟩
        cases hb'
        unfold Rs.D at b2
        have hty := stF_tup hsf
        obtain ⟨xs, rfl⟩ := hty
        refine ⟨some (.int n), some (.lst WQ), some (.tup xs), v7, _, ?_, .inr rfl⟩
        simp (disch := (first | decide | assumption | (simp only [List.length_append, List.length_cons, List.length_nil, List.length_map] <;> omega) | omega)) [-x_comp, x_comp2, f_law_reading_b0, h1, hQ, hb, h2, es, recvOk, srcD, ec, e0, e1, hix, hc35, hlen, hnz, b2, eA, D.isTy]
end Lw
set_option linter.all false
set_option maxRecDepth 100000
set_option maxHeartbeats 8000000
set_option exponentiation.threshold 4000
/-! K5p: the law reads a text, the loop. -/
namespace Lw
open Fb
variable {fuel l : Nat}
theorem law_loop {v0 : Option D} {Q : List D} : ∀ (xs : List (List Nat)) (n : Nat) (T : List D) (v4 v5 v6 v7 : Option D), (∀ x ∈ xs, Gl x) → T.length + xs.length ≤ 100000 → (∀ k (h : k < xs.length), Q[n + k]? = some (.str xs[k])) →
    LoopR v0 (some (.lst Q)) (forL (patB (.nm 4) fun σ' => exS ⟨callF fs fuel (l + 3), fuel, l + 3⟩ f_law_reading_b0 σ') ((List.range' n xs.length).map fun (i : Nat) => .int (i : Nat)) [v0, some (.lst Q), some (.cell 0), some (.cell 1), v4, v5, v6, v7] [.lst (T.take 2), .lst (T.drop 2)]) (rd n T xs)
  | [], n, T, v4, v5, v6, v7, _, _, _ => ⟨[v4, v5, v6, v7], rfl⟩
  | x :: r, n, T, v4, v5, v6, v7, h, hl, hQ => by
    simp only [List.length_cons] at hl
    have hQ0 : Q[n]? = some (.str x) := hQ 0 (by simp)
    obtain ⟨t1, t2, t3⟩ := law_turn (fuel := fuel) (l := l) (v0 := v0) (v4 := v4) (v5 := v5) (v6 := v6) (v7 := v7) (n := n) (x := x) (T := T) (h x List.mem_cons_self) (by omega) hQ0
    have hr : ∀ y ∈ r, Gl y := fun y hy => h y (List.mem_cons_of_mem _ hy)
    have hQr : ∀ k (h : k < r.length), Q[n + 1 + k]? = some (.str r[k]) := fun k hk => by
      have := hQ (k + 1) (by simpa using hk)
      rw [show n + 1 + k = n + (k + 1) by omega]
      simpa using this
    rw [List.length_cons, List.range'_succ, List.map_cons]
    by_cases hlim : 400 < x.length ∨ 600 < n + 1
    · have e : rd n T (x :: r) = .err (n + 1) wLim := if_pos hlim
      rw [e]
      obtain ⟨S', e1⟩ := t1 hlim
      exact ⟨S', forL_rt e1⟩
    · cases hs : shownW x with
      | nil =>
        have e : rd n T (x :: r) = rd (n + 1) T r := by
          show (if 400 < x.length ∨ 600 < n + 1 then _ else _) = _
          rw [if_neg hlim, hs]
        rw [e]
        obtain ⟨u4, u5, u6, u7, e1⟩ := t2 hlim hs
        rw [forL_ct e1]
        exact law_loop r (n + 1) T u4 u5 u6 u7 hr (by omega) hQr
      | cons w0 ws =>
        obtain ⟨s1, s2⟩ := t3 hlim w0 ws hs
        cases hst : st T.length w0 ws with
        | bad w =>
          have e : rd n T (x :: r) = .err (n + 1) w := by
            show (if 400 < x.length ∨ 600 < n + 1 then _ else _) = _
            rw [if_neg hlim, hs]
            simp only [hst]
          rw [e]
          obtain ⟨S', e1⟩ := s1 w hst
          exact ⟨S', forL_rt e1⟩
        | good d =>
          have e : rd n T (x :: r) = rd (n + 1) (T ++ [d]) r := by
            show (if 400 < x.length ∨ 600 < n + 1 then _ else _) = _
            rw [if_neg hlim, hs]
            simp only [hst]
          rw [e]
          obtain ⟨u4, u5, u6, u7, o, e1, ho⟩ := s2 d hst
          have q := law_loop (v0 := v0) r (n + 1) (T ++ [d]) u4 u5 u6 u7 hr (by simp; omega) hQr
          rcases ho with rfl | rfl
          · rw [forL_nx e1]; exact q
          · rw [forL_ct e1]; exact q
theorem reading {x : List Nat} (h : Gt x) (S : Store) : callF fs fuel (l + 4) 20 [.str x] S = .ok (an x).D S := by
  rw [callF_succ (show fs[20]? = some f_law_reading from rfl) rfl]
  have h1 := h.len
  have es : ∀ S : Store, mthD S .split (.str x) [.str [10]] = some (.lst ((linesOf x).map .str), S) := fun S => m_split (S := S) (x := x) (c := 10) (by omega) (by omega)
  have hll : (linesOf x).length ≤ x.length + 1 := split_len 10 x []
  have lp := law_loop (fuel := fuel) (l := l) (v0 := some (.str x)) (Q := (linesOf x).map D.str) (linesOf x) 0 [] none none none none h.gl (by simp; omega) (fun k hk => by simp [hk])
  have er := rngD_map (linesOf x).length
  have hlq : ((linesOf x).map D.str).length = (linesOf x).length := by simp
  change LoopR _ _ (forL _ _ _ [.lst [], .lst []]) _ at lp
  rw [← er] at lp
  unfold an
  generalize (linesOf x).map D.str = Q at *
  cases hrd : rd 0 [] (linesOf x) with
  | err n w =>
    rw [hrd] at lp
    obtain ⟨S', e⟩ := lp
    refine call_freeE (S' := S') rfl rfl rfl ?_
    simp (disch := (first | decide | assumption | (simp only [List.length_append, List.length_cons, List.length_nil, List.length_map] <;> omega) | omega)) [f_law_reading, es, recvOk, srcD, hlq, e]
  | ok T =>
    rw [hrd] at lp
    obtain ⟨σ', e⟩ := lp
    obtain ⟨hf, hTl⟩ := rd_free _ _ _ _ rfl hrd
    by_cases h2 : T.length < 2
    · simp only [if_pos h2]
      have hlen := len_cell (S := [Cell.lst (T.take 2), .lst (T.drop 2)]) (n := 0) rfl
      have h3 : T.take 2 = T := List.take_of_length_le (by omega)
      have h2i : ((T.length : Int) < 2) := by omega
      rw [h3] at e hlen
      refine call_freeE (S' := [.lst T, .lst (T.drop 2)]) rfl rfl rfl ?_
      simp (disch := (first | decide | assumption | (simp only [List.length_append, List.length_cons, List.length_nil, List.length_map] <;> omega) | omega)) [f_law_reading, es, recvOk, srcD, hlq, e, hlen, h2i, An.D, wWor, wLine]
    · simp only [if_neg h2]
      obtain ⟨a, b, r, rfl⟩ : ∃ a b r, T = a :: b :: r := by
        match T, h2 with
        | [], h => exact absurd (by simp) h
        | [_], h => exact absurd (by simp) h
        | a :: b :: r, _ => exact ⟨a, b, r, rfl⟩
      have hlen := len_cell (S := [Cell.lst [a, b], .lst r]) (n := 0) rfl
      have ht := b_tupC (S := [Cell.lst [a, b], .lst r]) (n := 1) rfl
      have e : _ = Res.ok _ [Cell.lst [a, b], .lst r] := e
      refine call_freeE (S' := [Cell.lst [a, b], .lst r]) (d := .tup [.str wTold, outT (a :: b :: r)]) rfl rfl (by simp [D.free, D.frees, outT_free hf]) ?_
      have hd : outT (a :: b :: r) = .tup [a, b, .tup r] := rfl
      rw [hd]
      simp (disch := (first | decide | assumption | (simp only [List.length_append, List.length_cons, List.length_nil, List.length_map] <;> omega) | omega)) [f_law_reading, es, recvOk, srcD, hlq, e, hlen, ht, wTold]
end Lw
set_option linter.all false
set_option maxRecDepth 100000
set_option maxHeartbeats 8000000
set_option exponentiation.threshold 4000
/-! K5q: lines that tell a state. -/
namespace Lw
open Fb
def tot (ws : List (List Nat)) : Nat := (ws.map (·.length)).sum
/-- lines between -/
def jnA : List (List Nat) := [[], [35, 32, 102, 114, 97, 109, 101, 32, 102, 32, 97, 116, 32, 120], [32, 32], [32, 35, 111, 117, 116, 32, 120]]
/-- a line of these words -/
structure Ln (y : List Nat) (ws : List (List Nat)) : Prop where
  wd : wordsOf y = ws
  len : y.length ≤ tot ws + 2 * ws.length + 2
  no : 10 ∉ y
inductive Rel : List (List Nat) → List (List (List Nat)) → Prop
  | nil : Rel [] []
  | junk {ys L y} : Rel ys L → y ∈ jnA → Rel (ys ++ [y]) L
  | line {ys L y ws} : Rel ys L → Ln y ws → Rel (ys ++ [y]) (L ++ [ws])
/-- words that may be told -/
structure Lkw (ws : List (List Nat)) : Prop where
  gw : Gw ws
  wd : ∀ w ∈ ws, 32 ∉ w ∧ 10 ∉ w ∧ w ≠ [] ∧ w.length ≤ 42
  ln : ws.length ≤ 40
theorem Lkw.tot {ws : List (List Nat)} (h : Lkw ws) : tot ws ≤ 1680 := by
  have := sum_le (b := 42) fun w hw => (h.wd w hw).2.2.2
  have := h.ln
  unfold Lw.tot
  omega
theorem junk_words : ∀ y ∈ jnA, shownW y = [] ∧ y.length ≤ 14 ∧ (wordsOf y).all (fun w => !li w && decide (w.length ≤ 1000)) = true ∧ (wordsOf y).count wAt ≤ 1 ∧ 10 ∉ y := by decide
theorem junk_gl {y : List Nat} (h : y ∈ jnA) : Gl y := by
  obtain ⟨_, h1, h2, h3, _⟩ := junk_words y h
  refine ⟨by omega, fun w hw => ?_, h3⟩
  have := List.all_eq_true.mp h2 w hw
  simp at this
  exact ⟨this.2, .inl this.1⟩
theorem Rel.gl {ys : List (List Nat)} {L : List (List (List Nat))} (h : Rel ys L) : (∀ ws ∈ L, Lkw ws) → ∀ y ∈ ys, Gl y := by
  induction h with
  | nil => exact fun _ y hy => (nomatch hy)
  | junk h hj ih =>
    intro hL y hy
    rcases List.mem_append.mp hy with g | g
    · exact ih hL y g
    · rw [List.mem_singleton.mp g]; exact junk_gl hj
  | @line ys L y' ws h hj ih =>
    intro hL y hy
    rcases List.mem_append.mp hy with g | g
    · exact ih (fun ws hw => hL ws (by simp [hw])) y g
    · rw [List.mem_singleton.mp g]
      have lk := hL ws (by simp)
      refine ⟨?_, by rw [hj.wd]; exact lk.gw⟩
      have := hj.len; have := lk.tot; have := lk.ln
      omega
theorem rd_app : ∀ (ys zs : List (List Nat)) (n : Nat) (T : List D), rd n T (ys ++ zs) = match rd n T ys with
    | .ok T' => rd (n + ys.length) T' zs
    | .err k w => .err k w
  | [], zs, n, T => rfl
  | x :: r, zs, n, T => by
    have e : ∀ q, rd n T (x :: q) = if 400 < x.length ∨ 600 < n + 1 then .err (n + 1) wLim else match shownW x with
      | [] => rd (n + 1) T q
      | w0 :: ws => match st T.length w0 ws with
        | .bad w => .err (n + 1) w
        | .good d => rd (n + 1) (T ++ [d]) q := fun q => rfl
    rw [List.cons_append, e, e]
    have el : n + (x :: r).length = n + 1 + r.length := by simp; omega
    rw [el]
    by_cases hlim : 400 < x.length ∨ 600 < n + 1
    · rw [if_pos hlim, if_pos hlim]
    · rw [if_neg hlim, if_neg hlim]
      cases shownW x with
      | nil => exact rd_app r zs (n + 1) T
      | cons w0 ws =>
        simp only
        cases st T.length w0 ws with
        | bad w => rfl
        | good d => exact rd_app r zs (n + 1) (T ++ [d])
/-- what words tell -/
def tl : List D → List (List (List Nat)) → Option (List D)
  | T, [] => some T
  | T, (w0 :: w) :: r => match st T.length w0 w with
    | .good d => tl (T ++ [d]) r
    | .bad _ => none
  | _, [] :: _ => none
theorem tl_app : ∀ (L K : List (List (List Nat))) (T : List D), tl T (L ++ K) = (tl T L).bind fun T' => tl T' K
  | [], K, T => rfl
  | [] :: r, K, T => rfl
  | (w0 :: w) :: r, K, T => by
    show (match st T.length w0 w with
      | .good d => tl (T ++ [d]) (r ++ K)
      | .bad _ => none) = Option.bind (match st T.length w0 w with
      | .good d => tl (T ++ [d]) r
      | .bad _ => none) _
    cases st T.length w0 w with
    | bad w => rfl
    | good d => exact tl_app r K (T ++ [d])
theorem Rel.told {ys : List (List Nat)} {L : List (List (List Nat))} (h : Rel ys L) : (∀ ws ∈ L, tot ws + 2 * ws.length + 2 ≤ 400 ∧ isRem ws = false) → ys.length ≤ 600 → ∀ T, tl [] L = some T → rd 0 [] ys = .ok T := by
  induction h with
  | nil => intro _ _ T e; cases e; rfl
  | @junk ys L y h hj ih =>
    intro hL hn T e
    obtain ⟨h1, h2, _⟩ := junk_words y hj
    rw [rd_app, ih hL (by simp at hn; omega) T e]
    show (if 400 < y.length ∨ 600 < 0 + ys.length + 1 then _ else _) = _
    rw [if_neg (by simp at hn; omega), h1]
    rfl
  | @line ys L y ws h hj ih =>
    intro hL hn T e
    obtain ⟨h1, h2⟩ := hL ws (by simp)
    rw [tl_app] at e
    cases e1 : tl [] L with
    | none => rw [e1] at e; cases e
    | some T0 =>
      rw [e1] at e
      rw [rd_app, ih (fun ws hw => hL ws (by simp [hw])) (by simp at hn; omega) T0 e1]
      show (if 400 < y.length ∨ 600 < 0 + ys.length + 1 then _ else _) = _
      have := hj.len
      have hs : shownW y = ws := by
        unfold shownW
        rw [hj.wd, h2]; rfl
      rw [if_neg (by simp at hn; omega), hs]
      cases ws with
      | nil => cases e
      | cons w0 w =>
        have e : (match st T0.length w0 w with
          | .good d => tl (T0 ++ [d]) []
          | .bad _ => none) = some T := e
        simp only
        cases hst : st T0.length w0 w with
        | bad w => rw [hst] at e; cases e
        | good d => rw [hst] at e; cases e; rfl
/-! ### a right text -/
theorem flat_flat2 (vs : List (List Nat × Int)) : flat vs = flat2 (vs.map fun p => (p.1, intText p.2)) := by
  unfold flat flat2
  rw [List.flatMap_map]
theorem stF_at {w1 : List Nat} {r : List (List Nat)} (h : wAt ∈ r) : stF (wFr :: w1 :: r) = beh w1 (r.takeWhile (fun w => w != wAt)) ((r.dropWhile (fun w => w != wAt)).drop 1) := if_pos ⟨rfl, h⟩
theorem st0_at {a : List Nat} (h : li a = true) : st0 wSt [a] = .good (wD a) := by
  unfold st0
  rw [if_neg (by simp)]
  simp [h]
theorem st1_at {r : List (List Nat)} (h : r.all li = true) : st1 wOu r = .good (.tup (r.map wD)) := by
  unfold st1
  rw [if_neg (by simp), if_pos h]
theorem stF_ws {f : Fm} (hf : f.Ok) : stF f.ws = .good f.d := by
  have hty : wAt ∉ f.ty := fun z => absurd (hf.ty _ z) (by decide)
  have hmem : wAt ∈ f.ty ++ [97, 116] :: intText f.pl :: flat f.vs := by
    have : wAt = [97, 116] := rfl
    rw [this]; simp
  obtain ⟨ty, be, e, e2, e3, e4⟩ := at_split hmem
  have huniq : f.ty = ty ∧ intText f.pl :: flat f.vs = be := by
    have h1 : (f.ty ++ [97, 116] :: intText f.pl :: flat f.vs).takeWhile (fun w => w != wAt) = f.ty := by
      have : ∀ ty : List (List Nat), wAt ∉ ty → ∀ r, (ty ++ wAt :: r).takeWhile (fun w => w != wAt) = ty := by
        intro ty
        induction ty with
        | nil => intro _ r; simp
        | cons t ty ih =>
          intro h r
          have ht : (t != wAt) = true := by
            have : t ≠ wAt := fun z => h (by simp [z])
            simpa using this
          rw [List.cons_append, List.takeWhile_cons, if_pos ht, ih (fun z => h (by simp [z]))]
      exact this f.ty hty _
    rw [e3] at h1
    subst h1
    have := List.append_cancel_left e
    exact ⟨rfl, (List.cons.inj this).2⟩
  obtain ⟨rfl, rfl⟩ := huniq
  have est : stF f.ws = beh f.nm f.ty (intText f.pl :: flat f.vs) := by
    have := stF_at (w1 := f.nm) hmem
    rw [e3, e4] at this
    exact this
  rw [est]
  show (if (flat f.vs).length % 2 = 1 then _ else _) = _
  rw [if_neg (by rw [flat_len]; omega), flat_flat2, pairs_flat]
  have hli : (li (intText f.pl) && (f.vs.map fun p => (p.1, intText p.2)).all fun q => li q.2) = true := by
    rw [li_int, List.all_map]
    simp [li_int]
  rw [if_pos hli]
  have hpl : Sm f.pl := by
    have := hf.pl
    show f.pl.natAbs < 10 ^ 41
    have : (10 : Nat) ^ 41 = 100000000000000000000000000000000000000000 := by decide
    omega
  congr 1
  unfold frameD Fm.d
  rw [val_int hpl, List.map_map]
  congr 3
  have : f.vs.map ((fun q => D.tup [.str q.1, .int (val q.2)]) ∘ fun p => (p.1, intText p.2)) = f.vs.map pairD := List.map_congr_left fun p hp => by
    show D.tup [.str p.1, .int (val (intText p.2))] = _
    rw [val_int (hf.vs p hp).2]; rfl
  rw [this]
theorem tl_fr : ∀ (fr : List Fm) (T : List D), 2 ≤ T.length → (∀ f ∈ fr, f.Ok) → tl T (fr.map Fm.ws) = some (T ++ fr.map Fm.d)
  | [], T, _, _ => by simp [tl]
  | f :: r, T, h2, h => by
    obtain ⟨k, hk⟩ : ∃ k, T.length = k + 2 := ⟨T.length - 2, by omega⟩
    have e : st T.length [102, 114, 97, 109, 101] (f.nm :: (f.ty ++ [97, 116] :: intText f.pl :: flat f.vs)) = .good f.d := by
      rw [hk]; exact stF_ws (h f (by simp))
    show (match st T.length [102, 114, 97, 109, 101] (f.nm :: (f.ty ++ [97, 116] :: intText f.pl :: flat f.vs)) with
      | .good d => tl (T ++ [d]) (r.map Fm.ws)
      | .bad _ => none) = _
    rw [e]
    simp only
    rw [tl_fr r (T ++ [f.d]) (by simp; omega) fun g hg => h g (by simp [hg])]
    simp
theorem tl_ws {s : Stt} (hs : s.Ok) : tl [] s.ws = some (.int s.st :: .tup (s.os.map .int) :: s.fr.map Fm.d) := by
  have hst : Sm s.st := by
    have := hs.st
    show s.st.natAbs < 10 ^ 41
    have : (10 : Nat) ^ 41 = 100000000000000000000000000000000000000000 := by decide
    omega
  have e0 : st 0 [115, 116, 101, 112, 115] [intText s.st] = .good (.int s.st) := by
    have := st0_at (li_int s.st)
    unfold wD at this
    rw [li_int, val_int hst] at this
    exact this
  have e1 : st 1 [111, 117, 116] (s.os.map intText) = .good (.tup (s.os.map .int)) := by
    have h := st1_at (r := s.os.map intText) (by simp [li_int])
    have : (s.os.map intText).map wD = s.os.map .int := by
      rw [List.map_map]
      exact List.map_congr_left fun i hi => by
        show wD (intText i) = _
        simp [wD, li_int, val_int (hs.os i hi)]
    rw [this] at h
    exact h
  show (match st 0 [115, 116, 101, 112, 115] [intText s.st] with
    | .good d => tl ([] ++ [d]) (([111, 117, 116] :: s.os.map intText) :: s.fr.map Fm.ws)
    | .bad _ => none) = _
  rw [e0]
  show (match st 1 [111, 117, 116] (s.os.map intText) with
    | .good d => tl ([D.int s.st] ++ [d]) (s.fr.map Fm.ws)
    | .bad _ => none) = _
  rw [e1]
  exact tl_fr s.fr _ (by simp) hs.fr
theorem an_right {s : Stt} (hs : s.Ok) {x : List Nat} (h : Rel (linesOf x) s.ws) (hn : (linesOf x).length ≤ 600) (hL : ∀ ws ∈ s.ws, tot ws + 2 * ws.length + 2 ≤ 400 ∧ isRem ws = false) : an x = .told s.d := by
  unfold an
  rw [h.told hL hn _ (tl_ws hs)]
  rfl
end Lw
set_option linter.all false
set_option maxRecDepth 100000
set_option maxHeartbeats 8000000
set_option exponentiation.threshold 4000
/-! K5r: the words of a state may be told. -/
namespace Lw
open Fb
structure Wk (w : List Nat) : Prop where
  ok : Wok w
  wd : 32 ∉ w ∧ 10 ∉ w ∧ w ≠ [] ∧ w.length ≤ 42
def wkB (w : List Nat) : Bool := !li w && !w.contains 32 && !w.contains 10 && !w.isEmpty && decide (w.length ≤ 42)
theorem Wk.of {w : List Nat} (h : wkB w = true) : Wk w := by
  simp [wkB] at h
  obtain ⟨⟨⟨⟨h1, h2⟩, h3⟩, h4⟩, h5⟩ := h
  exact ⟨⟨by omega, .inl h1⟩, h2, h3, h4, h5⟩
theorem int_chars {i : Int} {c : Nat} (h : c ∈ intText i) : c = 45 ∨ isDig c = true := by
  unfold intText at h
  split at h
  · rcases List.mem_cons.mp h with e | e
    · exact .inl e
    · exact .inr (dig_all _ _ e)
  · exact .inr (dig_all _ _ h)
theorem Wk.int {i : Int} (h : Sm i) : Wk (intText i) := by
  refine ⟨⟨by have := h.len; omega, .inr ⟨i, h, rfl⟩⟩, fun z => ?_, fun z => ?_, fun z => ?_, h.len⟩
  · rcases int_chars z with e | e <;> cases e
  · rcases int_chars z with e | e <;> cases e
  · have := li_int i
    rw [z] at this
    cases this
theorem int_at (i : Int) : intText i ≠ wAt := fun z => by
  have := li_int i
  rw [z] at this
  cases this
theorem Lkw.mk' {ws : List (List Nat)} (h : ∀ w ∈ ws, Wk w) (h1 : ws.count wAt ≤ 1) (h2 : ws.length ≤ 40) : Lkw ws := ⟨⟨fun w hw => (h w hw).ok, h1⟩, fun w hw => (h w hw).wd, h2⟩
theorem Lkw.wk {ws : List (List Nat)} (h : Lkw ws) {w : List Nat} (hw : w ∈ ws) : Wk w := ⟨h.gw.ok w hw, h.wd w hw⟩
theorem tot_le {ws : List (List Nat)} {b : Nat} (h : ∀ w ∈ ws, w.length ≤ b) : tot ws ≤ b * ws.length := sum_le h
theorem tot_cons (a : List Nat) (r : List (List Nat)) : tot (a :: r) = a.length + tot r := by simp [tot]
theorem tot_app (a b : List (List Nat)) : tot (a ++ b) = tot a + tot b := by simp [tot]
theorem tot_flat : ∀ {vs : List (List Nat × Int)}, (∀ p ∈ vs, p.1 ∈ vaA ∧ Sm p.2) → tot (flat vs) ≤ 47 * vs.length
  | [], _ => by decide
  | p :: r, h => by
    have ih := tot_flat fun q hq => h q (List.mem_cons_of_mem _ hq)
    have h1 := h p List.mem_cons_self
    have h2 := va_len _ h1.1
    have h3 := h1.2.len
    show tot ([p.1, intText p.2] ++ flat r) ≤ _
    rw [tot_app, tot_cons, tot_cons]
    simp [tot] at ih ⊢
    omega
theorem Sm.of40 {i : Int} (h : 0 ≤ i ∧ i ≤ 2000) : Sm i := by
  show i.natAbs < 10 ^ 41
  have : (10 : Nat) ^ 41 = 100000000000000000000000000000000000000000 := by decide
  omega
theorem flat_mem {vs : List (List Nat × Int)} {w : List Nat} (h : w ∈ flat vs) : ∃ p ∈ vs, w = p.1 ∨ w = intText p.2 := by
  obtain ⟨p, hp, hw⟩ := List.mem_flatMap.mp h
  refine ⟨p, hp, ?_⟩
  simpa using hw
theorem fm_lk {f : Fm} (hf : f.Ok) : Lkw f.ws ∧ tot f.ws + 2 * f.ws.length + 2 ≤ 400 ∧ isRem f.ws = false := by
  have hty : ∀ t ∈ tyA, wkB t = true ∧ t ≠ wAt := by decide
  have hnm : ∀ t ∈ nmA, wkB t = true ∧ t ≠ wAt := by decide
  have hva : ∀ t ∈ vaA, wkB t = true ∧ t ≠ wAt := by decide
  have h1 := hf.tl
  have h2 := hf.vl
  have hpl : Sm f.pl := Sm.of40 (by have := hf.pl; omega)
  refine ⟨Lkw.mk' (fun w hw => ?_) ?_ ?_, ?_, rfl⟩
  · unfold Fm.ws at hw
    simp only [List.mem_cons, List.mem_append] at hw
    rcases hw with rfl | rfl | hw | rfl | rfl | hw
    · exact Wk.of (by decide)
    · exact Wk.of (hnm _ hf.nm).1
    · exact Wk.of (hty _ (hf.ty _ hw)).1
    · exact Wk.of (by decide)
    · exact Wk.int hpl
    · obtain ⟨p, hp, rfl | rfl⟩ := flat_mem hw
      · exact Wk.of (hva _ (hf.vs p hp).1).1
      · exact Wk.int (hf.vs p hp).2
  · have c1 : f.ty.count wAt = 0 := List.count_eq_zero.mpr fun z => (hty _ (hf.ty _ z)).2 rfl
    have c2 : (flat f.vs).count wAt = 0 := List.count_eq_zero.mpr fun z => by
      obtain ⟨p, hp, e | e⟩ := flat_mem z
      · exact (hva _ (hf.vs p hp).1).2 e.symm
      · exact int_at _ e.symm
    have c3 : ¬ f.nm = wAt := (hnm _ hf.nm).2
    have c4 : ¬ intText f.pl = wAt := int_at _
    unfold Fm.ws
    rw [List.count_cons, List.count_cons, List.count_append, List.count_cons, List.count_cons, c1, c2]
    simp [c3, c4]
    decide
  · have := ws_bound hf; omega
  · have e1 := nm_len _ hf.nm
    have e2 := tot_le fun t ht => ty_len _ (hf.ty t ht)
    have e3 := pl_len hf.pl
    have e4 := tot_flat hf.vs
    unfold Fm.ws
    simp only [tot_cons, tot_app, List.length_cons, List.length_append, flat_len, List.length_nil]
    omega
theorem ws_lk {s : Stt} (hs : s.Ok) : ∀ ws ∈ s.ws, Lkw ws ∧ tot ws + 2 * ws.length + 2 ≤ 400 ∧ isRem ws = false := by
  intro ws hw
  unfold Stt.ws at hw
  simp only [List.mem_cons, List.mem_map] at hw
  have hst := Sm.of40 hs.st
  have hol := hs.ol
  rcases hw with rfl | rfl | ⟨f, hf, rfl⟩
  · refine ⟨Lkw.mk' (fun w hw => ?_) ?_ (by simp), ?_, rfl⟩
    · simp only [List.mem_cons, List.not_mem_nil, or_false] at hw
      rcases hw with rfl | rfl
      · exact Wk.of (by decide)
      · exact Wk.int hst
    · have c4 : ¬ intText s.st = wAt := int_at _
      rw [List.count_cons, List.count_cons]
      simp [c4]
      decide
    · have := hst.len
      simp [tot]; omega
  · refine ⟨Lkw.mk' (fun w hw => ?_) ?_ (by simp; omega), ?_, rfl⟩
    · simp only [List.mem_cons, List.mem_map] at hw
      rcases hw with rfl | ⟨i, hi, rfl⟩
      · exact Wk.of (by decide)
      · exact Wk.int (hs.os i hi)
    · have c4 : (s.os.map intText).count wAt = 0 := List.count_eq_zero.mpr fun z => by
        obtain ⟨i, _, e⟩ := List.mem_map.mp z
        exact int_at _ e
      rw [List.count_cons, c4]
      decide
    · have := tot_le (ws := s.os.map intText) (b := 42) fun w hw => by
        obtain ⟨i, hi, rfl⟩ := List.mem_map.mp hw
        exact (hs.os i hi).len
      rw [tot_cons]
      simp at this ⊢
      omega
  · exact fm_lk (hs.fr f hf)
end Lw
set_option linter.all false
set_option maxRecDepth 100000
set_option maxHeartbeats 8000000
set_option exponentiation.threshold 4000
/-! K5s: a text is spaced. -/
namespace Lw
open Fb
variable {fuel l : Nat}
def cat (ys : List (List Nat)) : List Nat := (ys.map fun y => y ++ [10]).flatten
theorem cat_snoc (ys : List (List Nat)) (y : List Nat) : cat (ys ++ [y]) = cat ys ++ (y ++ [10]) := by simp [cat]
theorem lines_cat : ∀ (ys : List (List Nat)) (z : List Nat), (∀ y ∈ ys, 10 ∉ y) → linesOf (cat ys ++ z) = ys ++ linesOf z
  | [], z, _ => rfl
  | y :: r, z, h => by
    have e : cat (y :: r) ++ z = y ++ 10 :: (cat r ++ z) := by simp [cat]
    rw [e, lines_app, lines_one (h y (by simp)), lines_cat r z fun u hu => h u (by simp [hu])]
    rfl
theorem Rel.no {ys : List (List Nat)} {L : List (List (List Nat))} (h : Rel ys L) : ∀ y ∈ ys, 10 ∉ y := by
  induction h with
  | nil => exact fun y hy => (nomatch hy)
  | junk h hj ih =>
    intro y hy
    rcases List.mem_append.mp hy with g | g
    · exact ih y g
    · rw [List.mem_singleton.mp g]; exact (junk_words _ hj).2.2.2.2
  | line h hj ih =>
    intro y hy
    rcases List.mem_append.mp hy with g | g
    · exact ih y g
    · rw [List.mem_singleton.mp g]; exact hj.no
def jlD : List D := [.str [], .str [], .str [], .str [10], .str [35, 32, 102, 114, 97, 109, 101, 32, 102, 32, 97, 116, 32, 120, 10], .str [32, 32, 10], .str [32, 35, 111, 117, 116, 32, 120, 10]]
theorem jl_at {n : Nat} (h : n < 7) : ∃ j : List Nat, jlD[n]? = some (.str j) ∧ j.length ≤ 15 ∧ (j = [] ∨ ∃ y ∈ jnA, j = y ++ [10]) := by
  match n, h with
  | 0, _ => exact ⟨[], rfl, by decide, .inl rfl⟩
  | 1, _ => exact ⟨[], rfl, by decide, .inl rfl⟩
  | 2, _ => exact ⟨[], rfl, by decide, .inl rfl⟩
  | 3, _ => exact ⟨_, rfl, by decide, .inr ⟨[], by decide, rfl⟩⟩
  | 4, _ => exact ⟨_, rfl, by decide, .inr ⟨[35, 32, 102, 114, 97, 109, 101, 32, 102, 32, 97, 116, 32, 120], by decide, rfl⟩⟩
  | 5, _ => exact ⟨_, rfl, by decide, .inr ⟨[32, 32], by decide, rfl⟩⟩
  | 6, _ => exact ⟨_, rfl, by decide, .inr ⟨[32, 35, 111, 117, 116, 32, 120], by decide, rfl⟩⟩
theorem sp_at {n : Nat} (h : n < 2) : [D.str [32], .str [32, 32]][n]? = some (.str (List.replicate (n + 1) 32)) := by
  match n, h with
  | 0, _ => rfl
  | 1, _ => rfl
/-- a line with gaps -/
def gap (a b c : Nat) (ws : List (List Nat)) : List Nat := List.replicate a 32 ++ joinD (List.replicate (b + 1) 32) ws ++ List.replicate c 32
theorem gap_ln {a b c : Nat} {ws : List (List Nat)} (h : Lkw ws) (ha : a < 2) (hb : b < 2) (hc : c < 2) : Ln (gap a b c ws) ws := by
  refine ⟨?_, ?_, fun z => ?_⟩
  · unfold gap
    rw [words_spR, words_spL, words_join b ws fun w hw => ⟨(h.wd w hw).1, (h.wd w hw).2.2.1⟩]
  · have := join_len (List.replicate (b + 1) 32) ws
    unfold gap tot
    simp only [List.length_append, List.length_replicate] at this ⊢
    have : ws.length * (b + 1) ≤ ws.length * 2 := Nat.mul_le_mul_left _ (by omega)
    omega
  · unfold gap at z
    rcases List.mem_append.mp z with z | z
    · rcases List.mem_append.mp z with z | z
      · have := (List.mem_replicate.mp z).2; omega
      · rcases join_mem z with z | ⟨w, hw, z⟩
        · have := (List.mem_replicate.mp z).2; omega
        · exact (h.wd w hw).2.1 z
    · have := (List.mem_replicate.mp z).2; omega
theorem space_in {g K c : Cell} (b : Bx g K c) {v1 v3 : Option D} {acc : List Nat} {ys : List (List Nat)} {L : List (List (List Nat))} {ws : List (List Nat)} (hr : Rel ys L) (ha : acc = cat ys) (hl : acc.length ≤ 80000) (hw : Lkw ws) : ∃ ys' K' c', Rel ys' (L ++ [ws]) ∧ ys' ≠ [] ∧ ys'.length ≤ ys.length + 2 ∧ (cat ys').length ≤ acc.length + 2000 ∧ Bx g K' c' ∧
    patB (.nm 3) (fun σ' => exS ⟨callF fs fuel (l + 1), fuel, l + 1⟩ f_law_spaced_b0 σ') (lw ws) [some (.cell 2), v1, some (.str acc), v3] [g, K, c] = .ok (.nx [some (.cell 2), v1, some (.str (cat ys')), some (lw ws)]) [g, K', c'] := by
  obtain ⟨d0, K0, c0, e0, b0, n0, rfl, h0⟩ := gulp (fuel := fuel) (l := l) (many := 7) (by omega) (by omega) g K c [] b
  obtain ⟨d1, K1, c1, e1, b1, n1, rfl, h1⟩ := gulp (fuel := fuel) (l := l) (many := 2) (by omega) (by omega) g K0 c0 [] b0
  obtain ⟨d2, K2, c2, e2, b2, n2, rfl, h2⟩ := gulp (fuel := fuel) (l := l) (many := 2) (by omega) (by omega) g K1 c1 [] b1
  obtain ⟨d3, K3, c3, e3, b3, n3, rfl, h3⟩ := gulp (fuel := fuel) (l := l) (many := 2) (by omega) (by omega) g K2 c2 [] b2
  obtain ⟨j, ej, jl, hj⟩ := jl_at (n := n0) (by omega)
  have es := sp_at (n := n2) (by omega)
  have hln := gap_ln (a := n1) (b := n2) (c := n3) hw (by omega) (by omega) (by omega)
  have tt := hw.tot
  have ll := hw.ln
  have hgl := hln.len
  have hjl : (joinD (List.replicate (n2 + 1) 32) ws).length ≤ 1900 := by
    unfold gap at hgl
    simp only [List.length_append, List.length_replicate] at hgl
    omega
  have hrel : ∃ ys', Rel ys' (L ++ [ws]) ∧ ys' ≠ [] ∧ ys'.length ≤ ys.length + 2 ∧ cat ys' = acc ++ j ++ (gap n1 n2 n3 ws ++ [10]) := by
    rcases hj with rfl | ⟨y, hy, rfl⟩
    · exact ⟨ys ++ [gap n1 n2 n3 ws], .line hr hln, by simp, by simp, by rw [cat_snoc, ha]; simp⟩
    · exact ⟨ys ++ [y] ++ [gap n1 n2 n3 ws], .line (.junk hr hy) hln, by simp, by simp, by rw [cat_snoc, cat_snoc, ha]⟩
  obtain ⟨ys', r1, r2, r3, r4⟩ := hrel
  refine ⟨ys', K3, c3, r1, r2, r3, ?_, b3, ?_⟩
  · rw [r4]
    simp only [List.length_append, List.length_cons, List.length_nil]
    omega
  have m1 := fun S => o_mulS (S := S) (x := 32) (k := (n1 : Int)) (by omega) (by omega)
  have m3 := fun S => o_mulS (S := S) (x := 32) (k := (n3 : Int)) (by omega) (by omega)
  rw [Int.toNat_natCast] at m1 m3
  have jw : ∀ S : Store, mthD S .join (.str (List.replicate (n2 + 1) 32)) [.lst (ws.map .str)] = some (.str (joinD (List.replicate (n2 + 1) 32) ws), S) := fun S => by
    refine join_seq ws rfl rfl ?_
    rw [List.length_replicate]
    have : ws.length * (n2 + 1) ≤ ws.length * 2 := Nat.mul_le_mul_left _ (by omega)
    have t2 : (ws.map (·.length)).sum ≤ 1680 := tt
    omega
  rw [r4]
  have q0 : (0 : Int) ≤ (n0 : Int) := by omega
  have q2 : (0 : Int) ≤ (n2 : Int) := by omega
  have x0 : ∀ S : Store, idxM (.tup jlD) (.int (n0 : Nat)) S = .ok (.str j) S := fun S => by
    rw [o_idxT q0, Int.toNat_natCast, ej]; rfl
  have x2 : ∀ S : Store, idxM (.tup [D.str [32], .str [32, 32]]) (.int (n2 : Nat)) S = .ok (.str (List.replicate (n2 + 1) 32)) S := fun S => by
    rw [o_idxT q2, Int.toNat_natCast, es]; rfl
  unfold jlD at x0
  unfold gap
  generalize hJ : joinD (List.replicate (n2 + 1) 32) ws = J at *
  generalize hS2 : List.replicate (n2 + 1) 32 = s2 at *
  have ea : ∀ (S : Store) (x y : List Nat), x.length ≤ 100000 → y.length ≤ 100000 → binM .add (.str x) (.str y) S = .ok (.str (x ++ y)) S := fun S x y hx hy => o_addS (by omega)
  have a1 := fun S => ea S acc j (by omega) (by omega)
  have a2 := fun S => ea S (acc ++ j) (List.replicate n1 32) (by simp; omega) (by simp; omega)
  have a3 := fun S => ea S (acc ++ j ++ List.replicate n1 32) J (by simp; omega) (by omega)
  have a4 := fun S => ea S (acc ++ j ++ List.replicate n1 32 ++ J) (List.replicate n3 32) (by simp; omega) (by simp; omega)
  have a5 := fun S => ea S (acc ++ j ++ List.replicate n1 32 ++ J ++ List.replicate n3 32) [10] (by simp; omega) (by simp)
  have er : acc ++ j ++ (List.replicate n1 32 ++ J ++ List.replicate n3 32 ++ [10]) = acc ++ j ++ List.replicate n1 32 ++ J ++ List.replicate n3 32 ++ [10] := by simp
  rw [er]
  generalize acc ++ j ++ List.replicate n1 32 ++ J ++ List.replicate n3 32 ++ [10] = t5 at *
  generalize acc ++ j ++ List.replicate n1 32 ++ J ++ List.replicate n3 32 = t4 at *
  generalize acc ++ j ++ List.replicate n1 32 ++ J = t3 at *
  generalize acc ++ j ++ List.replicate n1 32 = t2 at *
  generalize acc ++ j = t1 at *
  generalize List.replicate n1 32 = p1 at *
  generalize List.replicate n3 32 = p3 at *
  simp (disch := (first | decide | assumption | (simp only [List.length_append, List.length_cons, List.length_nil, List.length_map] <;> omega) | omega)) [-o_idxT, lw, f_law_spaced_b0, e0, x0, a1, e1, m1, a2, e2, x2, jw, recvOk, a3, e3, m3, a4, a5]
/-- what is spaced of lines -/
def Spc (L : List (List (List Nat))) (d : D) : Prop := ∃ x, d = .str x ∧ Rel (linesOf x) L ∧ (linesOf x).length ≤ 2 * L.length + 1 ∧ x.length ≤ 80000
theorem spaced {L : List (List (List Nat))} (hL : ∀ ws ∈ L, Lkw ws) (hn : L.length ≤ 30) : Dr fuel (l + 2) 22 [.lst (L.map lw)] (Spc L) := by
  have hfree : D.frees [.lst (L.map lw)] = true := by
    have : D.frees (L.map lw) = true := frees_mem.mpr fun d hd => by
      obtain ⟨p, _, rfl⟩ := List.mem_map.mp hd
      exact frees_strs p
    simp [D.frees, D.free, this]
  refine Dr.go0 (l := l + 1) (show fs[22]? = some f_law_spaced from rfl) rfl rfl (tops_free hfree) fun g K c b => ?_
  obtain ⟨σ1, S1, e1, ys, K1, c1, v3, rfl, rfl, r1, r2, r3, r4, b1⟩ := forL_ix (f := patB (.nm 3) fun σ' => exS ⟨callF fs fuel (l + 1), fuel, l + 1⟩ f_law_spaced_b0 σ') (fun j σ S => ∃ (ys : List (List Nat)) (K c : Cell) (v3 : Option D), σ = [some (.cell 2), some (.lst (L.map lw)), some (.str (cat ys)), v3] ∧ S = [g, K, c] ∧ Rel ys (L.take j) ∧ (ys = [] → j = 0) ∧ ys.length ≤ 2 * j ∧ (cat ys).length ≤ 2000 * j ∧ Bx g K c)
    (xs := L.map lw) (j := 0) (σ := [some (.cell 2), some (.lst (L.map lw)), some (.str []), none]) (S := [g, K, c])
    (fun i x σ S hx ⟨ys, K, c, v3, e1, e2, r1, r2, r3, r4, b⟩ => by
      rw [Nat.zero_add] at r1 r2 r3 r4 ⊢
      obtain ⟨ws, hf, rfl⟩ : ∃ ws, L[i]? = some ws ∧ lw ws = x := by
        rw [List.getElem?_map] at hx
        cases q : L[i]? with
        | none => rw [q] at hx; cases hx
        | some f => rw [q] at hx; exact ⟨f, rfl, Option.some.inj hx⟩
      subst e1 e2
      have hm := List.mem_of_getElem? hf
      obtain ⟨hi, e3⟩ := List.getElem?_eq_some_iff.mp hf
      obtain ⟨ys', K', c', s1, s2, s3, s4, b', e⟩ := space_in (fuel := fuel) (l := l) (v1 := some (.lst (L.map lw))) (v3 := v3) b r1 rfl (by omega) (hL ws hm)
      refine ⟨_, _, e, ys', K', c', _, rfl, rfl, ?_, fun z => absurd z s2, by omega, by omega, b'⟩
      rw [List.take_succ_eq_append_getElem hi, e3]
      exact s1) ⟨[], K, c, none, rfl, rfl, .nil, fun _ => rfl, by simp, by simp [cat], b⟩
  rw [Nat.zero_add, List.length_map] at r1 r2 r3 r4
  rw [List.take_length] at r1
  obtain ⟨d2, K2, c2, e2, b2, n2, rfl, h2⟩ := gulp (fuel := fuel) (l := l) (many := 2) (by omega) (by omega) g K1 c1 [] b1
  have hcl : (cat ys).length ≤ 60000 := by omega
  have hb := fun S => b_lenS (S := S) (a := cat ys) (by omega)
  have hcut := fun (S : Store) hi => cut_str (S := S) (a := cat ys) (lo := none) (hi := hi) (by omega)
  have key : ∃ x, cutL (cat ys) none (some (((cat ys).length : Int) - (n2 : Int))) = x ∧ Rel (linesOf x) L ∧ (linesOf x).length ≤ 2 * L.length + 1 ∧ x.length ≤ 80000 := by
    have hz : ∀ x, (cat ys) = x → Rel (linesOf x) L ∧ (linesOf x).length ≤ 2 * L.length + 1 ∧ x.length ≤ 80000 := fun x e => by
      have := lines_cat ys [] r1.no
      rw [List.append_nil] at this
      rw [← e, this]
      refine ⟨.junk r1 (by decide), by simp [linesOf, splitD]; omega, by omega⟩
    by_cases h0 : n2 = 0
    · refine ⟨_, ?_, hz _ rfl⟩
      rw [h0, show (((cat ys).length : Int) - ((0 : Nat) : Int)) = (((cat ys).length : Nat) : Int) by omega, cut_to (by omega), Int.toNat_natCast, List.take_length]
    · have h1 : n2 = 1 := by omega
      subst h1
      rcases nil_or_snoc ys with e | ⟨zs, y, e⟩
      · refine ⟨_, ?_, hz _ rfl⟩
        rw [e]; rfl
      · have hc := cat_snoc zs y
        rw [← e] at hc
        refine ⟨cat zs ++ y, ?_, ?_⟩
        · rw [hc]
          have el : (((cat zs ++ (y ++ [10])).length : Int) - ((1 : Nat) : Int)) = (((cat zs ++ y).length : Nat) : Int) := by simp; omega
          rw [el, cut_to (by omega), Int.toNat_natCast, ← List.append_assoc, List.take_left']
          rfl
        · have no := r1.no
          rw [e] at no
          have : linesOf (cat zs ++ y) = ys := by
            rw [lines_cat zs y fun u hu => no u (by simp [hu]), lines_one (no y (by simp)), e]
          rw [this]
          refine ⟨r1, by omega, ?_⟩
          rw [hc] at hcl
          simp at hcl ⊢; omega
  obtain ⟨x, hx, k1, k2, k3⟩ := key
  rw [← hx] at k1 k2 k3
  refine ⟨.str (cutL (cat ys) none (some (((cat ys).length : Int) - (n2 : Int)))), K2, c2, [], ?_, b2, rfl, _, rfl, k1, k2, k3⟩
  generalize cat ys = A at *
  generalize L.map lw = LL at *
  simp (disch := (first | decide | assumption | (simp only [List.length_append, List.length_cons, List.length_nil, List.length_map] <;> omega) | omega)) [f_law_spaced, srcD, e1, hb, e2, hcut]
end Lw
set_option linter.all false
set_option maxRecDepth 100000
set_option maxHeartbeats 8000000
set_option exponentiation.threshold 4000
/-! K5t: lines are bent. -/
namespace Lw
open Fb
variable {fuel l : Nat}
def badA : List (List Nat) := [[120], [49, 120], [45, 45, 49], [45], [49, 46, 53], [49, 45], [48, 120, 49]]
theorem bad_ok : ∀ w ∈ badA, wkB w = true ∧ w ≠ wAt := by decide
def okA : List (List Nat) := [[83, 116, 101, 112, 115], [102, 114, 97, 109, 101, 115], [122, 122], [102, 114, 97, 109, 101], [102], [105, 110, 116], [97, 116], [97], [115, 116, 101, 112, 115], [98], [111, 117, 116]]
theorem okA_ok : ∀ w ∈ okA, wkB w = true := by decide
theorem wk_n {n : Nat} (h : n < 10) : Wk [48 + n] := by
  have e : [48 + n] = intText (n : Int) := by
    unfold intText
    rw [if_neg (by omega), Int.natAbs_natCast, dig_small h]
  rw [e]
  exact Wk.int (Sm.of40 (by omega))
theorem ok_wk {w bad : List Nat} (hb : bad ∈ badA) (h : w = bad ∨ w ∈ okA ∨ w = [49] ∨ w = [50]) : Wk w := by
  rcases h with rfl | h | rfl | rfl
  · exact Wk.of (bad_ok _ hb).1
  · exact Wk.of (okA_ok _ h)
  · exact wk_n (n := 1) (by omega)
  · exact wk_n (n := 2) (by omega)
/-- the odd lines -/
def oddW (ws : List (List Nat)) (bad : List Nat) : List (List (List Nat)) :=
  [[83, 116, 101, 112, 115] :: ws.drop 1, [102, 114, 97, 109, 101, 115] :: ws.drop 1, ws.drop 1 ++ [[122, 122]], [[102, 114, 97, 109, 101]], [[102, 114, 97, 109, 101], [102]], [[102, 114, 97, 109, 101], [102], [105, 110, 116], [49]],
   [[102, 114, 97, 109, 101], [102], [105, 110, 116], [97, 116], [49], [97]], [[115, 116, 101, 112, 115]], [[115, 116, 101, 112, 115], [49], [50]],
   [[102, 114, 97, 109, 101], [102], [105, 110, 116], [97, 116], [49], [97], [50], [98]], [[111, 117, 116], bad], [[115, 116, 101, 112, 115], bad], [[102, 114, 97, 109, 101], [102], [105, 110, 116], [97, 116], bad],
   [[102, 114, 97, 109, 101], [102], [105, 110, 116], [97, 116], [49], [97], bad, [98], [50]]]
def Lm (m : Nat) (ws : List (List Nat)) : Prop := Lkw ws ∧ ws.length ≤ m
theorem drop_cnt (ws : List (List Nat)) (k : Nat) : (ws.drop k).count wAt ≤ ws.count wAt := (List.drop_sublist k ws).count_le _
theorem odd_lk {ws : List (List Nat)} {bad : List Nat} {m : Nat} (h : Lm m ws) (hm : 10 ≤ m ∧ m ≤ 38) (hb : bad ∈ badA) : ∀ v ∈ oddW ws bad, Lm (m + 2) v := by
  obtain ⟨lk, hl⟩ := h
  have hc := lk.gw.one
  have hd := drop_cnt ws 1
  have hbn : ¬ bad = wAt := (bad_ok _ hb).2
  have hbn' : ¬ bad = [97, 116] := hbn
  have wd : ∀ w ∈ ws.drop 1, Wk w := fun w hw => lk.wk (List.mem_of_mem_drop hw)
  have fx : ∀ v : List (List Nat), (∀ w ∈ v, w = bad ∨ w ∈ okA ∨ w = [49] ∨ w = [50]) → v.count wAt ≤ 1 → v.length ≤ 10 → Lm (m + 2) v := fun v h1 h2 h3 =>
    ⟨Lkw.mk' (fun w hw => ok_wk hb (h1 w hw)) h2 (by omega), by omega⟩
  intro v hv
  unfold oddW at hv
  simp only [List.mem_cons, List.not_mem_nil, or_false] at hv
  have ln1 : (ws.drop 1).length ≤ m := by rw [List.length_drop]; omega
  rcases hv with rfl | rfl | rfl | rfl | rfl | rfl | rfl | rfl | rfl | rfl | rfl | rfl | rfl | rfl
  · refine ⟨Lkw.mk' (fun w hw => ?_) ?_ (by rw [List.length_cons]; omega), by rw [List.length_cons]; omega⟩
    · rcases List.mem_cons.mp hw with rfl | hw
      · exact Wk.of (by decide)
      · exact wd w hw
    · rw [List.count_cons, if_neg (by decide)]; omega
  · refine ⟨Lkw.mk' (fun w hw => ?_) ?_ (by rw [List.length_cons]; omega), by rw [List.length_cons]; omega⟩
    · rcases List.mem_cons.mp hw with rfl | hw
      · exact Wk.of (by decide)
      · exact wd w hw
    · rw [List.count_cons, if_neg (by decide)]; omega
  · refine ⟨Lkw.mk' (fun w hw => ?_) ?_ (by rw [List.length_append]; simp; omega), by rw [List.length_append]; simp; omega⟩
    · rcases List.mem_append.mp hw with hw | hw
      · exact wd w hw
      · rw [List.mem_singleton.mp hw]; exact Wk.of (by decide)
    · rw [List.count_append, show List.count wAt [[122, 122]] = 0 by decide]; omega
  all_goals
    refine fx _ (fun w hw => ?_) ?_ (by simp)
    · simp only [List.mem_cons, List.not_mem_nil, or_false] at hw
      simp only [okA, List.mem_cons, List.not_mem_nil, or_false]
      grind
    · simp [List.count_cons, wAt, hbn']
end Lw
set_option linter.all false
set_option maxRecDepth 100000
set_option maxHeartbeats 8000000
set_option exponentiation.threshold 4000
/-! K5u: bent. -/
namespace Lw
open Fb
variable {fuel l : Nat}
theorem map_free (L : List (List (List Nat))) : D.frees (L.map lw) = true := frees_mem.mpr fun d hd => by
  obtain ⟨p, _, rfl⟩ := List.mem_map.mp hd
  exact frees_strs p
def Bnt (m n : Nat) (d : D) : Prop := ∃ L : List (List (List Nat)), d = .lst (L.map lw) ∧ (∀ ws ∈ L, Lm m ws) ∧ L.length ≤ n
theorem cutTo {S : Store} {xs : List D} {n : Nat} : cutD S (.lst xs) none (some (n : Int)) = some (.lst (xs.take n)) := by
  rw [cut_lst, cut_to (by omega), Int.toNat_natCast]
theorem cutTo1 {S : Store} {xs : List D} {n : Nat} : cutD S (.lst xs) none (some ((n : Int) + 1)) = some (.lst (xs.take (n + 1))) := by
  have := cutTo (S := S) (xs := xs) (n := n + 1)
  exact this
theorem cutFr {S : Store} {xs : List D} {n : Nat} : cutD S (.lst xs) (some (n : Int)) none = some (.lst (xs.drop n)) := by
  rw [cut_lst, cut_fr (by omega), Int.toNat_natCast]
theorem cutFr1 {S : Store} {xs : List D} {n : Nat} : cutD S (.lst xs) (some ((n : Int) + 1)) none = some (.lst (xs.drop (n + 1))) := by
  have := cutFr (S := S) (xs := xs) (n := n + 1)
  exact this
theorem bent {L : List (List (List Nat))} {m : Nat} (hL : ∀ ws ∈ L, Lm m ws) (hm : 10 ≤ m ∧ m ≤ 38) (h0 : L ≠ []) (hn : L.length ≤ 30) : Dr fuel (l + 3) 23 [.lst (L.map lw)] (Bnt (m + 2) (L.length + 1)) := by
  have hfree : D.frees [.lst (L.map lw)] = true := by simp [D.frees, D.free, map_free]
  refine Dr.go (l := l + 2) (show fs[23]? = some f_law_bent from rfl) rfl rfl (tops_free hfree) fun g K c b => ?_
  have hp : 0 < L.length := List.length_pos_iff.mpr h0
  obtain ⟨d0, K0, c0, e0, b0, n, rfl, hn0⟩ := gulp (fuel := fuel) (l := l + 1) (many := L.length) (by omega) (by omega) g K c [] b
  obtain ⟨d1, K1, c1, e1, b1, n1, rfl, h1⟩ := gulp (fuel := fuel) (l := l + 1) (many := 6) (by omega) (by omega) g K0 c0 [] b0
  obtain ⟨d2, K2, c2, e2, b2, h2⟩ := draw_of (fuel := fuel) (l := l) (xs := badA.map D.str) (by simp [badA]) (by simp [badA]) rfl g K1 c1 [] b1
  obtain ⟨bad, hbad, rfl⟩ := List.mem_map.mp h2
  have hnL : n < L.length := by omega
  obtain ⟨ws, hws⟩ : ∃ ws, L[n] = ws := ⟨_, rfl⟩
  have hwm : ws ∈ L := by rw [← hws]; exact List.getElem_mem hnL
  have lm := hL ws hwm
  have q0 : (0 : Int) ≤ (n : Int) := by omega
  have ix : ∀ S : Store, idxM (.lst (L.map lw)) (.int (n : Nat)) S = .ok (lw ws) S := fun S => by
    rw [o_idxL q0, Int.toNat_natCast, List.getElem?_map, List.getElem?_eq_getElem hnL, hws]; rfl
  have hlen : ∀ S : Store, bltD S .len [.lst (L.map lw)] = some (.int (L.length : Nat)) := fun S => by
    rw [b_lenL, List.length_map]
  have mono : ∀ v, Lm m v → Lm (m + 2) v := fun v h => ⟨h.1, by have := h.2; omega⟩
  have hT : ∀ v ∈ L.take n, Lm (m + 2) v := fun v hv => mono v (hL v (List.mem_of_mem_take hv))
  have hT1 : ∀ v ∈ L.take (n + 1), Lm (m + 2) v := fun v hv => mono v (hL v (List.mem_of_mem_take hv))
  have hU : ∀ v ∈ L.drop (n + 1), Lm (m + 2) v := fun v hv => mono v (hL v (List.mem_of_mem_drop hv))
  have lT : (L.take n).length = n := by simp; omega
  have lT1 : (L.take (n + 1)).length = n + 1 := by simp; omega
  have lU : (L.drop (n + 1)).length = L.length - (n + 1) := by simp
  have cT : ∀ S : Store, cutD S (.lst (L.map lw)) none (some (n : Int)) = some (.lst ((L.take n).map lw)) := fun S => by rw [cutTo, List.map_take]
  have cT1 : ∀ S : Store, cutD S (.lst (L.map lw)) none (some ((n : Int) + 1)) = some (.lst ((L.take (n + 1)).map lw)) := fun S => by rw [cutTo1, List.map_take]
  have cU : ∀ S : Store, cutD S (.lst (L.map lw)) (some ((n : Int) + 1)) none = some (.lst ((L.drop (n + 1)).map lw)) := fun S => by rw [cutFr1, List.map_drop]
  generalize hTe : L.take n = T at *
  generalize hT1e : L.take (n + 1) = T1 at *
  generalize hUe : L.drop (n + 1) = U at *
  /- the last form -/
  have put : ∀ (v : List (List Nat)) (S : Store), binM .add (.lst (T.map lw)) (.lst [lw v]) S = .ok (.lst ((T ++ [v]).map lw)) S := fun v S => by
    rw [o_addL (by simp; omega)]; simp
  have put2 : ∀ (v : List (List Nat)) (S : Store), binM .add (.lst ((T ++ [v]).map lw)) (.lst (U.map lw)) S = .ok (.lst ((T ++ [v] ++ U).map lw)) S := fun v S => by
    rw [o_addL (by simp; omega)]; simp
  have fin : ∀ (v : List (List Nat)) (K c : Cell), Bx g K c → Lm (m + 2) v → Hold (fun d K' c' S' => Bx g K' c' ∧ ∃ d', frz 3 (g :: K' :: c' :: S') 4 d = some d' ∧ Bnt (m + 2) (L.length + 1) d') (.lst ((T ++ [v] ++ U).map lw)) K c [] := fun v K c b hv =>
    ⟨b, _, frz_low 4 (low_free (by simp only [D.free]; exact map_free _)), _, rfl, fun w hw => by
      rcases List.mem_append.mp hw with hw | hw
      · rcases List.mem_append.mp hw with hw | hw
        · exact hT w hw
        · rw [List.mem_singleton.mp hw]; exact hv
      · exact hU w hw, by simp; omega⟩
  have any : ∀ (X : List (List (List Nat))) (K c : Cell), Bx g K c → (∀ v ∈ X, Lm (m + 2) v) → X.length ≤ L.length + 1 → Hold (fun d K' c' S' => Bx g K' c' ∧ ∃ d', frz 3 (g :: K' :: c' :: S') 4 d = some d' ∧ Bnt (m + 2) (L.length + 1) d') (.lst (X.map lw)) K c [] := fun X K c b hv hl =>
    ⟨b, _, frz_low 4 (low_free (by simp only [D.free]; exact map_free _)), X, rfl, hv, hl⟩
  simp only [badA, List.map_cons, List.map_nil] at e2
  have hn1 : n1 = 0 ∨ n1 = 1 ∨ n1 = 2 ∨ n1 = 3 ∨ n1 = 4 ∨ n1 = 5 := by omega
  rcases hn1 with rfl | rfl | rfl | rfl | rfl | rfl
  · have a1 : ∀ S : Store, binM .add (.lst (T.map lw)) (.lst (U.map lw)) S = .ok (.lst ((T ++ U).map lw)) S := fun S => by
      rw [o_addL (by simp; omega)]; simp
    have fin := any (T ++ U) K2 c2 b2 (fun v hv => by
      rcases List.mem_append.mp hv with h | h
      · exact hT v h
      · exact hU v h) (by simp; omega)
    refine ⟨_, K2, c2, [], ?_, fin⟩
    generalize L.map lw = Q at *
    generalize T.map lw = TQ at *
    generalize U.map lw = UQ at *
    generalize (T ++ U).map lw = X at *
    generalize lw ws = W at *
    simp (disch := (first | decide | assumption | (simp only [List.length_append, List.length_cons, List.length_nil, List.length_map] <;> omega) | omega)) [-o_idxL, f_law_bent, hlen, e0, ix, e1, e2, cT, cU, a1]
  · have a1 : ∀ S : Store, binM .add (.lst (T1.map lw)) (.lst [lw ws]) S = .ok (.lst ((T1 ++ [ws]).map lw)) S := fun S => by
      rw [o_addL (by simp; omega)]; simp
    have a2 : ∀ S : Store, binM .add (.lst ((T1 ++ [ws]).map lw)) (.lst (U.map lw)) S = .ok (.lst ((T1 ++ [ws] ++ U).map lw)) S := fun S => by
      rw [o_addL (by simp; omega)]; simp
    have fin := any (T1 ++ [ws] ++ U) K2 c2 b2 (fun v hv => by
      rcases List.mem_append.mp hv with h | h
      · rcases List.mem_append.mp h with h | h
        · exact hT1 v h
        · rw [List.mem_singleton.mp h]; exact mono _ lm
      · exact hU v h) (by simp; omega)
    refine ⟨_, K2, c2, [], ?_, fin⟩
    generalize L.map lw = Q at *
    generalize (T1 ++ [ws] ++ U).map lw = X at *
    generalize (T1 ++ [ws]).map lw = X1 at *
    generalize T1.map lw = TQ at *
    generalize U.map lw = UQ at *
    generalize lw ws = W at *
    simp (disch := (first | decide | assumption | (simp only [List.length_append, List.length_cons, List.length_nil, List.length_map] <;> omega) | omega)) [-o_idxL, f_law_bent, hlen, e0, ix, e1, e2, cT1, cU, a1, a2]
  · obtain ⟨d3, K3, c3, e3, b3, k, rfl, hk⟩ := gulp (fuel := fuel) (l := l + 1) (many := L.length) (by omega) (by omega) g K2 c2 [] b2
    have a1 : ∀ S : Store, binM .add (.lst (T.map lw)) (.lst (U.map lw)) S = .ok (.lst ((T ++ U).map lw)) S := fun S => by
      rw [o_addL (by simp; omega)]; simp
    have hTU : ∀ v ∈ T ++ U, Lm (m + 2) v := fun v hv => by
      rcases List.mem_append.mp hv with h | h
      · exact hT v h
      · exact hU v h
    have lTU : (T ++ U).length ≤ L.length := by simp; omega
    generalize hR : T ++ U = R at *
    have c3' : ∀ S : Store, cutD S (.lst (R.map lw)) none (some (k : Int)) = some (.lst ((R.take k).map lw)) := fun S => by rw [cutTo, List.map_take]
    have c4 : ∀ S : Store, cutD S (.lst (R.map lw)) (some (k : Int)) none = some (.lst ((R.drop k).map lw)) := fun S => by rw [cutFr, List.map_drop]
    have a2 : ∀ S : Store, binM .add (.lst ((R.take k).map lw)) (.lst [lw ws]) S = .ok (.lst ((R.take k ++ [ws]).map lw)) S := fun S => by
      rw [o_addL (by simp; omega)]; simp
    have a3 : ∀ S : Store, binM .add (.lst ((R.take k ++ [ws]).map lw)) (.lst ((R.drop k).map lw)) S = .ok (.lst ((R.take k ++ [ws] ++ R.drop k).map lw)) S := fun S => by
      rw [o_addL (by simp; omega)]; simp
    have fin := any (R.take k ++ [ws] ++ R.drop k) K3 c3 b3 (fun v hv => by
      rcases List.mem_append.mp hv with h | h
      · rcases List.mem_append.mp h with h | h
        · exact hTU v (List.mem_of_mem_take h)
        · rw [List.mem_singleton.mp h]; exact mono _ lm
      · exact hTU v (List.mem_of_mem_drop h)) (by simp; omega)
    refine ⟨_, K3, c3, [], ?_, fin⟩
    generalize (R.take k ++ [ws] ++ R.drop k).map lw = X at *
    generalize (R.take k ++ [ws]).map lw = X1 at *
    generalize (R.take k).map lw = X2 at *
    generalize (R.drop k).map lw = X3 at *
    generalize L.map lw = Q at *
    generalize R.map lw = RQ at *
    generalize T.map lw = TQ at *
    generalize U.map lw = UQ at *
    generalize lw ws = W at *
    simp (disch := (first | decide | assumption | (simp only [List.length_append, List.length_cons, List.length_nil, List.length_map] <;> omega) | omega)) [-o_idxL, f_law_bent, hlen, e0, ix, e1, e2, cT, cU, a1, e3, c3', c4, a2, a3]
  · obtain ⟨d3, K3, c3, e3, b3, k, rfl, hk⟩ := gulp (fuel := fuel) (l := l + 1) (many := 14) (by omega) (by omega) g K2 c2 [] b2
    have hk : k < (oddW ws bad).length := by show k < 14; omega
    obtain ⟨v, hv⟩ : ∃ v, (oddW ws bad)[k] = v := ⟨_, rfl⟩
    have hvl : Lm (m + 2) v := odd_lk lm hm hbad v (by rw [← hv]; exact List.getElem_mem hk)
    have qk : (0 : Int) ≤ (k : Int) := by omega
    have ixo : ∀ S : Store, idxM (.lst ((oddW ws bad).map lw)) (.int (k : Nat)) S = .ok (lw v) S := fun S => by
      rw [o_idxL qk, Int.toNat_natCast, List.getElem?_map, List.getElem?_eq_getElem hk, hv]; rfl
    have cw : ∀ S : Store, cutD S (lw ws) (some 1) none = some (lw (ws.drop 1)) := fun S => by
      show cutD S (.lst (ws.map D.str)) (some 1) none = _
      rw [cut_lst, cut_fr (by omega), ← List.map_drop]; rfl
    have lnd : (ws.drop 1).length ≤ 40 := by have := lm.2; rw [List.length_drop]; omega
    have w1 : ∀ (a : List Nat) (S : Store), binM .add (.lst [.str a]) (lw (ws.drop 1)) S = .ok (lw (a :: ws.drop 1)) S := fun a S => by
      show binM .add (.lst [.str a]) (.lst ((ws.drop 1).map D.str)) S = _
      rw [o_addL (by simp at lnd ⊢; omega)]; rfl
    have w2 : ∀ (a : List Nat) (S : Store), binM .add (lw (ws.drop 1)) (.lst [.str a]) S = .ok (lw (ws.drop 1 ++ [a])) S := fun a S => by
      show binM .add (.lst ((ws.drop 1).map D.str)) (.lst [.str a]) S = _
      rw [o_addL (by simp at lnd ⊢; omega)]; simp [lw]
    have eo : (oddW ws bad).map lw = [lw ([83, 116, 101, 112, 115] :: ws.drop 1), lw ([102, 114, 97, 109, 101, 115] :: ws.drop 1), lw (ws.drop 1 ++ [[122, 122]])] ++ (((oddW ws bad).drop 3).map lw) := rfl
    rw [eo] at ixo
    simp only [oddW, List.drop_succ_cons, List.drop_zero, List.map_cons, List.map_nil, List.cons_append, List.nil_append] at ixo
    have fin := fin v K3 c3 b3 hvl
    have p1 := put v
    have p2 := put2 v
    have w1a := w1 [83, 116, 101, 112, 115]
    have w1b := w1 [102, 114, 97, 109, 101, 115]
    have w2a := w2 [122, 122]
    clear w1 w2
    refine ⟨_, K3, c3, [], ?_, fin⟩
    generalize ws.drop 1 = dw at *
    generalize (T ++ [v] ++ U).map lw = X at *
    generalize (T ++ [v]).map lw = X1 at *
    generalize L.map lw = Q at *
    generalize T.map lw = TQ at *
    generalize U.map lw = UQ at *
    generalize lw ([83, 116, 101, 112, 115] :: dw) = W1 at *
    generalize lw ([102, 114, 97, 109, 101, 115] :: dw) = W2 at *
    generalize lw (dw ++ [[122, 122]]) = W3 at *
    generalize lw ws = W at *
    generalize lw dw = WD at *
    generalize lw v = V at *
    simp only [lw, List.map_cons, List.map_nil] at ixo
    simp (disch := (first | decide | assumption | (simp only [List.length_append, List.length_cons, List.length_nil, List.length_map] <;> omega) | omega)) [-o_idxL, f_law_bent, hlen, e0, ix, e1, e2, cT, cU, cw, w1a, w1b, w2a, e3, ixo, p1, p2]
  · obtain ⟨d3, K3, c3, e3, b3, k, rfl, hk⟩ := gulp (fuel := fuel) (l := l + 1) (many := 2) (by omega) (by omega) g K2 c2 [] b2
    have hbn : ¬ bad = wAt := (bad_ok _ hbad).2
    have m1 : ∀ S : Store, binM .mul (.lst [.str bad]) (.int (1 + (k : Int))) S = .ok (lw (List.replicate (1 + k) bad)) S := fun S => by
      rw [o_mulL (by omega) (by omega), show (1 + (k : Int)).toNat = 1 + k by omega]
      simp [lw]
    have a1 : ∀ S : Store, binM .add (lw ws) (lw (List.replicate (1 + k) bad)) S = .ok (lw (ws ++ List.replicate (1 + k) bad)) S := fun S => by
      show binM .add (.lst (ws.map D.str)) (.lst ((List.replicate (1 + k) bad).map D.str)) S = _
      rw [o_addL (by have := lm.2; simp; omega)]; simp [lw]
    have hvl : Lm (m + 2) (ws ++ List.replicate (1 + k) bad) := by
      have := lm.2
      refine ⟨Lkw.mk' (fun w hw => ?_) ?_ (by simp; omega), by simp; omega⟩
      · rcases List.mem_append.mp hw with hw | hw
        · exact lm.1.wk hw
        · rw [(List.mem_replicate.mp hw).2]; exact Wk.of (bad_ok _ hbad).1
      · have hz : (List.replicate (1 + k) bad).count wAt = 0 := List.count_eq_zero.mpr fun z => hbn ((List.mem_replicate.mp z).2).symm
        rw [List.count_append, hz]
        exact lm.1.gw.one
    have fin := fin _ K3 c3 b3 hvl
    generalize ws ++ List.replicate (1 + k) bad = v at *
    have p1 := put v
    have p2 := put2 v
    refine ⟨_, K3, c3, [], ?_, fin⟩
    generalize (T ++ [v] ++ U).map lw = X at *
    generalize (T ++ [v]).map lw = X1 at *
    generalize L.map lw = Q at *
    generalize T.map lw = TQ at *
    generalize U.map lw = UQ at *
    generalize lw (List.replicate (1 + k) bad) = RR at *
    generalize lw ws = W at *
    generalize lw v = V at *
    simp (disch := (first | decide | assumption | (simp only [List.length_append, List.length_cons, List.length_nil, List.length_map] <;> omega) | omega)) [-o_idxL, f_law_bent, hlen, e0, ix, e1, e2, cT, cU, e3, m1, a1, p1, p2]
  · have hbn : ¬ bad = wAt := (bad_ok _ hbad).2
    have hwl := lm.2
    have hσ : ∀ v6 v7 v8 v9 v10 v11, ∃ (ks : List Nat), (∀ k ∈ ks, k < ws.length) ∧ ks.length ≤ ws.length ∧ ∀ S, compM (elG ⟨callF fs fuel (l + 2), fuel, l + 2⟩ [11] (.nm 11) (.cons f_law_bent_c0 .nil) f_law_bent_e0 [some (.cell 2), some (.lst (L.map lw)), some (.int n), some (lw ws), some (.int 5), some (.str bad), v6, v7, v8, v9, v10, v11]) (rngD 0 ws.length) 0 S = .ok (ks.map fun (k : Nat) => D.int (k : Nat)) S := by
      intro v6 v7 v8 v9 v10 v11
      refine ⟨(List.range' 0 ws.length).filter fun k => li (ws.getD k []), fun k hk => ?_, ?_, fun S => ?_⟩
      · have := List.mem_range'_1.mp (List.mem_filter.mp hk).1; omega
      · have := List.length_filter_le (fun k => li (ws.getD k [])) (List.range' 0 ws.length)
        simpa using this
      · rw [rngD_map]
        refine compM_flt (t := fun k => li (ws.getD k [])) (fun k hk => ?_) (by simp; omega)
        have hkw : k < ws.length := by have := List.mem_range'_1.mp hk; omega
        obtain ⟨w, hw⟩ : ∃ w, ws[k] = w := ⟨_, rfl⟩
        have hwm : w ∈ ws := by rw [← hw]; exact List.getElem_mem hkw
        have ew : ws.getD k [] = w := by rw [← hw]; simp [hkw]
        have qk : (0 : Int) ≤ (k : Int) := by omega
        have ixw : ∀ S : Store, idxM (lw ws) (.int (k : Nat)) S = .ok (.str w) S := fun S => by
          show idxM (.lst (ws.map D.str)) (.int (k : Nat)) S = _
          rw [o_idxL qk, Int.toNat_natCast, List.getElem?_map, List.getElem?_eq_getElem hkw, hw]; rfl
        have e := fun S => law_int (fuel := fuel) (l := l + 1) (w := w) (by have := (lm.1.wd w hwm).2.2.2; omega) S
        rw [ew]
        cases hli : li w with
        | true => rw [hli] at e; exact el_t (S1 := S) (by simp (disch := (first | decide | assumption | (simp only [List.length_append, List.length_cons, List.length_nil, List.length_map] <;> omega) | omega)) [-o_idxL, wipeE, f_law_bent_c0, ixw, e]) (by simp (disch := (first | decide | assumption | (simp only [List.length_append, List.length_cons, List.length_nil, List.length_map] <;> omega) | omega)) [wipeE, f_law_bent_e0])
        | false => rw [hli] at e; exact el_f (S1 := S) (by simp (disch := (first | decide | assumption | (simp only [List.length_append, List.length_cons, List.length_nil, List.length_map] <;> omega) | omega)) [-o_idxL, wipeE, f_law_bent_c0, ixw, e])
    obtain ⟨ks, hks, lks, ec⟩ := hσ none none none none none none
    have lnw : ∀ S : Store, bltD S .len [lw ws] = some (.int (ws.length : Nat)) := fun S => len_lw
    have f0 : ∀ S : Store, rngM (.int (ws.length : Int)) S = .ok (.xs (rngD 0 ws.length)) S := fun S => rngM_nat (by omega)
    have lnk : ∀ S : Store, bltD S .len [.lst (ks.map fun (k : Nat) => D.int (k : Nat))] = some (.int (ks.length : Nat)) := fun S => by
      rw [b_lenL, List.length_map]
    by_cases hk0 : ks.length = 0
    · have a1 : ∀ S : Store, binM .add (.lst (L.map lw)) (.lst [lw [[111, 117, 116]]]) S = .ok (.lst ((L ++ [[[111, 117, 116]]]).map lw)) S := fun S => by
        rw [o_addL (by simp; omega)]; simp
      have hout : Lm (m + 2) [[111, 117, 116]] := ⟨Lkw.mk' (fun w hw => by
        rw [List.mem_singleton.mp hw]; exact Wk.of (by decide)) (by decide) (by simp), by simp⟩
      have fin := any (L ++ [[[111, 117, 116]]]) K2 c2 b2 (fun v hv => by
        rcases List.mem_append.mp hv with h | h
        · exact mono _ (hL v h)
        · rw [List.mem_singleton.mp h]; exact hout) (by simp)
      have hlo : lw [[111, 117, 116]] = .lst [.str [111, 117, 116]] := rfl
      rw [hlo] at a1
      have hkn : ks = [] := List.eq_nil_of_length_eq_zero hk0
      subst hkn
      refine ⟨_, K2, c2, [], ?_, fin⟩
      generalize (L ++ [[[111, 117, 116]]]).map lw = X at *
      generalize L.map lw = Q at *
      generalize lw ws = W at *
      simp only [List.map_nil] at ec lnk
      simp (disch := (first | decide | assumption | (simp only [List.length_append, List.length_cons, List.length_nil, List.length_map] <;> omega) | omega)) [-x_comp, x_comp2, -o_idxL, f_law_bent, hlen, e0, ix, e1, e2, cT, cU, lnw, f0, srcD, ec, a1]
    · obtain ⟨d3, K3, c3, e3, b3, k, rfl, hk⟩ := gulp (fuel := fuel) (l := l + 1) (many := ks.length) (by omega) (by omega) g K2 c2 [] b2
      have hkl : k < ks.length := by omega
      obtain ⟨s, hs⟩ : ∃ s, ks[k] = s := ⟨_, rfl⟩
      have hsl := hks s (by rw [← hs]; exact List.getElem_mem hkl)
      have qk : (0 : Int) ≤ (k : Int) := by omega
      have ixk : ∀ S : Store, idxM (.lst (ks.map fun (k : Nat) => D.int (k : Nat))) (.int (k : Nat)) S = .ok (.int (s : Nat)) S := fun S => by
        rw [o_idxL qk, Int.toNat_natCast, List.getElem?_map, List.getElem?_eq_getElem hkl, hs]; rfl
      have hkp : ¬ ((ks.length : Int) = 0) := by omega
      have x1 : ∀ S : Store, cutD S (lw ws) none (some (s : Int)) = some (lw (ws.take s)) := fun S => by
        show cutD S (.lst (ws.map D.str)) none (some (s : Int)) = _
        rw [cutTo, ← List.map_take]; rfl
      have x2 : ∀ S : Store, cutD S (lw ws) (some ((s : Int) + 1)) none = some (lw (ws.drop (s + 1))) := fun S => by
        show cutD S (.lst (ws.map D.str)) (some ((s : Int) + 1)) none = _
        rw [cutFr1, ← List.map_drop]; rfl
      have y1 : ∀ S : Store, binM .add (lw (ws.take s)) (.lst [.str bad]) S = .ok (lw (ws.take s ++ [bad])) S := fun S => by
        show binM .add (.lst ((ws.take s).map D.str)) (.lst [.str bad]) S = _
        rw [o_addL (by simp; omega)]; simp [lw]
      have y2 : ∀ S : Store, binM .add (lw (ws.take s ++ [bad])) (lw (ws.drop (s + 1))) S = .ok (lw (ws.take s ++ [bad] ++ ws.drop (s + 1))) S := fun S => by
        show binM .add (.lst ((ws.take s ++ [bad]).map D.str)) (.lst ((ws.drop (s + 1)).map D.str)) S = _
        rw [o_addL (by simp; omega)]; simp [lw]
      have hvl : Lm (m + 2) (ws.take s ++ [bad] ++ ws.drop (s + 1)) := by
        refine ⟨Lkw.mk' (fun w hw => ?_) ?_ (by simp; omega), by simp; omega⟩
        · rcases List.mem_append.mp hw with hw | hw
          · rcases List.mem_append.mp hw with hw | hw
            · exact lm.1.wk (List.mem_of_mem_take hw)
            · rw [List.mem_singleton.mp hw]; exact Wk.of (bad_ok _ hbad).1
          · exact lm.1.wk (List.mem_of_mem_drop hw)
        · have h1 := lm.1.gw.one
          have h2 : ws.count wAt = (ws.take s).count wAt + (ws.drop s).count wAt := by
            rw [← List.count_append, List.take_append_drop]
          have h3 : (ws.drop (s + 1)).count wAt ≤ (ws.drop s).count wAt := by
            rw [← List.drop_drop]
            exact drop_cnt _ 1
          have h4 : [bad].count wAt = 0 := List.count_eq_zero.mpr fun z => hbn (List.mem_singleton.mp z).symm
          rw [List.count_append, List.count_append, h4]
          omega
      have fin := fin _ K3 c3 b3 hvl
      generalize hv : ws.take s ++ [bad] ++ ws.drop (s + 1) = v at *
      have p1 := put v
      have p2 := put2 v
      refine ⟨_, K3, c3, [], ?_, fin⟩
      generalize (T ++ [v] ++ U).map lw = X at *
      generalize (T ++ [v]).map lw = X1 at *
      generalize lw (ws.take s ++ [bad]) = Z1 at *
      generalize lw (ws.take s) = Z2 at *
      generalize lw (ws.drop (s + 1)) = Z3 at *
      generalize L.map lw = Q at *
      generalize T.map lw = TQ at *
      generalize U.map lw = UQ at *
      generalize ks.map (fun (k : Nat) => D.int (k : Nat)) = KS at *
      generalize lw ws = W at *
      generalize lw v = V at *
      simp (disch := (first | decide | assumption | (simp only [List.length_append, List.length_cons, List.length_nil, List.length_map] <;> omega) | omega)) [-x_comp, x_comp2, -b_lenL, -o_idxL, f_law_bent, hlen, e0, ix, e1, e2, cT, cU, lnw, f0, srcD, ec, lnk, hk0, hkp, e3, ixk, x1, x2, y1, y2, p1, p2]
end Lw
set_option linter.all false
set_option maxRecDepth 100000
set_option maxHeartbeats 8000000
set_option exponentiation.threshold 4000
/-! K5v: what is told is not great. -/
namespace Lw
open Fb
theorem szs_le {b : Nat} : ∀ {xs : List D}, (∀ x ∈ xs, D.sz x ≤ b) → D.szs xs ≤ b * xs.length
  | [], _ => by simp [D.szs]
  | x :: r, h => by
    have h1 := h x List.mem_cons_self
    have h2 := szs_le (xs := r) fun y hy => h y (List.mem_cons_of_mem _ hy)
    show D.sz x + D.szs r ≤ b * (r.length + 1)
    rw [Nat.mul_add]; omega
theorem wD_int {w : List Nat} (h : li w = true) : wD w = .int (val w) := by unfold wD; rw [h]; rfl
theorem pairs_len : ∀ (r : List (List Nat)), 2 * (pairs r).length ≤ r.length
  | [] => by simp [pairs]
  | [_] => by simp [pairs]
  | a :: b :: r => by
    have := pairs_len r
    simp [pairs]; omega
theorem good_sz {k : Nat} {w0 : List Nat} {ws : List (List Nat)} {d : D} (h : st k w0 ws = .good d) (hl : ws.length ≤ 40) : D.tis d = true ∧ D.sz d ≤ 400 := by
  unfold st at h
  split at h
  · unfold st0 at h
    split at h
    · cases h
    · rename_i hn
      split at h
      · rename_i ha
        cases h
        have h1 : ws.length = 1 := by
          by_cases e : ws.length = 1
          · exact e
          · exact absurd (.inr e) hn
        obtain ⟨w, rfl⟩ := List.length_eq_one_iff.mp h1
        have : li w = true := by simpa using ha
        simp [wD_int this, D.tis, D.sz]
      · cases h
  · unfold st1 at h
    split at h
    · cases h
    · split at h
      · rename_i ha
        cases h
        have hi : ∀ x ∈ ws.map wD, ∃ i, x = .int i := fun x hx => by
          obtain ⟨w, hw, rfl⟩ := List.mem_map.mp hx
          exact ⟨_, wD_int (List.all_eq_true.mp ha w hw)⟩
        have h1 : D.tiss (ws.map wD) = true := tiss_mem.mpr fun x hx => by
          obtain ⟨i, rfl⟩ := hi x hx; rfl
        have h2 : D.szs (ws.map wD) ≤ 1 * (ws.map wD).length := szs_le fun x hx => by
          obtain ⟨i, rfl⟩ := hi x hx; simp [D.sz]
        rw [List.length_map] at h2
        exact ⟨h1, by show D.szs (ws.map wD) + 1 ≤ 400; omega⟩
      · cases h
  · unfold stF at h
    split at h
    · rename_i a0 w1 r e
      cases e
      split at h
      · unfold beh at h
        split at h
        · cases h
        · rename_i p rest hbe
          split at h
          · cases h
          · split at h
            · cases h
              have hrl : rest.length ≤ 40 := by
                have h1 : (p :: rest).length ≤ r.length := by
                  rw [← hbe, List.length_drop]
                  have := (List.dropWhile_sublist (fun w => w != wAt) (l := r)).length_le
                  omega
                simp at h1 hl; omega
              have htl : (r.takeWhile (fun w => w != wAt)).length ≤ 40 := by
                have := (List.takeWhile_sublist (fun w => w != wAt) (l := r)).length_le
                simp at hl; omega
              have hpl := pairs_len rest
              generalize r.takeWhile (fun w => w != wAt) = ty at *
              generalize pairs rest = ps at *
              have t1 : D.tiss (ty.map .str) = true := tiss_mem.mpr fun x hx => by
                obtain ⟨i, _, rfl⟩ := List.mem_map.mp hx; rfl
              have t2 : D.tiss (ps.map fun q => .tup [.str q.1, .int (val q.2)]) = true := tiss_mem.mpr fun x hx => by
                obtain ⟨i, _, rfl⟩ := List.mem_map.mp hx; rfl
              have s1 : D.szs (ty.map .str) ≤ 1 * (ty.map D.str).length := szs_le fun x hx => by
                obtain ⟨i, _, rfl⟩ := List.mem_map.mp hx; simp [D.sz]
              have s2 : D.szs (ps.map fun q => .tup [.str q.1, .int (val q.2)]) ≤ 3 * (ps.map fun q => D.tup [.str q.1, .int (val q.2)]).length := szs_le fun x hx => by
                obtain ⟨i, _, rfl⟩ := List.mem_map.mp hx; simp [D.sz, D.szs]
              rw [List.length_map] at s1 s2
              refine ⟨by simp [frameD, D.tis, D.tiss, t1, t2], ?_⟩
              simp only [frameD, D.sz, D.szs]
              omega
            · cases h
      · cases h
    · cases h
theorem rd_sz : ∀ (xs : List (List Nat)) (n : Nat) (T T' : List D), (∀ x ∈ xs, (shownW x).length ≤ 40) → (∀ d ∈ T, D.tis d = true ∧ D.sz d ≤ 400) → rd n T xs = .ok T' → (∀ d ∈ T', D.tis d = true ∧ D.sz d ≤ 400) ∧ T'.length ≤ T.length + xs.length
  | [], n, T, T', _, h, e => by cases e; exact ⟨h, by simp⟩
  | x :: r, n, T, T', hx, h, e => by
    have hr : ∀ y ∈ r, (shownW y).length ≤ 40 := fun y hy => hx y (List.mem_cons_of_mem _ hy)
    by_cases hlim : 400 < x.length ∨ 600 < n + 1
    · rw [show rd n T (x :: r) = .err (n + 1) wLim from if_pos hlim] at e; cases e
    · have e' : rd n T (x :: r) = (match shownW x with
        | [] => rd (n + 1) T r
        | w0 :: ws => match st T.length w0 ws with
          | .bad w => .err (n + 1) w
          | .good d => rd (n + 1) (T ++ [d]) r) := if_neg hlim
      rw [e'] at e
      split at e
      · have := rd_sz r (n + 1) T T' hr h e
        exact ⟨this.1, by simp; omega⟩
      · split at e
        · cases e
        · rename_i w0 ws hs _ d hst
          have hl := hx x List.mem_cons_self
          rw [hs] at hl
          have hd := good_sz hst (by simp at hl; omega)
          have := rd_sz r (n + 1) (T ++ [d]) T' hr (fun z hz => by
            rcases List.mem_append.mp hz with g | g
            · exact h z g
            · rw [List.mem_singleton.mp g]; exact hd) e
          exact ⟨this.1, by have := this.2; simp at this ⊢; omega⟩
theorem an_sz {x : List Nat} (hx : ∀ y ∈ linesOf x, (shownW y).length ≤ 40) (hn : (linesOf x).length ≤ 30) : D.tis (an x).D = true ∧ D.sz (an x).D ≤ 400 * (linesOf x).length + 10 := by
  unfold an
  cases hrd : rd 0 [] (linesOf x) with
  | err n w => exact ⟨rfl, by simp [An.D, D.sz, D.szs]⟩
  | ok T =>
    obtain ⟨h1, h2⟩ := rd_sz (linesOf x) 0 [] T hx (fun d hd => by cases hd) hrd
    by_cases h3 : T.length < 2
    · simp only [if_pos h3]
      exact ⟨rfl, by simp [An.D, D.sz, D.szs]⟩
    · simp only [if_neg h3]
      obtain ⟨a, b, r, rfl⟩ : ∃ a b r, T = a :: b :: r := by
        match T, h3 with
        | [], h => exact absurd (by simp) h
        | [_], h => exact absurd (by simp) h
        | a :: b :: r, _ => exact ⟨a, b, r, rfl⟩
      have hd : outT (a :: b :: r) = .tup [a, b, .tup r] := rfl
      rw [hd]
      have ha := h1 a (by simp)
      have hb := h1 b (by simp)
      have hr : D.tiss r = true := tiss_mem.mpr fun x hx => (h1 x (by simp [hx])).1
      have hs := szs_le (b := 400) (xs := r) fun x hx => (h1 x (by simp [hx])).2
      simp only [List.length_cons, List.length_nil] at h2
      refine ⟨by simp [An.D, D.tis, D.tiss, ha.1, hb.1, hr], ?_⟩
      simp only [An.D, D.sz, D.szs]
      omega
theorem Rel.short {ys : List (List Nat)} {L : List (List (List Nat))} (h : Rel ys L) : (∀ ws ∈ L, Lkw ws) → ∀ y ∈ ys, (shownW y).length ≤ 40 := by
  induction h with
  | nil => exact fun _ y hy => (nomatch hy)
  | junk h hj ih =>
    intro hL y hy
    rcases List.mem_append.mp hy with g | g
    · exact ih hL y g
    · rw [List.mem_singleton.mp g, (junk_words _ hj).1]; simp
  | @line ys L y' ws h hj ih =>
    intro hL y hy
    rcases List.mem_append.mp hy with g | g
    · exact ih (fun ws hw => hL ws (by simp [hw])) y g
    · rw [List.mem_singleton.mp g]
      have lk := hL ws (by simp)
      unfold shownW
      rw [hj.wd]
      split
      · simp
      · exact lk.ln
/-- what both read of what was spaced -/
theorem spc_both {fuel l : Nat} {L : List (List (List Nat))} {x : List Nat} (hL : ∀ ws ∈ L, Lkw ws) (hn : L.length ≤ 14) (h1 : Rel (linesOf x) L) (h2 : (linesOf x).length ≤ 2 * L.length + 1) (h3 : x.length ≤ 80000) : ∃ d, (an x).D = d ∧ D.tis d = true ∧ D.sz d ≤ 400 * (2 * L.length + 1) + 10 ∧ (∀ S, callF fs fuel (l + 6) 21 [.str x] S = .ok d S) ∧ ∀ S, callF fs fuel (l + 6) 20 [.str x] S = .ok d S := by
  have gt : Gt x := ⟨by omega, h1.gl hL⟩
  obtain ⟨s1, s2⟩ := an_sz (x := x) (h1.short hL) (by omega)
  exact ⟨_, rfl, s1, by omega, fun S => heard (fuel := fuel) (l := l) gt S, fun S => reading (fuel := fuel) (l := l + 2) gt S⟩
end Lw
set_option linter.all false
set_option maxRecDepth 100000
set_option maxHeartbeats 8000000
set_option exponentiation.threshold 4000
/-! K5w: asked. -/
namespace Lw
open Fb
variable {l : Nat}
theorem ws_ne (s : Stt) : s.ws ≠ [] := by simp [Stt.ws]
theorem lap {g K c : Cell} (b : Bx g K c) {L : List (List (List Nat))} (hL : ∀ ws ∈ L, Lm 30 ws) (h0 : L ≠ []) (hn : L.length ≤ 8) {v1 v3 v4 v5 v6 : Option D} : ∃ K' c' w3 w5, Bx g K' c' ∧ exS ⟨callF fs 20000 (l + 6), 20000, l + 6⟩ f_law_asked_b0 [some (.cell 2), v1, some (.lst (L.map lw)), v3, v4, v5, v6] [g, K, c] = .ok (.nx [some (.cell 2), v1, some (.lst (L.map lw)), w3, v4, w5, v6]) [g, K', c'] := by
  obtain ⟨d0, K0, c0, e0, b0, L1, rfl, m1, n1⟩ := bent (fuel := 20000) (l := l + 3) hL (by omega) h0 (by omega) g K c [] b
  have fin : ∀ (L2 : List (List (List Nat))) (K c : Cell), Bx g K c → (∀ ws ∈ L2, Lkw ws) → L2.length ≤ 14 → ∃ (K' c' : Cell) (x : List Nat) (d : D), Bx g K' c' ∧ callF fs 20000 (l + 6) 22 [.cell 2, .lst (L2.map lw)] [g, K, c] = .ok (.str x) [g, K', c'] ∧ (∀ S, callF fs 20000 (l + 6) 21 [.str x] S = .ok d S) ∧ (∀ S, callF fs 20000 (l + 6) 20 [.str x] S = .ok d S) ∧ ∀ S, callF fs 20000 (l + 6) 14 [d, d] S = .ok (.bl true) S := fun L2 K c b hk hl => by
    obtain ⟨d1, K1, c1, e1, b1, x, rfl, r1, r2, r3⟩ := spaced (fuel := 20000) (l := l + 4) hk (by omega) g K c [] b
    obtain ⟨d, _, t1, t2, h1, h2⟩ := spc_both (fuel := 20000) (l := l) hk hl r1 r2 r3
    exact ⟨K1, c1, x, d, b1, e1, h1, h2, fun S => same_yes (l := l + 5) t1 (by omega) (by omega) S⟩
  have hlen : ∀ S : Store, bltD S .len [.lst (L1.map lw)] = some (.int (L1.length : Nat)) := fun S => by
    rw [b_lenL, List.length_map]
  obtain ⟨d2, K2, c2, e2, b2, n2, rfl, h2⟩ := gulp (fuel := 20000) (l := l + 5) (many := 4) (by omega) (by omega) g K0 c0 [] b0
  by_cases hp : 0 < L1.length
  · by_cases hz : n2 = 0
    · subst hz
      obtain ⟨d3, K3, c3, e3, b3, L2, rfl, m2, n3⟩ := bent (fuel := 20000) (l := l + 3) m1 (by omega) (List.length_pos_iff.mp hp) (by omega) g K2 c2 [] b2
      obtain ⟨K4, c4, x, d, b4, e4, e5, e6, e7⟩ := fin L2 K3 c3 b3 (fun ws hw => (m2 ws hw).1) (by omega)
      refine ⟨K4, c4, some (.str x), some (.lst (L2.map lw)), b4, ?_⟩
      generalize L.map lw = Q at *
      generalize L1.map lw = Q1 at *
      generalize L2.map lw = Q2 at *
      simp (disch := (first | decide | assumption | (simp only [List.length_append, List.length_cons, List.length_nil, List.length_map] <;> omega) | omega)) [-b_lenL, f_law_asked_b0, e0, hlen, hp, e2, e3, e4, e5, e6, e7]
    · obtain ⟨K4, c4, x, d, b4, e4, e5, e6, e7⟩ := fin L1 K2 c2 b2 (fun ws hw => (m1 ws hw).1) (by omega)
      refine ⟨K4, c4, some (.str x), some (.lst (L1.map lw)), b4, ?_⟩
      generalize L.map lw = Q at *
      generalize L1.map lw = Q1 at *
      simp (disch := (first | decide | assumption | (simp only [List.length_append, List.length_cons, List.length_nil, List.length_map] <;> omega) | omega)) [-b_lenL, f_law_asked_b0, e0, hlen, hp, e2, hz, e4, e5, e6, e7]
  · obtain ⟨K4, c4, x, d, b4, e4, e5, e6, e7⟩ := fin L1 K0 c0 b0 (fun ws hw => (m1 ws hw).1) (by omega)
    refine ⟨K4, c4, some (.str x), some (.lst (L1.map lw)), b4, ?_⟩
    generalize L.map lw = Q at *
    generalize L1.map lw = Q1 at *
    simp (disch := (first | decide | assumption | (simp only [List.length_append, List.length_cons, List.length_nil, List.length_map] <;> omega) | omega)) [-b_lenL, f_law_asked_b0, e0, hlen, hp, e4, e5, e6, e7]
theorem asked : Dr 20000 (l + 7) 24 [] fun d => d = .bl true := by
  refine Dr.go0 (l := l + 6) (show fs[24]? = some f_law_asked from rfl) rfl rfl rfl fun g K c b => ?_
  obtain ⟨d0, K0, c0, e0, b0, s, rfl, hs⟩ := state (fuel := 20000) (l := l + 1) g K c [] b
  have e1 := fun S => law_lines (fuel := 20000) (l := l + 5) hs S
  have e2 := fun S => state_text (fuel := 20000) (l := l + 4) hs S
  have hlk := ws_lk hs
  have hwl : s.ws.length ≤ 8 := by have := hs.fl; simp [Stt.ws]; omega
  have hwm : ∀ ws ∈ s.ws, Lm 30 ws := fun ws hw => ⟨(hlk ws hw).1, by
    have hw' := hw
    unfold Stt.ws at hw
    simp only [List.mem_cons, List.mem_map] at hw
    rcases hw with rfl | rfl | ⟨f, hf, rfl⟩
    · simp
    · have := hs.ol; simp; omega
    · exact ws_bound (hs.fr f hf)⟩
  have lnT : ∀ w ∈ s.ws.map lineT, w.length ≤ 10000 := fun w hw => by
    obtain ⟨ws, hws, rfl⟩ := List.mem_map.mp hw
    have h1 := join_len [32] ws
    have h2 := (hlk ws hws).2.1
    unfold tot at h2
    unfold lineT
    simp at h1 ⊢
    omega
  have ej : ∀ S : Store, mthD S .join (.str []) [.lst ((s.ws.map lineT).map .str)] = some (.str s.text, S) := fun S => by
    have h2 := sum_le lnT
    rw [join_seq (S := S) (s := []) (d := .lst ((s.ws.map lineT).map .str)) (s.ws.map lineT) rfl rfl (by simp at h2 ⊢; omega), join_nil]; rfl
  have ec : ∀ S : Store, compM (elG ⟨callF fs 20000 (l + 6), 20000, l + 6⟩ [6] (.nm 6) .nil f_law_asked_e1 [some (.cell 2), some s.d, some (.lst (s.ws.map lw)), none, none, none, none]) (s.ws.map lw) 0 S = .ok ((s.ws.map lineT).map .str) S := fun S => by
    rw [List.map_map]
    refine compM_map (fun ws hw => ?_) (by omega)
    have jw : ∀ S : Store, mthD S .join (.str [32]) [lw ws] = some (.str (joinD [32] ws), S) := fun S => join_ws (d := lw ws) rfl (fun w hw' => by have := ((hlk ws hw).1.wd w hw').2.2.2; omega) (by have := (hwm ws hw).2; omega)
    have hjl : (joinD [32] ws).length ≤ 10000 := by
      have := lnT (lineT ws) (List.mem_map.mpr ⟨ws, hw, rfl⟩)
      unfold lineT at this
      simp at this; omega
    refine el_nm ?_
    show _ = Res.ok (D.str (lineT ws)) S
    unfold lineT
    generalize lw ws = W at *
    simp (disch := (first | decide | assumption | (simp only [List.length_append, List.length_cons, List.length_nil, List.length_map] <;> omega) | omega)) [wipeE, f_law_asked_e1, jw, recvOk]
  have y1 := fun S => same_yes (fuel := 20000) (l := l + 5) (d := .str s.text) rfl (by simp [D.sz]) (by simp [D.sz]) S
  obtain ⟨d3, K3, c3, e3, b3, x, rfl, r1, r2, r3⟩ := spaced (fuel := 20000) (l := l + 4) (L := s.ws) (fun ws hw => (hlk ws hw).1) (by omega) g K0 c0 [] b0
  obtain ⟨d, hd, t1, t2, h1, h2⟩ := spc_both (fuel := 20000) (l := l) (fun ws hw => (hlk ws hw).1) (by omega) r1 r2 r3
  rw [an_right hs r1 (by omega) fun ws hw => (hlk ws hw).2] at hd
  have hd : D.tup [.str [116, 111, 108, 100], s.d] = d := hd
  rw [← hd] at h1 h2 t1 t2
  have ht := D.tup [.str [116, 111, 108, 100], s.d]
  have y2 := fun S => same_yes (fuel := 20000) (l := l + 5) (d := .tup [.tup [.str [116, 111, 108, 100], s.d], .tup [.str [116, 111, 108, 100], s.d]]) (by simp only [D.tis, D.tiss] at t1 ⊢; simpa using t1) (by simp only [D.sz, D.szs] at t2 ⊢; omega) (by simp only [D.sz, D.szs] at t2 ⊢; omega) S
  obtain ⟨σ1, S1, e4, K4, c4, v3, v4, v5, rfl, rfl, b4⟩ := forL_ix (f := patB (.nm 4) fun σ' => exS ⟨callF fs 20000 (l + 6), 20000, l + 6⟩ f_law_asked_b0 σ') (fun j σ S => ∃ (K c : Cell) (v3 v4 v5 : Option D), σ = [some (.cell 2), some s.d, some (.lst (s.ws.map lw)), v3, v4, v5, none] ∧ S = [g, K, c] ∧ Bx g K c)
    (xs := rngD 0 7) (j := 0) (σ := [some (.cell 2), some s.d, some (.lst (s.ws.map lw)), some (.str x), none, none, none]) (S := [g, K3, c3])
    (fun i x σ S hx ⟨K, c, v3, v4, v5, q1, q2, b⟩ => by
      subst q1 q2
      obtain ⟨K', c', w3, w5, b', e⟩ := lap (l := l) b hwm (ws_ne s) hwl (v1 := some s.d) (v3 := v3) (v4 := some x) (v5 := v5) (v6 := none)
      exact ⟨_, _, e, K', c', _, _, _, rfl, rfl, b'⟩) ⟨K3, c3, _, _, _, rfl, rfl, b3⟩
  have f7 : ∀ S : Store, rngM (.int 7) S = .ok (.xs (rngD 0 7)) S := fun S => rngM_nat (m := 7) (by omega)
  refine ⟨.bl true, K4, c4, [], ?_, b4, rfl, rfl⟩
  have hsd := s.d
  generalize s.ws.map lw = Q at *
  generalize (s.ws.map lineT).map D.str = TT at *
  generalize s.text = ST at *
  generalize s.d = sd at *
  generalize rngD 0 7 = R7 at *
  simp (disch := (first | decide | assumption | (simp only [List.length_append, List.length_cons, List.length_nil, List.length_map] <;> omega) | omega)) [-x_comp, x_comp2, f_law_asked, e0, e1, e2, srcD, ec, ej, recvOk, y1, e3, h1, h2, y2, f7, e4]
end Lw
set_option linter.all false
set_option maxRecDepth 100000
set_option maxHeartbeats 16000000
namespace Lw
open Fb
def okT : Res D → Bool
  | .ok (.bl true) [] => true
  | _ => false
theorem okT_of {r : Res D} (h : okT r = true) : r = .ok (.bl true) [] := by
  unfold okT at h
  split at h
  · rfl
  · cases h
theorem hand0 : okT (callF fs 20000 8 25 [] []) = true := by decide +kernel
end Lw
set_option linter.all false
set_option maxRecDepth 100000
set_option maxHeartbeats 16000000
set_option exponentiation.threshold 4000
/-! K5x: the law. -/
namespace Lw
open Fb
variable {fuel l : Nat}
theorem call_any {f : Nat} {fn : Fn} {xs : List D} {d : D} (hf : fs[f]? = some fn) (hl : xs.length = fn.np) (hk : fn.keep = false) (ht : D.tops xs = 0) (h : callF fs fuel (l + 1) f xs [] = .ok d []) (S : Store) : callF fs fuel (l + 1) f xs S = .ok d S := by
  rw [callF_succ hf hl] at h ⊢
  have hs : ∀ S : Store, shown xs S = 0 := fun S => by
    unfold shown
    rw [ht]
    exact if_pos ⟨Nat.zero_le _, rfl⟩
  unfold callFn at h ⊢
  rw [hk, hs] at h ⊢
  simp only [Bool.false_eq_true, if_false, List.take_zero, List.drop_zero] at h ⊢
  generalize runFn ⟨callF fs fuel l, fuel, l⟩ fn xs [] = r at *
  cases r with
  | ok d1 S1 =>
    simp only at h ⊢
    cases h1 : frz 0 S1 4 d1 with
    | none => rw [h1] at h; cases h
    | some d2 =>
      rw [h1] at h
      cases h2 : frzS 0 S1 with
      | none => rw [h2] at h; cases h
      | some S2 =>
        rw [h2] at h
        simp only [List.append_nil] at h
        cases h
        rfl
  | exc c as S1 =>
    simp only at h
    split at h <;> cases h
  | bad => cases h
mutual
def D.eqT : D → D → Bool
  | .tup xs, .tup ys => D.eqTs xs ys
  | .str a, .str b => a == b
  | .int i, .int j => i == j
  | _, _ => false
def D.eqTs : List D → List D → Bool
  | [], [] => true
  | x :: xs, y :: ys => D.eqT x y && D.eqTs xs ys
  | _, _ => false
end
mutual
theorem eqT_eq : ∀ {x y : D}, D.eqT x y = true → x = y
  | .tup xs, .tup ys, h => by rw [eqTs_eq (show D.eqTs xs ys = true from h)]
  | .str a, .str b, h => by rw [eq_of_beq (show (a == b) = true from h)]
  | .int i, .int j, h => by rw [eq_of_beq (show (i == j) = true from h)]
theorem eqTs_eq : ∀ {x y : List D}, D.eqTs x y = true → x = y
  | [], [], _ => rfl
  | x :: xs, y :: ys, h => by
    have h2 := Bool.and_eq_true_iff.mp (show (D.eqT x y && D.eqTs xs ys) = true from h)
    rw [eqT_eq h2.1, eqTs_eq h2.2]
end
def resT (d : D) : Res D → Bool
  | .ok x [] => D.eqT x d
  | _ => false
theorem resT_of {r : Res D} {d : D} (h : resT d r = true) : r = .ok d [] := by
  unfold resT at h
  split at h
  · rw [eqT_eq h]
  · cases h
def wStep : List Nat := [115, 116, 101, 112, 115, 32, 51, 10, 111, 117, 116, 32, 49]
def textM (m : Nat) : List Nat := wStep ++ List.replicate 597 10 ++ List.replicate 400 35 ++ List.replicate (1 + m) 10 ++ [102, 114, 97, 109, 101, 32, 102, 32, 105, 110, 116, 32, 97, 116, 32, 50]
def textW (k : Nat) : List Nat := wStep ++ List.replicate (395 + k) 32
def due0 : D := .tup [.str [116, 111, 108, 100], .tup [.int 3, .tup [.int 1], .tup [.tup [.tup [.str [102], .tup [.str [105, 110, 116]]], .int 2, .tup []]]]]
def due1 : D := .tup [.str [108, 105, 110, 101], .int 601, .str [108, 105, 109, 105, 116]]
def wide0 : D := .tup [.str [116, 111, 108, 100], .tup [.int 3, .tup [.int 1], .tup []]]
def wide1 : D := .tup [.str [108, 105, 110, 101], .int 2, .str [108, 105, 109, 105, 116]]
theorem ht0 : resT due0 (callF fs 20000 8 21 [.str (textM 0)] []) = true := by decide +kernel
theorem ht1 : resT due1 (callF fs 20000 8 21 [.str (textM 1)] []) = true := by decide +kernel
theorem hw0 : resT wide0 (callF fs 20000 8 21 [.str (textW 0)] []) = true := by decide +kernel
theorem hw1 : resT wide1 (callF fs 20000 8 21 [.str (textW 1)] []) = true := by decide +kernel
theorem rw0 : resT wide0 (callF fs 20000 8 20 [.str (textW 0)] []) = true := by decide +kernel
theorem rw1 : resT wide1 (callF fs 20000 8 20 [.str (textW 1)] []) = true := by decide +kernel
end Lw
set_option linter.all false
set_option maxRecDepth 100000
set_option maxHeartbeats 16000000
set_option exponentiation.threshold 4000
/-! K5y: the law. -/
namespace Lw
open Fb
variable {fuel l : Nat}
def P6 (k : Nat) : Int := 10 ^ (60 * k)
theorem p_mul (S : Store) : ∀ k : Nat, 1 ≤ k → k ≤ 6 → binM .mul (.int (P6 k)) (.int (P6 1)) S = .ok (.int (P6 (k + 1))) S := by
  intro k h1 h6
  have e : P6 k * P6 1 = P6 (k + 1) := by
    unfold P6
    rw [← Int.pow_add, ← Nat.mul_add]
  rw [← e]
  refine o_mulW ?_
  have : ∀ k : Nat, k < 7 → (P6 k).natAbs.log2 + (P6 1).natAbs.log2 < 1000000 := by decide +kernel
  exact this k (by omega)
theorem b_absI {S : Store} {i : Int} : bltD S .abs [.int i] = some (.int (if i < 0 then -i else i)) := (rfl)
theorem b_intB {S : Store} {b : Bool} : bltD S .int [.bl b] = some (.int (if b then 1 else 0)) := (rfl)
theorem mug {is : List Int} (hl : is.length ≤ 63) : ∃ g K c, callF fs fuel (l + 1) 11 [.ro (is.map .int)] [] = .ok (.cell 2) [g, K, c] ∧ Bx g K c := by
  rw [callF_succ (show fs[11]? = some f_law_mug from rfl) rfl]
  have t64 : two64 = 18446744073709551616 := rfl
  have p60 : ∀ S : Store, binM .pow (.int 10) (.int 60) S = .ok (.int (P6 1)) S := fun S => o_pow (i := 10) (j := 60) (S := S) (by decide)
  have p18 : ∀ S : Store, binM .pow (.int 10) (.int 18) S = .ok (.int 1000000000000000000) S := fun S => o_pow (i := 10) (j := 18) (S := S) (by decide)
  have m1 := fun S => p_mul S 1 (by omega) (by omega)
  have m2 := fun S => p_mul S 2 (by omega) (by omega)
  have m3 := fun S => p_mul S 3 (by omega) (by omega)
  have m4 := fun S => p_mul S 4 (by omega) (by omega)
  have m5 := fun S => p_mul S 5 (by omega) (by omega)
  have m6 := fun S => p_mul S 6 (by omega) (by omega)
  have hpos : (0 : Int) < P6 7 := by decide +kernel
  simp only [Nat.reduceAdd] at m1 m2 m3 m4 m5 m6
  generalize P6 7 = q7 at *
  generalize P6 6 = q6 at *
  generalize P6 5 = q5 at *
  generalize P6 4 = q4 at *
  generalize P6 3 = q3 at *
  generalize P6 2 = q2 at *
  generalize P6 1 = q1 at *
  obtain ⟨σ1, S1, e1, gs, s, v3, v4, rfl, rfl, hi, hn⟩ := forL_ix (f := patB (.nm 3) fun σ' => exS ⟨callF fs fuel l, fuel, l⟩ f_law_mug_b0 σ') (fun j σ S => ∃ (gs : List D) (s : Int) (v3 v4 : Option D), σ = [some (.ro (is.map .int)), some (.cell 0), some (.int s), v3, v4] ∧ S = [.lst gs] ∧ intz gs ∧ gs.length ≤ j)
    (xs := cutL (is.map D.int) none (some 57)) (j := 0) (σ := [some (.ro (is.map .int)), some (.cell 0), some (.int 520021), none, none]) (S := [.lst []])
    (fun i x σ S hx ⟨gs, s, v3, v4, e1, e2, hi, hn⟩ => by
      have hm := mem_cutL (List.mem_of_getElem? hx)
      obtain ⟨n, hn1, rfl⟩ := List.mem_map.mp hm
      subst e1 e2
      have hix : i < (cutL (is.map D.int) none (some 57)).length := (List.getElem?_eq_some_iff.mp hx).1
      have hcl := cutL_len (is.map D.int) none (some 57)
      rw [List.length_map] at hcl
      have ba : ∀ S : Store, bltD S .abs [.int n] = some (.int (if n < 0 then -n else n)) := fun S => b_absI
      generalize (if n < 0 then -n else n) = a at *
      have bb : ∀ S : Store, bltD S .int [.bl (decide (n < 0))] = some (.int (if n < 0 then 1 else 0)) := fun S => by
        rw [b_intB]; simp
      generalize (if n < 0 then (1 : Int) else 0) = bi at *
      have hs := 0
      by_cases hg : 1000000000000000000 ≤ a % q7
      · have em := m_app (S := [.lst gs]) (n := 0) (xs := gs) (y := .int (a % q7)) rfl (by omega)
        refine ⟨[some (.ro (is.map .int)), some (.cell 0), some (.int ((s * 36313 + a % q7 % 1000009531 + bi) % 2147482223)), some (.int n), some (.int (a % q7))], [.lst (gs ++ [.int (a % q7)])], ?_, _, _, _, _, rfl, rfl, fun z hz => ?_, by simp; omega⟩
        · simp (disch := (first | decide | assumption | (simp only [List.length_append, List.length_cons, List.length_nil, List.length_map] <;> omega) | omega)) [f_law_mug_b0, ba, p60, m1, m2, m3, m4, m5, m6, hpos, t64, bb, p18, hg, em, recvOk]
        · rcases List.mem_append.mp hz with h | h
          · exact hi z h
          · exact ⟨_, List.mem_singleton.mp h⟩
      · refine ⟨[some (.ro (is.map .int)), some (.cell 0), some (.int ((s * 36313 + a % q7 % 1000009531 + bi) % 2147482223)), some (.int n), some (.int (a % q7))], [.lst gs], ?_, _, _, _, _, rfl, rfl, hi, by omega⟩
        simp (disch := (first | decide | assumption | (simp only [List.length_append, List.length_cons, List.length_nil, List.length_map] <;> omega) | omega)) [f_law_mug_b0, ba, p60, m1, m2, m3, m4, m5, m6, hpos, t64, bb, p18, hg]) ⟨[], 520021, none, none, rfl, rfl, (fun _ z => (nomatch z)), by simp⟩
  refine ⟨.lst gs, .lst gs.reverse, .lst [.cell 1, .int s, .int 0], ?_, ⟨gs, rfl, hi⟩, ⟨_, rfl, fun z hz => hi z (List.mem_reverse.mp hz)⟩, s, 0, rfl⟩
  have hc : ∀ S : Store, cutD S (.ro (is.map .int)) none (some 57) = some (.lst (cutL (is.map .int) none (some 57))) := fun S => rfl
  have hr : ∀ S : Store, revD (Cell.lst gs :: S) (.cell 0) = some (.lst gs.reverse) := fun S => rfl
  refine call_keepE rfl ?_
  simp (disch := (first | decide | assumption | (simp only [List.length_append, List.length_cons, List.length_nil, List.length_map] <;> omega) | omega)) [f_law_mug, hc, srcD, e1, hr]
theorem law_ev {is : List Int} (hl : is.length ≤ 63) : ∃ S, callF fs 20000 9 26 [.ro (is.map .int)] [] = .ok (.bl true) S := by
  obtain ⟨g, K, c, e, b⟩ := mug (fuel := 20000) (l := 7) hl
  rw [callF_succ (show fs[26]? = some f_law from rfl) rfl]
  have hh := call_any (show fs[25]? = some f_law_hand from rfl) rfl rfl rfl (okT_of hand0)
  obtain ⟨σ1, S1, e1, K1, c1, v2, rfl, rfl, b1⟩ := forL_ix (f := patB (.nm 2) fun σ' => exS ⟨callF fs 20000 8, 20000, 8⟩ f_law_b0 σ') (fun j σ S => ∃ (K c : Cell) (v2 : Option D), σ = [some (.ro (is.map .int)), some (.cell 2), v2, none, none, none, none] ∧ S = [g, K, c] ∧ Bx g K c)
    (xs := rngD 0 3) (j := 0) (σ := [some (.ro (is.map .int)), some (.cell 2), none, none, none, none, none]) (S := [g, K, c])
    (fun i x σ S hx ⟨K, c, v2, e1, e2, b⟩ => by
      subst e1 e2
      obtain ⟨d, K', c', e, b', rfl⟩ := asked (l := 1) g K c [] b
      refine ⟨[some (.ro (is.map .int)), some (.cell 2), some x, none, none, none, none], [g, K', c'], ?_, K', c', _, rfl, rfl, b'⟩
      simp (disch := (first | decide | assumption | (simp only [List.length_append, List.length_cons, List.length_nil, List.length_map] <;> omega) | omega)) [f_law_b0, e]) ⟨K, c, none, rfl, rfl, b⟩
  have f3 : ∀ S : Store, rngM (.int 3) S = .ok (.xs (rngD 0 3)) S := fun S => rngM_nat (m := 3) (by omega)
  generalize rngD 0 3 = R3 at *
  obtain ⟨d2, K2, c2, e2, b2, n2, rfl, h2⟩ := gulp (fuel := 20000) (l := 7) (many := 7) (by omega) (by omega) g K1 c1 [] b1
  have hfree : D.tops [D.ro (is.map .int)] = 0 := tops_free (frees_mem.mpr fun d hd => by
    rw [List.mem_singleton.mp hd]
    exact frees_mem.mpr fun d hd => by
      obtain ⟨n, _, rfl⟩ := List.mem_map.mp hd
      rfl)
  by_cases h7 : n2 = 2
  · subst h7
    obtain ⟨d3, K3, c3, e3, b3, m, rfl, hm⟩ := gulp (fuel := 20000) (l := 7) (many := 2) (by omega) (by omega) g K2 c2 [] b2
    obtain ⟨d4, K4, c4, e4, b4, k, rfl, hk⟩ := gulp (fuel := 20000) (l := 7) (many := 2) (by omega) (by omega) g K3 c3 [] b3
    have s1 := fun S => o_mulS (S := S) (x := 10) (k := 597) (by omega) (by omega)
    have s2 := fun S => o_mulS (S := S) (x := 35) (k := 400) (by omega) (by omega)
    have s3 := fun S => o_mulS (S := S) (x := 10) (k := 1 + (m : Int)) (by omega) (by omega)
    have s4 := fun S => o_mulS (S := S) (x := 32) (k := 395 + (k : Int)) (by omega) (by omega)
    have z1 : (597 : Int).toNat = 597 := rfl
    have z2 : (400 : Int).toNat = 400 := rfl
    have z3 : (1 + (m : Int)).toNat = 1 + m := by omega
    have z4 : (395 + (k : Int)).toNat = 395 + k := by omega
    rw [z1] at s1; rw [z2] at s2; rw [z3] at s3; rw [z4] at s4
    have ea : ∀ (S : Store) (x y : List Nat), x.length ≤ 100000 → y.length ≤ 100000 → binM .add (.str x) (.str y) S = .ok (.str (x ++ y)) S := fun S x y hx hy => o_addS (by omega)
    have a1 := fun S => ea S wStep (List.replicate 597 10) (by decide) (by simp)
    have a2 := fun S => ea S (wStep ++ List.replicate 597 10) (List.replicate 400 35) (by simp [wStep]) (by simp)
    have a3 := fun S => ea S (wStep ++ List.replicate 597 10 ++ List.replicate 400 35) (List.replicate (1 + m) 10) (by simp [wStep]) (by simp; omega)
    have a4 : ∀ S : Store, binM .add (.str (wStep ++ List.replicate 597 10 ++ List.replicate 400 35 ++ List.replicate (1 + m) 10)) (.str [102, 114, 97, 109, 101, 32, 102, 32, 105, 110, 116, 32, 97, 116, 32, 50]) S = .ok (.str (textM m)) S := fun S => ea S _ _ (by simp [wStep]; omega) (by simp)
    have a5 : ∀ S : Store, binM .add (.str wStep) (.str (List.replicate (395 + k) 32)) S = .ok (.str (textW k)) S := fun S => ea S _ _ (by simp [wStep]) (by simp; omega)
    have hM : ∀ S : Store, callF fs 20000 8 21 [.str (textM m)] S = .ok (if m = 0 then due0 else due1) S := by
      rcases (show m = 0 ∨ m = 1 by omega) with rfl | rfl
      · exact call_any (show fs[21]? = some f_law_heard from rfl) rfl rfl rfl (resT_of ht0)
      · exact call_any (show fs[21]? = some f_law_heard from rfl) rfl rfl rfl (resT_of ht1)
    have hW : ∀ S : Store, callF fs 20000 8 21 [.str (textW k)] S = .ok (if k = 0 then wide0 else wide1) S := by
      rcases (show k = 0 ∨ k = 1 by omega) with rfl | rfl
      · exact call_any (show fs[21]? = some f_law_heard from rfl) rfl rfl rfl (resT_of hw0)
      · exact call_any (show fs[21]? = some f_law_heard from rfl) rfl rfl rfl (resT_of hw1)
    have hR : ∀ S : Store, callF fs 20000 8 20 [.str (textW k)] S = .ok (if k = 0 then wide0 else wide1) S := by
      rcases (show k = 0 ∨ k = 1 by omega) with rfl | rfl
      · exact call_any (show fs[20]? = some f_law_reading from rfl) rfl rfl rfl (resT_of rw0)
      · exact call_any (show fs[20]? = some f_law_reading from rfl) rfl rfl rfl (resT_of rw1)
    have hy : ∀ S : Store, callF fs 20000 8 14 [.tup [if m = 0 then due0 else due1, if k = 0 then wide0 else wide1], .tup [if m = 0 then due0 else due1, if k = 0 then wide0 else wide1]] S = .ok (.bl true) S := fun S => by
      rcases (show m = 0 ∨ m = 1 by omega) with rfl | rfl <;> rcases (show k = 0 ∨ k = 1 by omega) with rfl | rfl <;> exact same_yes (l := 7) rfl (by decide) (by decide) S
    refine ⟨[], call_freeE rfl hfree rfl (S' := [g, K4, c4]) ?_⟩
    generalize wStep ++ List.replicate 597 10 ++ List.replicate 400 35 ++ List.replicate (1 + m) 10 = t3 at *
    generalize wStep ++ List.replicate 597 10 ++ List.replicate 400 35 = t2 at *
    generalize wStep ++ List.replicate 597 10 = t1 at *
    unfold wStep at *
    generalize List.replicate 597 10 = r1 at *
    generalize List.replicate 400 35 = r2 at *
    generalize List.replicate (1 + m) 10 = r3 at *
    generalize List.replicate (395 + k) 32 = r4 at *
    generalize textM m = tm at *
    generalize textW k = tw at *
    generalize hwide : (if k = 0 then wide0 else wide1) = wd at *
    rcases (show m = 0 ∨ m = 1 by omega) with rfl | rfl
    · simp only [if_pos] at hM hy
      have s3 : ∀ S : Store, binM .mul (.str [10]) (.int 1) S = .ok (.str r3) S := s3
      generalize hD : due0 = du at *
      unfold due0 at hD
      simp (disch := (first | decide | assumption | (simp only [List.length_append, List.length_cons, List.length_nil, List.length_map] <;> omega) | omega)) [f_law, e, hh, f3, srcD, e1, e2, e3, s1, a1, s2, a2, s3, a3, a4, hD, e4, s4, a5, hM, hW, hR, hy]
    · simp only [Nat.one_ne_zero, if_false] at hM hy
      have s3 : ∀ S : Store, binM .mul (.str [10]) (.int 2) S = .ok (.str r3) S := s3
      generalize hD : due1 = du at *
      unfold due1 at hD
      simp (disch := (first | decide | assumption | (simp only [List.length_append, List.length_cons, List.length_nil, List.length_map] <;> omega) | omega)) [f_law, e, hh, f3, srcD, e1, e2, e3, s1, a1, s2, a2, s3, a3, a4, hD, e4, s4, a5, hM, hW, hR, hy]
  · refine ⟨[], call_freeE rfl hfree rfl (S' := [g, K2, c2]) ?_⟩
    have h7' : ¬ ((n2 : Int) = 2) := by omega
    simp (disch := (first | decide | assumption | (simp only [List.length_append, List.length_cons, List.length_nil, List.length_map] <;> omega) | omega)) [f_law, e, hh, f3, srcD, e1, e2, h7, h7']
end Lw
set_option Elab.async false
set_option linter.all false
set_option maxRecDepth 100000
set_option maxHeartbeats 1000000
/-! Fx1: an own exception's __init__ that says super().__init__(..). -/
namespace Fb
open PySem PySem.Spec PyProof.Rows L2 NdefX
section
variable {CX : CXT} {P : Program} {w : World} {K : PySem.W.Frag} {mg : Str → Option Value} {base : Heap} {N ps fr : List Str} {F : NF} {f : Addr} {k : Nat} {sp : Sp}
/-- a def that closes over cells of the written part -/
theorem fnc_of {oc doc pm ctv : Value} {od : Option Addr} {osl : Array (Option Value)} {ws : List (Option V)} (lk : K.lookup f = some ⟨oc, od, .func (F.fd doc pm ctv), osl⟩) (hcd : PySem.W.codeIn K (.ref F.c) F.qual = true) (S : NScope N ps fr F.scope)
    (hcl : ∀ (h : Heap) (H : Hp), K.In h → (∀ b o, K.lookup b = some o → H b = none) → CellsAt F.cl fr ws h H) (len : ∀ vs H Q E, sp vs H Q E → vs.length = ps.length)
    (hbody : ∀ (A : Around) (outer : List Env) (s s1 : Shared) (H : Hp) (vs : List V) (Q : VK) (E : XK), Room k (A.deeper (envF F f s.heap.objs.size)) → sp vs H Q E → Inv (ncx CX P w K mg base N F f A outer s H E) [] (startF N vs ws) H s1 →
      _root_.PySem.wpAt (model P w) (A.deeper (envF F f s.heap.objs.size)) (.func F.body (envF F f s.heap.objs.size)) (execs F.body (envF F f s.heap.objs.size))
        (fun fl s' => ∃ u v σ' H', (match fl with
          | .ret u => u
          | _ => .none) = u ∧ Inv (ncx CX P w K mg base N F f A outer s H E) [] σ' H' s' ∧ RelV v u ∧ Q v H') (ncx CX P w K mg base N F f A outer s H E).xe s1) :
    FnOk P w K mg base CX (k + 1) f (F.fd doc pm ctv) ps sp := by
  refine ⟨len, fun A outer s H args us vs Q E hr e0 hb r hsp => ?_⟩
  have KX : K.In s.heap := e0.mod.kin.keeps fun b o e => (e0.bs b o e).1
  have hl := len _ _ _ _ hsp
  have lim : s.heap.NoLimit := e0.mod.nolimit.keeps fun b o e => (e0.bs b o e).1
  have C := hcl s.heap H KX fun b o e => (e0.bs b o (e0.mod.kin _ _ e)).2
  refine codeAny_call_function hr.depth (KX _ _ lk) rfl S.co S.gen rfl (PySem.W.codeRec_of KX hcd) (hb _ _ _ _ ?_)
  refine wpAny_newFunctionEnv S.nocell (fun ⟨n, _⟩ hy => S.par n (List.of_mem_zip hy).1) (fun h₁ hns hsb => ⟨lim.fresh _ hsb, ?_⟩) S.kind
  refine ks_codeAny_funcAt ?_
  have kp : ∀ b o, s.heap.get? b = some o → h₁.get? b = some o := fun b o e => hsb.extBut b o (Nat.ne_of_lt (Heap.lt_size e)) (Heap.get?_push_of_some _ e)
  have I : Inv (ncx CX P w K mg base N F f A outer s H E) [] (startF N vs ws) H { s with heap := h₁, toks := s.toks + (ps.zip us).length } := inv_startN S hr.hd e0 hl r C hns kp
  refine ks_wpAt_mono (hbody A outer s _ H vs Q E (hr.deeper _) hsp I) (fun fl s' ⟨u, v, σ', H', eu, J, rv, q⟩ => ?_) fun e s' hs => hs
  subst eu
  exact ⟨v, H', J.os, J.bare, J.base, J.hok, rv, q⟩
end
/-! ### super().__init__(..) -/
/-- what the written part says of a class whose __init__ F, at f, says super() -/
structure SupC (K : PySem.W.Frag) (prog : Program) (C f cc : Addr) (F : NF) (fd : FuncData) : Prop where
  ex : OexC K C
  lkf : ∃ oc od osl, K.lookup f = some ⟨oc, od, .func fd, osl⟩
  lkc : ∃ ccl cdd ccs vs file tf, K.lookup F.c = some ⟨ccl, cdd, .fields vs, ccs⟩ ∧ vs[2]? = some (.str file tf) ∧ ((prog.main.file : Str) == file) = true
  cell : ∃ cl cld csl, K.lookup cc = some ⟨cl, cld, .cell (some (.ref C)), csl⟩
  cls : ∃ cd, PySem.W.clsIn K C = some cd
  hcl : F.cl = [(("__class__" : Str), cc)]
  sub : PySem.W.mroIn K C (.ref C) = some true
  sup : PySem.W.nsIn K mainGlobals "super" = some none
  any : PySem.W.nsIn K cStatics "thirdparty.any" = some none
  init : PySem.W.ks_superIn K C C "__init__" = some (some (.builtin "ValueError.__init__"))
  ve : PySem.W.subIn K (.ref C) (.type "ValueError") = some true
  top : (prog.main.scope.names.lookup ("super" : Str)).isSome = false
  ks : F.scope.names.lookup ("super" : Str) = some .globalImplicit
  kc : F.scope.names.lookup ("__class__" : Str) = some .free
  kn : F.scope.kind = .function
section
variable {X : Cx} {pins : List (Addr × Obj)} {σ : L2.St} {H : Hp} {s : Shared} {C f cc a L : Addr} {F : NF} {fd : FuncData} {x0 : Str}
theorem bound_call {us : List Value} {u : Addr} {Q : Value → Shared → Prop} {E : Value → Shared → Prop} (T : OexC X.K C) (I : Inv X pins σ H s) (e : H a = some (exo a C none)) (hu : s.heap.get? u = some (PySem.W.kxs_mw "ValueError.__init__" a)) (hl : us.length ≤ sizeLine)
    (h : ∀ s', Inv X pins σ H s' → Q .none s') : wpAny (model X.prog X.w) X.A (call (.ref u) us) Q E s := by
  obtain ⟨nm, q, N, bs, bm, sn, sub, ab, col, dd, k0, k1, k2, k3, k5, hC, hbm⟩ := T.cls
  obtain ⟨t1, ho⟩ := exo_at I.hok e
  have kin := I.kIn
  obtain ⟨hp, g, d, t, os⟩ := s
  have FB := PySem.F.excBase_ValueError
  refine wpAny_call (codeAny_of_tree ?_)
  show wpAny _ X.A.in1 (callAny (.ref u) ⟨us, []⟩) _ _ _
  simp only [callAny]
  refine wpAny_bind (wpAny_load hu ?_)
  simp only [PySem.W.kxs_mw, show (Value.type "method-wrapper" == Value.type "method" || Value.type "method-wrapper" == Value.type "builtin_function_or_method" || Value.type "method-wrapper" == Value.type "method-wrapper") = true by decide, if_true]
  refine PySem.W.KFB.if_so (by decide) ?_
  refine wpAny_bind (PySem.W.check_bound_init FB.toExcCallFacts (kin _ _ hC) ho rfl ?_)
  refine wpAny_bind (wpAny_pure (wpAny_pure ?_))
  refine ⟨plainId_quiet FB.init.plain _, codeAny_builtin FB.initEntry ?_⟩
  refine PySem.W.exc_init_tree (cls := .ref C) (t0 := t1) (dv := none) (c2 := .none) (c3 := .none) (b4 := .bool false) ho hl fun h' k hx _ => ?_
  have J := I.write (t' := t) (x := a) (e := a) (o := exo a C none) (by rw [e]; exact True.intro) (.inl rfl) k ⟨_, hx⟩ (exo_ok hx)
  have eu : upd H a (exo a C none) = H := by
    funext b
    by_cases hb : b = a
    · rw [hb, upd_same, e]
    · rw [upd_ne hb]
  rw [eu] at J
  exact h _ J
theorem super_init {body : List Stmt} {es : List Expr} {e : Expr} {ta : TA} {p0 p1 p2 pos : Pos} {ar : Arg} {Q : Value → Shared → Prop} {pl : Sem Bool} (T : SupC X.K X.prog C f cc F fd) (I : Inv X pins σ H s) (henv : X.env = envF F f L) (ea : H a = some (exo a C none))
    (hp : (fd.params.posonlyargs ++ fd.params.args).head? = some ar) (h0 : X.N[0]? = some ar.arg) (hk0 : F.scope.names.lookup ar.arg = some .local) (s0 : σ[0]? = some (some (.ref a)))
    (hm : X.mg "super" = none) (fa : a ≠ C) (hex : X.ex = [])
    (ha : PA X (e :: es) ta)
    (he : eval (.Call (.Attribute (.Call (.Name "super" p0) [] [] p1) "__init__" p2) (e :: es) [] pos) X.env = (do
      let ov ← attributeBase (.Call (.Name "super" p0) [] [] p1) "__init__" X.env (eval (.Call (.Name "super" p0) [] [] p1) X.env)
      standAt p2.atName
      let (f, first) ← holding [ov] (getMethod ov "__init__" pl)
      callWith pos f first (backTo pos (starEach (e :: es) X.env)) []))
    (hst : starEach (e :: es) X.env = (false, eval e X.env) :: starEach es X.env) (hpl : (backTo pos (starEach es X.env)).any (·.1) = false)
    (h : ta σ H fun vs H1 => vs.length ≤ 1000 ∧ H1 a = some (exo a C none) ∧ ∀ s', Inv X pins σ H1 s' → Q .none s') :
    _root_.PySem.wpAt (model X.prog X.w) X.A (.func body X.env) (eval (.Call (.Attribute (.Call (.Name "super" p0) [] [] p1) "__init__" p2) (e :: es) [] pos) X.env) Q X.xe s := by
  have kin := I.kIn
  obtain ⟨oc, od, osl, lkf⟩ := T.lkf
  obtain ⟨ccl, cdd, ccs, vs, file, tf, lkc, hvs, hfile⟩ := T.lkc
  obtain ⟨ocl, cld, csl, lkcell⟩ := T.cell
  obtain ⟨cd, hcd⟩ := T.cls
  have kf : ∀ y, X.env.kindOf y = F.scope.names.lookup y := fun y => by rw [henv]; rfl
  have kd : X.env.scope.kind = .function := I.ok.kind
  refine ks_wpAt_MethodCall ?_ he
  refine ks_wpAt_super_base (f := f) (cc := F.c) ((kf _).trans T.ks) ((kf _).trans T.kc) (by decide) (by rw [henv]) (kin _ _ lkf) rfl hp (by rw [henv]) (kin _ _ lkc) rfl hvs hfile T.top ?_
  obtain ⟨mb, hb1, hb2⟩ := I.mod.blt
  have hgl : s.heap.Ns X.env.globals X.mg := by
    have z := I.mod.glob.keeps I.bk
    rw [← I.ok.glob] at z
    exact z
  have hbl : s.heap.Ns X.env.builtins mb := by
    have z := hb1.keeps I.bk
    rw [← I.ok.blt] at z
    exact z
  refine PySem.W.ks_loadName_global kd ((kf _).trans T.ks) (Calls.loadGlobal_builtin (env := X.env) hgl hm hbl ((hb2 _ (by decide)).trans (show bootBuiltins "super" = some (.type "super") by decide +kernel)) ⟨rfl, ?_⟩)
  refine wpAny_loadName_free kd ((kf _).trans T.kc) (c := cc) (by rw [henv]; show F.cl.lookup _ = _; rw [T.hcl]; rfl) ⟨_, kin _ _ lkcell, rfl⟩ ?_
  obtain ⟨m, hns, hlk⟩ := I.loc
  obtain ⟨u, ru, lk⟩ := hlk 0 ar.arg _ h0 s0 (.inl ((kf _).trans hk0))
  obtain rfl : u = Value.ref a := ru
  have hv : m ar.arg = some (.ref a) := by
    rcases lk with ⟨_, z⟩ | ⟨z, _⟩
    · exact z
    · rw [kf, hk0] at z; rcases z with z | z <;> cases z
  refine wpAny_loadName_local kd ((kf _).trans hk0) hns hv ?_
  obtain ⟨oD, hD1, hD2⟩ : ∃ oD, s.heap.get? C = some oD ∧ oD.data = .cls cd := by
    have hcd2 := hcd
    unfold PySem.W.clsIn at hcd2
    split at hcd2
    · rename_i ho
      cases hcd2
      exact ⟨_, kin _ _ ho, rfl⟩
    · cases hcd2
  refine ks_wpAny_isType_cls hD1 hD2 ⟨rfl, ?_⟩
  obtain ⟨t1, ho⟩ := exo_at I.hok ea
  obtain ⟨hh, g, d, t, os⟩ := s
  refine ks_wpAny_call_super hD1 hD2 ho rfl (fun c z => by cases z) (PySem.W.looks_mroIn kin T.sub) fun h' es' k' => ?_
  have I1 : Inv X pins σ H ⟨h', g, d, t, os⟩ := I.kept (h' := h') (t' := t) k'
  have kin1 := I1.kIn
  have hI : PySem.W.Looks (model X.prog X.w) h' (isInstance (.ref a) (.type "ValueError")) true := by
    obtain ⟨t2, ho2⟩ := exo_at I1.hok ea
    have IA : PySem.W.InstAt h' a _ C none := ⟨ho2, rfl, rfl, trivial⟩
    exact IA.type.andThen (PySem.W.looks_subIn kin1 T.ve)
  have hm2 := T.init
  unfold PySem.W.ks_superIn at hm2
  rw [hcd] at hm2
  refine PySem.W.kxs_getMethod PySem.W.kxs_ValueError es' (PySem.W.looks_opaque kin1 T.any) (l₀ := cd.mro) (fun A Q E s k q => wpAny_bind ((PySem.W.looks_clsIn kin1 hcd) A _ E s k (wpAny_pure q))) rfl kin1 hm2 hI fa (by decide) ?_
  have I2 : Inv X pins σ H ⟨h'.push (PySem.W.kxs_mw "ValueError.__init__" a), g, d, t + 1, os⟩ := I1.kept (h' := h'.push (PySem.W.kxs_mw "ValueError.__init__" a)) (t' := t + 1) fun b o e => Heap.get?_push_of_some _ e
  have hu0 : (h'.push (PySem.W.kxs_mw "ValueError.__init__" a)).get? h'.objs.size = some (PySem.W.kxs_mw "ValueError.__init__" a) := Heap.get?_push_at rfl rfl
  have hul : ∀ b o, h'.get? b = some o → h'.objs.size ≠ b := fun b o e => Nat.ne_of_gt (Heap.lt_size e)
  have I3 : Inv X (pins ++ [(h'.objs.size, PySem.W.kxs_mw "ValueError.__init__" a)]) σ H ⟨h'.push (PySem.W.kxs_mw "ValueError.__init__" a), g, d, t + 1, os⟩ := I2.pins_of fun p hp => by
    rcases List.mem_append.mp hp with z | z
    · exact I2.pin p (List.mem_append_right _ z)
    · rw [List.mem_singleton.mp z]
      refine ⟨hu0, I1.hok.fresh (Nat.le_refl _), ?_, ?_, fun v z => by cases z⟩
      · obtain ⟨m1, hn1, _⟩ := I1.loc
        obtain ⟨oL, es1, ep, hL, _⟩ := hn1
        exact hul _ _ hL
      · intro hz
        have hz2 := (I1.ok.funs.mem hz).2
        obtain ⟨o, ho⟩ : ∃ o, X.s_0.heap.get? h'.objs.size = some o := by
          obtain ⟨o, q, _⟩ := hz2; exact ⟨o, q⟩
        obtain ⟨o2, ho2⟩ := I1.base.there _ _ ho (by rw [hex]; simp)
        exact hul _ _ ho2 rfl
  refine PySem.W.kxs_callWith (i := "ValueError.__init__") (x := a) (by rw [hst]; show (false || (backTo pos (starEach es X.env)).any (·.1)) = false; rw [hpl]; rfl) ?_
  have hev := ha.run pos _ _ σ H _ I3 h
  rw [hst] at hev ⊢
  refine PySem.Calls.evalArgs_plain (thn hev fun us s1 ⟨vs1, H1, J, r1, hl, ea1, q⟩ => ?_)
  have hp1 := J.pin (h'.objs.size, PySem.W.kxs_mw "ValueError.__init__" a) (List.mem_append_right _ (List.mem_append_right _ (List.mem_singleton.mpr rfl)))
  refine ⟨hp1.1, ?_⟩
  have J2 : Inv X pins σ H1 s1 := J.pins_of fun p hp => J.pin p (List.mem_append_right _ (List.mem_append_left _ hp))
  exact bound_call (us := us) T.ex J2 ea1 hp1.1 (by rw [← Paired.length r1, sizeLine_eq]; omega) q
end
end Fb
set_option Elab.async false
set_option linter.all false
set_option maxRecDepth 100000
set_option maxHeartbeats 1000000
/-! Fx2: a try with clauses of every form: one class or a tuple of classes, with a name or without. -/
namespace Fb
open PySem PySem.Spec PyProof.Rows L2
section
variable {M : Model} {A : Around} {E : Value → Shared → Prop} {s : Shared}
theorem forIn_walk {β : Type} {x0 x1 : β} {F : Value → β → Sem (ForInStep β)} (g : Value → Bool) {Q : β → Shared → Prop} : ∀ l : List Value,
    (∀ c ∈ l, ∀ P : ForInStep β → Shared → Prop, P (if g c = true then .done x1 else .yield x0) s → wpAny M A (F c x0) P E s) → Q (if l.any g = true then x1 else x0) s → wpAny M A (forIn l x0 F) Q E s
  | [], _, q => by
    rw [List.forIn_nil]
    exact wpAny_pure q
  | c :: r, h, q => by
    rw [List.forIn_cons]
    refine wpAny_bind (h c List.mem_cons_self _ ?_)
    by_cases hg : g c = true
    · rw [if_pos hg]
      refine wpAny_pure ?_
      rw [List.any_cons, hg, Bool.true_or, if_pos rfl] at q
      exact q
    · rw [if_neg hg]
      refine forIn_walk g r (fun c hc => h c (List.mem_cons_of_mem _ hc)) ?_
      have hg2 : g c = false := by simpa using hg
      rw [List.any_cons, hg2, Bool.false_or] at q
      exact q
end
section
variable {M : Model} {K : PySem.W.Frag}
theorem exmAny_mem {cls : Value} : ∀ {cs : List Value} {b : Bool}, PySem.W.exmAny K cls cs = some b → ∃ g : Value → Bool, (∀ c ∈ cs, PySem.W.exmOne K cls c = some (g c)) ∧ b = cs.any g
  | [], b, h => ⟨fun _ => false, ⟨fun _ z => (nomatch z), by cases h; rfl⟩⟩
  | c :: r, b, h => by
    obtain ⟨b1, d1, x1, y1, z1⟩ := PySem.W.exmAny_cons h
    obtain ⟨g, hg, e⟩ := exmAny_mem y1
    refine ⟨fun c => (PySem.W.exmOne K cls c).getD false, fun c' hc => ?_, ?_⟩
    · rcases List.mem_cons.mp hc with rfl | hc
      · dsimp only; rw [x1]; rfl
      · dsimp only; rw [hg _ hc]; rfl
    · rw [z1, e, List.any_cons]
      rw [x1]
      have : r.any g = r.any fun c => (PySem.W.exmOne K cls c).getD false := by
        clear z1 e y1 h
        induction r with
        | nil => rfl
        | cons d r ih =>
          rw [List.any_cons, List.any_cons, ih (fun c hc => hg c (List.mem_cons_of_mem _ hc)), hg d List.mem_cons_self] <;> rfl
      rw [this]; rfl
theorem exm_tupN {cls : Value} {cs : List Value} {tp e : Addr} {b : Bool} {h : Heap} {its : Array Value} (X : K.In h) (LT : PySem.W.Looks M h (typeOf (.ref e)) cls) (hp : IsTup h tp its) (hi : its.toList = cs) (hx : PySem.W.exmAny K cls cs = some b) :
    PySem.W.Looks M h (excMatches (.ref e) (.ref tp)) b := by
  intro A Q E s k₀ q
  obtain ⟨hh, g, d, tk, os⟩ := s
  have k : ∀ b o, h.get? b = some o → hh.get? b = some o := k₀
  obtain ⟨o, ho, hc, n, hd⟩ := hp
  obtain ⟨gb, hgb, eb⟩ := exmAny_mem hx
  unfold excMatches
  refine wpAny_bind (wpAny_isInstance ⟨o, k _ _ ho, hc⟩ isSubtype_tuple_tuple ?_)
  dsimp only
  rw [if_pos rfl]
  have hl : ∀ c ∈ its.toList, PySem.W.exmOne K cls c = some (gb c) := fun c hc => hgb c (by rw [← hi]; exact hc)
  have tail : wpAny M A (do
      for c in its.toList do
        if !(← isExcClass c) then
          rule "try.except-non-exception-class"
          raiseError "TypeError" "catching classes that do not inherit from BaseException is not allowed"
      let te ← typeOf (.ref e)
      for c in its.toList do
        if ← isSubtype te c then return true
      return false) Q E ⟨hh, g, d, tk, os⟩ := by
    refine wpAny_bind ?_
    refine forIn_walk (x1 := ⟨⟩) (fun _ => false) its.toList (fun c hc P hP => ?_) ?_
    · obtain ⟨e1, _⟩ := PySem.W.exm_cls (M := M) X (hl c hc)
      refine wpAny_bind ((e1.keeps k).at ?_)
      rw [if_neg (show ¬ ((!true) = true) by simp)]
      exact wpAny_pure hP
    · refine wpAny_bind ((LT.keeps k).at ?_)
      refine wpAny_bind ?_
      refine forIn_walk (β := Option Bool × Unit) (x0 := (none, ())) (x1 := (some true, ())) gb its.toList (fun c hc P hP => ?_) ?_
      · obtain ⟨_, e1⟩ := PySem.W.exm_cls (M := M) X (hl c hc)
        refine wpAny_bind ((e1.keeps k).at ?_)
        cases hb : gb c with
        | true => rw [hb] at hP; exact wpAny_pure hP
        | false => rw [hb] at hP; exact wpAny_pure hP
      · rw [hi, ← eb]
        cases b with
        | true => exact wpAny_pure q
        | false => exact wpAny_pure q
  first
    | exact wpAny_bind (wpAny_seqItems (k _ _ ho) hd tail)
    | exact wpAny_bind (wpAny_bind (wpAny_seqItems (k _ _ ho) hd (wpAny_pure tail)))
end
/-! ### the clauses -/
/-- a clause: the classes named, the slot of its name, its suite's reading -/
structure HM where
  cs : List Value
  nm : Option Nat
  ts : Addr → Value → Option Addr → TS
def endsX (D : Ends) : Option Nat → Ends
  | none => D
  | some i => { nx := fun σ' H' => D.nx (σ'.set i none) H', rt := D.rt, bk := fun σ' H' => D.bk (σ'.set i none) H', ct := fun σ' H' => D.ct (σ'.set i none) H' }
def slotX (σ : L2.St) (a : Addr) : Option Nat → L2.St
  | none => σ
  | some i => σ.set i (some (.ref a))
def wMix (K : PySem.W.Frag) (Wout : WX) (D : Ends) : List HM → WX
  | [] => Wout
  | h :: r => fun cls d σ H => ∃ b, PySem.W.exmAny K cls h.cs = some b ∧ (b = true → ∀ a, H a = none → h.ts a cls d (endsX D h.nm) (slotX σ a h.nm) H) ∧ (b = false → wMix K Wout D r cls d σ H)
/-- own classes, by their names -/
def tyEs : List (Str × Pos) → List Expr
  | [] => []
  | (x, p) :: r => .Name x p :: tyEs r
def CNames (X : Cx) : List (Str × Pos) → List Value → Prop
  | [], [] => True
  | (x, _) :: r, c :: cs => Gl X x ∧ (x == ("__debug__" : Str)) = false ∧ X.mg x = some c ∧ CNames X r cs
  | _, _ => False
/-- the clause's test -/
inductive HTest (X : Cx) : Expr → List Value → Prop
  | one {x : Str} {np : Pos} {c : Value} (h : CNames X [(x, np)] [c]) : HTest X (.Name x np) [c]
  | tup {xs : List (Str × Pos)} {cs : List Value} {k : Nat} {p : Pos} (h : CNames X xs cs) (hl : cs.length ≤ 100) : HTest X (.Tuple (tyEs xs) k p) cs
/-- a clause's name -/
def NmOk (X : Cx) : Option Str → Option Nat → Prop
  | none, none => True
  | some n, some i => X.N[i]? = some n ∧ X.env.kindOf n = some .local
  | _, _ => False
inductive HdX (X : Cx) : List ExceptHandler → List HM → Prop
  | nil : HdX X [] []
  | cons {te : Expr} {n : Option Str} {h : HM} {b₀ : Stmt} {suite : List Stmt} {pos' : Pos} {hds : List ExceptHandler} {l : List HM} (hc : HTest X te h.cs) (hn : NmOk X n h.nm)
      (hsu : ∀ (a : Addr) (oe : Obj) (cls : Value) (d : Option Addr) (pn : List (Addr × Obj)), Zc cls d oe → (∃ vs, oe.data = .fields vs) → PSs (X.suite a ((a, oe) :: pn)) (b₀ :: suite) (h.ts a cls d)) (r : HdX X hds l) :
      HdX X (.ExceptHandler (some te) n (b₀ :: suite) pos' :: hds) (h :: l)
theorem flyingZ_ext {B h h' : Heap} {l : List Env} {a : Addr} {Z : Obj → Prop} (f : HandSPX.FlyingZ B l a Z h) (k : ∀ b o, h.get? b = some o → h'.get? b = some o) : HandSPX.FlyingZ B l a Z h' := by
  obtain ⟨k1, k2, k3, oe, vs, T, oT, ts, h1, h2, h3, h4, h5, h6, h7, h8, h9⟩ := f
  exact ⟨fun b o e => k b o (k1 b o e), k2, k3.of_keeps fun b o e _ => ⟨o, k _ _ e, rfl⟩, oe, vs, T, oT, ts, k _ _ h1, h2, h3, h4, h5, h6, k _ _ h7, h8, h9⟩
section
variable {X : Cx} {body : List Stmt} {h₀ : ExceptHandler} {hds : List ExceptHandler} {l : List HM} {pos : Pos} {tb : WX → TS} {Wout : WX}
theorem names_eval {a : Addr} {pn : List (Addr × Obj)} {σ : L2.St} {H : Hp} {s : Shared} {E : Value → Shared → Prop} {pos : Pos} (S : Inv (X.suite a pn) [] σ H s) : ∀ {xs : List (Str × Pos)} {cs : List Value} {Q : List Value → Shared → Prop}, CNames X xs cs → Q cs s →
    wpAny (model X.prog X.w) (X.A.mark (some (.ref a))) (spliced (backTo pos (starEach (tyEs xs) X.env))) Q E s
  | [], [], Q, _, q => spliced_none q
  | (x, p) :: r, c :: cs, Q, h, q => by
    obtain ⟨h1, h2, h3, h4⟩ := h
    exact spliced_more (ld_glob (X := X.suite a pn) S h1 h3 (names_eval S h4 q) h2)
  | [], _ :: _, _, h, _ => False.elim h
  | _ :: _, [], _, h, _ => False.elim h
theorem htest {te : Expr} {cs : List Value} {a : Addr} {oe : Obj} {pn : List (Addr × Obj)} {σ : L2.St} {H : Hp} {s : Shared} {cls : Value} {b : Bool} {Q : Bool → Shared → Prop} {E E2 : Value → Shared → Prop} (S : Inv (X.suite a ((a, oe) :: pn)) [] σ H s) (kin : X.K.In s.heap) (he : s.heap.get? a = some oe) (hcl : oe.cls = cls)
    (ht : HTest X te cs) (hx : PySem.W.exmAny X.K cls cs = some b) (q : ∀ s2 : Shared, (∀ b o, s.heap.get? b = some o → s2.heap.get? b = some o) → s2.os = s.os → s2.gens = s.gens → Q b s2) :
    wpAny (model X.prog X.w) (X.A.mark (some (.ref a))) (eval te X.env) (fun c s1 => wpAny (model X.prog X.w) (X.A.mark (some (.ref a))) (excMatches (.ref a) c) Q E2 s1) E s := by
  obtain ⟨hh, g, dr, tk, os⟩ := s
  have LT : ∀ h2 : Heap, (∀ b o, hh.get? b = some o → h2.get? b = some o) → PySem.W.Looks (model X.prog X.w) h2 (typeOf (.ref a)) cls := fun h2 k2 A Q E s k q => wpAny_typeOf_ref (k _ _ (k2 _ _ he)) (by rw [hcl]; exact q)
  cases ht with
  | @one x np c h =>
    obtain ⟨h1, h2, h3, _⟩ := h
    have hx1 : PySem.W.exmOne X.K cls c = some b := by
      obtain ⟨b1, d1, x1, y1, z1⟩ := PySem.W.exmAny_cons hx
      cases y1
      rw [x1, z1, Bool.or_false]
    exact ld_glob (X := X.suite a ((a, oe) :: pn)) S h1 h3 ((PySem.W.exm_one kin (LT hh fun _ _ e => e) hx1).at (q _ (fun _ _ e => e) rfl rfl)) h2
  | @tup xs cs k p h hl =>
    refine Tuple_ (names_eval S h ?_)
    have hz : cs.toArray.size ≤ sizeLine := by rw [List.size_toArray, sizeLine_eq]; omega
    unfold newTuple
    have k2 : ∀ b o, hh.get? b = some o → (hh.push { cls := .type "tuple", data := .seq cs.toArray }).get? b = some o := fun b o e => Heap.get?_push_of_some _ e
    refine wpAny_newObj_type ?_ hz
    exact (exm_tupN (M := model X.prog X.w) (fun b o e => k2 _ _ (kin b o e)) (LT _ k2) (IsTup.new hh cs.toArray) (by simp) hx).at (q _ k2 rfl rfl)
theorem ps_try_mix (hs : X.stack = X.env :: X.outer) (hf : X.env.frame = some X.env.locals) (hN : X.N.Nodup) (tk : Takes X Wout)
    (hb : ∀ (W : WX) (pn : List (Addr × Obj)) (xe : Value → Shared → Prop), Takes (X.tr pn xe) W → PassesOwn (model X.prog X.w) X.A X.env xe → PSs (X.tr pn xe) body (tb W))
    (hh : HdX X (h₀ :: hds) l) : PS X (.Try body (h₀ :: hds) [] [] pos) (fun D σ H => tb (fun cls d σ H => σ.length = X.N.length → wMix X.K Wout D l cls d σ H) D σ H) := by
  refine ⟨fun pins s σ H D I h => ?_⟩
  have ok := I.ok
  have hfr : X.A.frames = some (X.env :: X.outer) := by rw [ok.frames, hs]
  refine wpAny_Try_except ?_
  refine wpAny_mono ((hb (fun cls d σ H => σ.length = X.N.length → wMix X.K Wout D l cls d σ H) (X.pn ++ pins) (fun e s₁ => wpAny (model X.prog X.w) X.A (noteFrame e X.env) (fun _ s₂ => wpAny (model X.prog X.w) X.A (setFlight e none) (fun _ s₃ =>
    wpAny (model X.prog X.w) X.A (handleBy e X.env (h₀ :: hds)) (SP X pins D) X.xe s₃) X.xe s₂) X.xe s₁) (fun u s' xx => ?_) PassesOwn.looking).run [] s σ H D (I.toTry _) h) (fun f s1 hsp => ?_) (fun e s1 he => he)
  · -- the catch
    obtain ⟨a, B, sI, pins', σ', H', cls, d, rfl, J', nb, up, sky, na, os, ag, w⟩ := xx
    have J : Inv X pins σ' H' sI := J'.ofTry ok
    have sky' : Sky B (X.env :: X.outer) a (Zc cls d) X.env.locals s'.heap := by rw [← hs]; exact sky
    show wpAny (model X.prog X.w) X.A (noteFrame (.ref a) X.env) _ _ _
    refine Sky.land Zc.steady hfr hf sky' fun h3 fl3 up3 => ?_
    have notFr : ∀ {h : Heap} {o : Obj} {vs : Array Value}, h.FunFrames B (X.env :: X.outer) → h.get? a = some o → o.data = .fields vs → a ∉ frs (X.env :: X.outer) := fun {h o vs} ff e dd hm => by
      obtain ⟨_, o', e', hnf⟩ := ff.mem hm
      rw [e] at e'; cases e'
      exact hnf _ dd
    have go : ∀ {hds' : List ExceptHandler} {l' : List HM}, HdX X hds' l' → wMix X.K Wout D l' cls d σ' H' → ∀ sx : Shared, HandSPX.FlyingZ B (X.env :: X.outer) a (Zc cls d) sx.heap → sI.heap.UpToSlots sx.heap → sx.os = sI.os → AllBare sx.gens →
        wpAny (model X.prog X.w) X.A (handleBy (.ref a) X.env hds') (SP X pins D) X.xe sx := by
      intro hds' l' hk
      induction hk with
      | nil =>
        intro w sx fl3 upx osx agx
        refine wpAny_handleBy_nil ?_
        obtain ⟨k1, k2, k3, oe, vs, T, oT, ts', he, hz, hd, h1, hr⟩ := id fl3
        unfold PySem.passOn
        refine wpAny_bind (wpAny_field he hd h1 ?_)
        rw [if_neg (show ¬ ((Value.ref T == Value.none) = true) from by simp)]
        have fin : wpAny (model X.prog X.w) X.A (setFlight (.ref a) X.env.frame) (fun _ s4 => wpAny (model X.prog X.w) X.A (throw (.ref a) : Sem Flow) (SP X pins D) X.xe s4) X.xe sx := by
          rw [hf]
          refine HandSPX.setFlight_upZ fl3 fun h4 hh4 up4 => wpAny_throw (tk _ _ ?_)
          exact ⟨a, B, sI, pins, σ', H', cls, d, rfl, J, nb, upx.trans up4, .inr (.inr (by rw [hs]; exact hh4)), na, osx, agx, w⟩
        first
          | exact wpAny_bind (wpAny_pure (wpAny_bind fin))
          | exact wpAny_bind fin
      | @cons te n hm b₀ suite pos' hds2 l2 hc hn hsu r ih =>
        intro w sx fl3 upx osx agx
        obtain ⟨b, hb1, hyes, hno⟩ := w
        have J3 : Inv X pins σ' H' sx := J.landed nb fl3.1 upx osx agx
        obtain ⟨oe3, vs3, he3, hz3, hd3⟩ := fl3.there
        have nfr := notFr fl3.2.2.1 he3 hd3
        have nL : a ≠ X.env.locals := fun z => nfr (List.mem_filterMap.mpr ⟨X.env, List.mem_cons_self, by rw [hf, z]⟩)
        have nF : a ∉ X.fs := fun hm => by
          obtain ⟨e, he, q⟩ := List.mem_filterMap.mp hm
          exact nfr (List.mem_filterMap.mpr ⟨e, List.mem_cons_of_mem _ he, q⟩)
        have S3 := J3.suite he3 hd3 na nL nF
        refine wpAny_handleBy_cons (codeAny_handlers_test ?_) (by intro q; cases q)
        refine htest (cs := hm.cs) (cls := cls) S3 J3.kIn he3 hz3.1 hc hb1 fun s4 k4 os4 g4 => ?_
        have fl4 := flyingZ_ext fl3 k4
        have up4 : sI.heap.UpToSlots s4.heap := upx.trans fun b o e _ => ⟨o.slots, by rw [k4 _ _ e]⟩
        have ag4 : AllBare s4.gens := by rw [g4]; exact agx
        cases b with
        | false =>
          show wpAny _ X.A (handleBy (.ref a) X.env hds2) _ _ _
          exact ih (hno rfl) s4 fl4 up4 (os4.trans osx) ag4
        | true =>
          have hn0 := hn
          have hy := hyes rfl a na
          have last : ∀ (s5 : Shared) (oe5 : Obj), Zc cls d oe5 → (∃ vs, oe5.data = .fields vs) → Inv (X.suite a ((a, oe5) :: (X.pn ++ pins))) [] (slotX σ' a hm.nm) H' s5 → wpAny (model X.prog X.w) (X.A.mark (some (.ref a))) (execs (b₀ :: suite) X.env) (fun f s6 => SP (X.suite a ((a, oe5) :: (X.pn ++ pins))) [] (endsX D hm.nm) f s6) (fun _ _ => False) s5 := fun s5 oe5 z5 d5 S5 =>
            (hsu a oe5 cls d (X.pn ++ pins) z5 d5).run [] s5 _ H' _ S5 hy
          cases n with
          | none =>
            cases hnm : hm.nm with
            | some i => rw [hnm] at hn; exact False.elim hn
            | none =>
              rw [hnm] at last
              refine codeAny_handlers_suite ?_
              refine HandSPX.lands_againZ fl4 fun h5 fl5 up5 => ?_
              have J5 : Inv X pins σ' H' { s4 with heap := h5 } := J.landed nb fl5.1 (up4.trans up5) (os4.trans osx) ag4
              obtain ⟨oe5, vs5, he5, hz5, hd5⟩ := fl5.there
              refine wpAny_mono (last _ oe5 hz5 ⟨_, hd5⟩ (J5.suite he5 hd5 na nL nF)) (fun f s6 hsp => ?_) (fun _ _ z => False.elim z)
              cases f with
              | next =>
                obtain ⟨σ6, H6, S6, q6⟩ := hsp
                exact ⟨_, _, S6.unsuite ok, q6⟩
              | brk =>
                obtain ⟨σ6, H6, S6, q6⟩ := hsp
                exact ⟨_, _, S6.unsuite ok, q6⟩
              | cont =>
                obtain ⟨σ6, H6, S6, q6⟩ := hsp
                exact ⟨_, _, S6.unsuite ok, q6⟩
              | ret u =>
                obtain ⟨v6, σ6, H6, S6, r6, q6⟩ := hsp
                exact ⟨_, _, _, S6.unsuite ok, r6, q6⟩
          | some n =>
            cases hnm : hm.nm with
            | none => rw [hnm] at hn; exact False.elim hn
            | some i =>
              rw [hnm] at hn last
              obtain ⟨hi, hln⟩ := hn
              have hloc : Loc X.env.scope n := .inl hln
              refine codeAny_handlers_suite_as ?_
              refine HandSPX.lands_againZ fl4 fun h5 fl5 up5 => ?_
              have J5 : Inv X pins σ' H' { s4 with heap := h5 } := J.landed nb fl5.1 (up4.trans up5) (os4.trans osx) ag4
              obtain ⟨oe5, vs5, he5, hz5, hd5⟩ := fl5.there
              have S5 := J5.suite he5 hd5 na nL nF
              refine store_ok (X := X.suite a ((a, oe5) :: (X.pn ++ pins))) (v := .ref a) S5 hN hi hloc rfl (fun s5 S5' => ?_) (.inr hln)
              refine wpAny_mono (last s5 oe5 hz5 ⟨_, hd5⟩ S5') (fun f s6 hsp => ?_) (fun _ _ z => False.elim z)
              have end_ : ∀ {σ6 : L2.St} {H6 : Hp} {Q : Shared → Prop}, Inv (X.suite a ((a, oe5) :: (X.pn ++ pins))) [] σ6 H6 s6 → (∀ s7, Inv X pins (σ6.set i none) H6 s7 → Q s7) →
                  wpAny (model X.prog X.w) X.A (do bindName X.env n .none; unbindBehindTheSuite X.env n pos') (fun _ s7 => Q s7) X.xe s6 := fun {σ6 H6 Q} S6 hq => gone_ok (S6.unsuite ok) hN hi hln hq
              cases f with
              | next =>
                obtain ⟨σ6, H6, S6, q6⟩ := hsp
                exact end_ S6 fun s7 J7 => ⟨_, _, J7, q6⟩
              | brk =>
                obtain ⟨σ6, H6, S6, q6⟩ := hsp
                exact end_ S6 fun s7 J7 => ⟨_, _, J7, q6⟩
              | cont =>
                obtain ⟨σ6, H6, S6, q6⟩ := hsp
                exact end_ S6 fun s7 J7 => ⟨_, _, J7, q6⟩
              | ret u =>
                obtain ⟨v6, σ6, H6, S6, r6, q6⟩ := hsp
                exact end_ S6 fun s7 J7 => ⟨_, _, _, J7, r6, q6⟩
    exact go hh (w J.len) { s' with heap := h3 } fl3 (up.trans up3) os ag
  · cases f with
    | next =>
      obtain ⟨σ', H', J', q⟩ := hsp
      exact wpAny_execs_nil ⟨σ', H', J'.ofTry ok, q⟩
    | brk =>
      obtain ⟨σ', H', J', q⟩ := hsp
      exact ⟨σ', H', J'.ofTry ok, q⟩
    | cont =>
      obtain ⟨σ', H', J', q⟩ := hsp
      exact ⟨σ', H', J'.ofTry ok, q⟩
    | ret u =>
      obtain ⟨v, σ', H', J', r, q⟩ := hsp
      exact ⟨v, σ', H', J'.ofTry ok, r, q⟩
end
end Fb
set_option Elab.async false
set_option linter.all false
set_option maxRecDepth 100000
set_option maxHeartbeats 1000000
/-! Fx5: enumerate(tuple). -/
namespace PySem
open Sem (wp)
open AutoSeq1 (wpAny_loadPart')
theorem meets_enumerate_newT (l : Addr) (items : Array Value) (n : Nat) (dct : Option Addr) (sl : Array (Option Value)) :
    Meets (Builtin.«enumerate.__new__» ⟨[.type "enumerate", .ref l], []⟩) (fun _ R s => s.heap.get? l = some { cls := .type "tuple", dict := dct, data := .seq items n, slots := sl } ∧
      R (.ok (.ret (.ref (s.heap.push { cls := .type "tuple_iterator", data := .fields #[.ref l, .int 0 0] }).objs.size)))
        { s with heap := (s.heap.push { cls := .type "tuple_iterator", data := .fields #[.ref l, .int 0 0] }).push { cls := .type "enumerate", data := .fields #[.none, .bool false, .ref s.heap.objs.size, rawInt 0, .none, .none] } }) :=
  .of_wp fun prog w A R s h => by
    obtain ⟨hp, g, d, tk, os⟩ := s; obtain ⟨hl, h⟩ := h
    have hsub := sub_enumerate
    have hL : Heap.IsTuple (Shared.heap ⟨hp, g, d, tk, os⟩) l items := ⟨_, hl, rfl, n, rfl⟩
    wp_walk using wpAny_loadPart' hl
    refine wpAny_stack_any fun st => wpAny_pure ?_
    split
    · rename_i c _ _ _ _ _
      cases (c == Value.type "enumerate")
      · wp_walk using wpAny_loadPart' hl, wpAny_pyIter_tuple hL
        exact ⟨_, rfl, h⟩
      · wp_walk using wpAny_loadPart' hl, wpAny_pyIter_tuple hL
        exact ⟨_, rfl, h⟩
    · wp_walk using wpAny_loadPart' hl, wpAny_pyIter_tuple hL
      exact ⟨_, rfl, h⟩
section
variable {prog : Program} {w : World} {A : Around} {E : Value → Shared → Prop} {s : Shared}
theorem call_enumerate_tuple {l : Addr} {items : Array Value} {Q : Value → Shared → Prop} (hL : s.heap.IsTuple l items)
    (h : ∀ h', IsEnum h' (s.heap.objs.size + 1) s.heap.objs.size 0 .none → h'.IsTupleIter s.heap.objs.size l 0 → h'.objs.size = s.heap.objs.size + 2 →
      (∀ b o, s.heap.get? b = some o → h'.get? b = some o) → Q (.ref (s.heap.objs.size + 1)) { s with heap := h' }) :
    wpAny (model prog w) A (call (.type "enumerate") [.ref l]) Q E s := by
  obtain ⟨⟨c, dct, dt, sl⟩, hl, hc, n, hd⟩ := hL
  replace hc : c = .type "tuple" := hc
  replace hd : dt = .seq items n := hd
  subst hc hd
  refine callType_new F.called_enumerate (by decide) (F.typeCall_enumerate_1 _) (F.newCall_enumerate_1 _) (fun obj => F.args_object_init_2 obj _) F.entry_enumerate_new
    (meets_enumerate_newT l items n dct sl) ⟨hl, ?_⟩
  have hz : (s.heap.push { cls := .type "tuple_iterator", data := .fields #[.ref l, .int 0 0] }).objs.size = s.heap.objs.size + 1 := Heap.size_push ..
  show _ ∧ _
  rw [hz]
  have he : IsEnum ((s.heap.push { cls := .type "tuple_iterator", data := .fields #[.ref l, .int 0 0] }).push
      { cls := .type "enumerate", data := .fields #[.none, .bool false, .ref s.heap.objs.size, rawInt 0, .none, .none] }) (s.heap.objs.size + 1) s.heap.objs.size 0 .none := by
    have := Heap.get?_push_size (s.heap.push { cls := .type "tuple_iterator", data := .fields #[.ref l, .int 0 0] })
      (o := { cls := .type "enumerate", data := .fields #[.none, .bool false, .ref s.heap.objs.size, rawInt 0, .none, .none] }) rfl
    rw [hz] at this; exact this
  refine ⟨⟨_, he, rfl⟩, h _ he ⟨_, Heap.get?_push_of_some _ (Heap.get?_push_size _ rfl), rfl, rfl⟩ (by rw [Heap.size_push, hz]) fun b o x => Heap.get?_push_of_some _ (Heap.get?_push_of_some _ x)⟩
end
end PySem
namespace Fb
open PySem PySem.Spec PyProof.Rows L2 RZ
/-- the tuple at a as it stands at each turn, each item in a new pair -/
def IteT (K : PySem.W.Frag) (a : Addr) : It :=
  ⟨fun i H => ∃ (xs : List V) (x : V), SqT K H a xs ∧ xs[i]? = some x, fun i H v H' => ∃ T x, v = .ref T ∧ H T = none ∧ H' = upd H T (.tup [.int (i : Nat), x]) ∧ ∀ xs, SqT K H a xs → xs[i]? = some x, fun i H => ∃ xs : List V, SqT K H a xs ∧ xs.length ≤ i⟩
theorem turn_enumT {P : Program} {w : World} {K : PySem.W.Frag} {elts : List Expr} {kk : Nat} {tpos : Pos} (a e it : Addr) :
    Turn P w K (.Tuple elts kk tpos) (IteT K a) [e, it] e (fun i h => (∃ old, IsEnum h e it ((i : Nat) : Int) old) ∧ h.IsTupleIter it a i ∧ e ≠ it) where
  mem := by simp
  obj := fun i h st b hb => by
    obtain ⟨⟨old, he⟩, ⟨o, ho, hc, hd⟩, _⟩ := st
    have e' : b = e ∨ b = it := by simpa using hb
    rcases e' with z | z
    · rw [z]; exact ⟨_, he, fun v q => nomatch q⟩
    · rw [z]; exact ⟨o, ho, fun v q => by rw [hd] at q; cases q⟩
  keep := fun i h h' st k => let ⟨⟨old, he⟩, hi, hne⟩ := st; ⟨⟨old, k e (by simp) _ he⟩, hi.at fun o q => k it (by simp) o q, hne⟩
  item := by
    intro X hP hw hK hc i pins s σ H E I hf st hg
    subst hP hw hK
    obtain ⟨⟨old, he⟩, hit, hne⟩ := st
    obtain ⟨xs, x, hq, hx⟩ := hg
    obtain ⟨its, rv, p, hz⟩ := I.tuple hq
    obtain ⟨u, hu, ru⟩ := rv.get hx
    have hp : s.heap.IsTuple a its.toArray := p
    have hel : e < s.heap.objs.size := Heap.lt_size he
    have hil : it < s.heap.objs.size := by obtain ⟨_, q, _⟩ := hit; exact Heap.lt_size q
    have hia : a ≠ it := fun z => by
      obtain ⟨o, ho, hc, _⟩ := hit
      obtain ⟨o2, ho2, hc2, _⟩ := hp
      rw [z, ho] at ho2
      cases ho2
      rw [hc] at hc2
      injection hc2 with hc3
      exact absurd hc3 (by decide)
    have hea : e ≠ a := fun z => by
      obtain ⟨o2, ho2, hc2, _⟩ := hp
      rw [← z, show s.heap.get? e = _ from he] at ho2
      cases ho2
      injection hc2 with hc3
      exact absurd hc3 (by decide)
    have hlt : i < its.toArray.size := by
      have := (List.getElem?_eq_some_iff.mp hu).1
      simpa using this
    refine wpAny_pyNext_enum_itemD (Draws.tuple (A := X.A.in1) (show X.A.in1.handled = none from I.ok.hd hc) it a hia its.toArray) he ⟨hit, hp⟩ hlt hne (by simp [hne, hea]) fun u' h' tk hP ho hit' hT hsz hk => ?_
    have hu' : u' = u := by
      have hP : its.toArray[i]? = some u' := hP
      have : its[i]? = some u' := by simpa using hP
      rw [hu] at this; cases this; rfl
    subst hu'
    refine ⟨_, rfl, wpAny_letOwnedTupleGo_enum (s := { s with heap := h', toks := tk + 1 }) ho fun h'' he' sb => ?_⟩
    have hT2 : h''.get? s.heap.objs.size = some { cls := .type "tuple", data := .seq #[.int i tk, u'] } := (sb.2 _ (Nat.ne_of_gt hel)).trans hT
    have new : ObjOk X.prog X.w (upd H s.heap.objs.size (.tup [.int (i : Nat), x])) h'' s.heap.objs.size (.tup [.int (i : Nat), x]) :=
      ⟨by show 2 ≤ sizeLine; decide, [.int i tk, u'], .cons ⟨_, rfl⟩ (.cons ru .nil), ⟨_, hT2, rfl, _, rfl⟩⟩
    have I1 : Inv X pins σ (upd H s.heap.objs.size (.tup [.int (i : Nat), x])) { s with heap := h'', toks := tk + 1 } :=
      I.turnedNew (ch := [e, it]) (fun b ob hb q => (sb.2 b (fun z => hb (by simp [z]))).trans (hk b ob (fun z => hb (by simp [z])) (fun z => hb (by simp [z])) q)) hf (Nat.le_refl _) new
    refine ⟨.ref s.heap.objs.size, _, I1, rfl, ⟨_, x, rfl, I.hok.fresh (Nat.le_refl _), rfl, fun ys hy => by rw [I.tuple_inj hy hq]; exact hx⟩, ⟨⟨u', ?_⟩, hit'.1.at fun o q => (sb.2 it (Ne.symm hne)).trans q, hne⟩, fun b hb => ?_⟩
    · have e1 : ((i + 1 : Nat) : Int) = (i : Int) + 1 := by omega
      rw [e1]; exact he'
    · have hb' : b < s.heap.objs.size := by
        have e' : b = e ∨ b = it := by simpa using hb
        rcases e' with z | z
        · rw [z]; exact hel
        · rw [z]; exact hil
      rw [upd_ne (Nat.ne_of_lt hb')]
      exact (hf b hb).1
  done := by
    intro X hP hw hK hc i pins s σ H E I hf st hg
    subst hP hw hK
    obtain ⟨⟨old, he⟩, hit, hne⟩ := st
    obtain ⟨xs, hq, hx⟩ := hg
    obtain ⟨its, rv, p, hz⟩ := I.tuple hq
    obtain ⟨f0, f1, f2, f3, f4, f5⟩ := hf it (by simp)
    have hl := rv.length
    have hp : s.heap.IsTuple a its.toArray := p
    have hia : a ≠ it := fun z => by
      obtain ⟨o, ho, hc, _⟩ := hit
      obtain ⟨o2, ho2, hc2, _⟩ := hp
      rw [z, ho] at ho2
      cases ho2
      rw [hc] at hc2
      injection hc2 with hc3
      exact absurd hc3 (by decide)
    have hT : s.TypeIs (.ref e) "enumerate" := ⟨_, he, rfl⟩
    unfold pyNext
    refine wpAny_bind (wpAny_attempt (wpAny_callSpecial?_slot (name := Str.ofString "__next__") hT F.slot_enumerate_next
      (wpAny_call_entry F.slot_enumerate_next hT F.entry_enumerate_next ?_ (F.args_enumerate_next_1 _))))
    show wpAny _ _ (field (.ref e) 2 >>= _) _ _ _
    refine wpAny_bind (wpAny_field he rfl (x := .ref it) rfl ?_)
    refine wpAny_bind (wpAny_nextOf_tuple_end (I.ok.hd hc) hit hp (by simp; omega) fun h' x he' hx' => ?_)
    obtain ⟨o, ho, hc'⟩ := hx'
    refine wpAny_bind (wpAny_isInstance (T := "StopIteration") (b := true) ⟨o, ho, hc'⟩ isSubtype_stop ?_)
    exact wpAny_pure ⟨rfl, I.turned (t' := s.toks) (fun b o hb q => he' b o hb q) f0 f1 f3 f4 f5⟩
  self := fun A i s Q E st h => let ⟨⟨_, he⟩, _⟩ := st; wpAny_pyIter_enum he h
def iEnum2 (K : PySem.W.Frag) (ta : TA) : TI := fun σ H R => ta σ H fun vs H1 => ∃ a xs, vs = [.ref a] ∧ ((SqL K H1 a xs ∧ R (Ite K a) H1) ∨ (SqT K H1 a xs ∧ R (IteT K a) H1))
theorem pi_enum2 {X : Cx} {e : Expr} {ta : TA} {p pos tpos : Pos} {elts : List Expr} {kk : Nat} (hg : Gl X "enumerate") (hm : X.mg "enumerate" = none) (ha : PA X [e] ta) (hs : starEach [e] X.env = [(false, eval e X.env)] := by rfl) :
    PI X (.Tuple elts kk tpos) (.Call (.Name "enumerate" p) [e] [] pos) (iEnum2 X.K ta) := by
  refine ⟨fun pins s σ H R I h => ?_⟩
  refine Call_ (ld_blt I hg hm boot_enumerate (PyProof.Rows.callWith_type1 (thn (ha.run pos pins s σ H _ I h) fun us s1 ⟨vs, H1, I1, r1, q1⟩ => ?_) hs rfl))
  obtain ⟨a, xs, ex, hq⟩ := q1
  subst ex
  cases r1 with
  | cons r rr =>
    cases rr
    cases r
    rcases hq with ⟨hq, q⟩ | ⟨hq, q⟩
    · obtain ⟨its, rv, p', hz⟩ := I1.list hq
      refine call_enumerate_list p'.isList fun h' he hit hsz hk => wpAny_pyIter_enum he ?_
      have I2 : Inv X pins σ H1 { s1 with heap := h' } := I1.kept (t' := s1.toks) hk
      refine ⟨s1.heap.objs.size + 1, [s1.heap.objs.size + 1, s1.heap.objs.size], _, _, H1, rfl, I2, turn_enum a (s1.heap.objs.size + 1) s1.heap.objs.size, ⟨⟨.none, he⟩, hit, Nat.succ_ne_self _⟩, fun b hb => ?_, q⟩
      have e' : b = s1.heap.objs.size + 1 ∨ b = s1.heap.objs.size := by simpa using hb
      have hle : s1.heap.objs.size ≤ b := by
        rcases e' with z | z
        · rw [z]; exact Nat.le_add_right _ _
        · rw [z]; exact Nat.le_refl _
      exact I1.fpOk hle (I1.hok.fresh hle)
    · obtain ⟨its, rv, p', hz⟩ := I1.tuple hq
      refine call_enumerate_tuple (items := its.toArray) p' fun h' he hit hsz hk => wpAny_pyIter_enum he ?_
      have I2 : Inv X pins σ H1 { s1 with heap := h' } := I1.kept (t' := s1.toks) hk
      refine ⟨s1.heap.objs.size + 1, [s1.heap.objs.size + 1, s1.heap.objs.size], _, _, H1, rfl, I2, turn_enumT a (s1.heap.objs.size + 1) s1.heap.objs.size, ⟨⟨.none, he⟩, hit, Nat.succ_ne_self _⟩, fun b hb => ?_, q⟩
      have e' : b = s1.heap.objs.size + 1 ∨ b = s1.heap.objs.size := by simpa using hb
      have hle : s1.heap.objs.size ≤ b := by
        rcases e' with z | z
        · rw [z]; exact Nat.le_add_right _ _
        · rw [z]; exact Nat.le_refl _
      exact I1.fpOk hle (I1.hok.fresh hle)
end Fb
set_option Elab.async false
set_option linter.all false
set_option maxRecDepth 100000
set_option maxHeartbeats 1000000
/-! Fx6: x[::-1] of lists and tuples. -/
namespace Fb
open PySem PySem.Spec PyProof.Rows L2 HT
section
variable {prog : Program} {w : World} {A : Around} {E : Value → Shared → Prop} {s : Shared}
theorem sliceApplied_rev {sl : Addr} {vl vu vs : Value} {n : Nat} {Q : Int × Int × Nat → Shared → Prop} (hs : s.heap.IsSliceOf sl vl vu vs) (pl : IsPart vl none) (pu : IsPart vu none) (ps : IsPart vs (some (-1)))
    (h : Q ((n : Int) - 1, -1, n) s) : wpAny (model prog w) A (Builtin.Slice.sliceApplied (.ref sl) (pure (n : Int))) Q E s := by
  obtain ⟨os, hos, hcs, hds⟩ := id hs
  unfold Builtin.Slice.sliceApplied Builtin.Slice.sliceFields
  refine wpAny_bind (wpAny_bind (wpAny_field hos hds (x := vl) rfl (wpAny_bind (wpAny_field hos hds (x := vu) rfl (wpAny_bind (wpAny_field hos hds (x := vs) rfl (wpAny_pure ?_)))))))
  refine wpAny_bind (slicePart_ ps ?_)
  show wpAny _ _ (if ((-1 : Int) == 0) = true then _ else _) _ _ s
  rw [if_neg (by decide)]
  refine wpAny_bind (slicePart_ pl (wpAny_bind (slicePart_ pu (wpAny_bind (wpAny_pure ?_)))))
  show wpAny _ _ (pure ((n : Int) - 1, (-1 : Int), Builtin.Slice.slicePlaces ((n : Int) - 1) (-1) (-1))) _ _ s
  have e : Builtin.Slice.slicePlaces ((n : Int) - 1) (-1) (-1) = n := by
    unfold Builtin.Slice.slicePlaces
    rw [if_neg (by omega)]
    by_cases z : (n : Int) - 1 > -1
    · rw [if_pos z]
      show (((n : Int) - 1 - -1 - 1) / 1 + 1).toNat = n
      rw [Int.ediv_one]; omega
    · rw [if_neg z]; omega
  rw [e]
  exact wpAny_pure h
theorem pick_rev (xs : Array Value) : ((List.range xs.size).filterMap fun (m : Nat) => xs[((xs.size : Int) - 1 + (m : Int) * (-1)).toNat]?).toArray = xs.toList.reverse.toArray := by
  apply congrArg List.toArray
  have e : ∀ (l : List Value), ((List.range l.length).filterMap fun (m : Nat) => l[((l.length : Int) - 1 + (m : Int) * (-1)).toNat]?) = l.reverse := by
    intro l
    have h : (List.range l.length).map (fun (m : Nat) => l[((l.length : Int) - 1 + (m : Int) * (-1)).toNat]?) = l.reverse.map some := by
      apply List.ext_getElem
      · simp
      · intro i h1 h2
        have hi : i < l.length := by simpa using h1
        simp only [List.getElem_map, List.getElem_range, List.getElem_reverse]
        have : ((l.length : Int) - 1 + (i : Int) * (-1)).toNat = l.length - 1 - i := by omega
        rw [this, List.getElem?_eq_getElem (by omega)]
    calc (List.range l.length).filterMap (fun (m : Nat) => l[((l.length : Int) - 1 + (m : Int) * (-1)).toNat]?)
        = ((List.range l.length).map (fun (m : Nat) => l[((l.length : Int) - 1 + (m : Int) * (-1)).toNat]?)).filterMap id := by rw [List.filterMap_map]; rfl
      _ = l.reverse := by rw [h, List.filterMap_map]; simp
  obtain ⟨l⟩ := xs
  simpa using e l
theorem getItem_tuple_rev {t sl : Addr} {items : Array Value} {vl vu vs : Value} {Q : Value → Shared → Prop} (ht : IsTup s.heap t items) (hs : s.heap.IsSliceOf sl vl vu vs) (pl : IsPart vl none) (pu : IsPart vu none) (ps : IsPart vs (some (-1)))
    (h : Q (.ref s.heap.objs.size) { s with heap := s.heap.push { cls := .type "tuple", data := .seq items.toList.reverse.toArray } }) (hsz : items.size ≤ sizeLine) : wpAny (model prog w) A (getItem (.ref t) (.ref sl)) Q E s := by
  have htake : sizeOk (.seq items.toList.reverse.toArray) := by
    show items.toList.reverse.toArray.size ≤ sizeLine
    simpa using hsz
  obtain ⟨os, hos, hcs, hds⟩ := id hs
  have hTs : s.TypeIs (.ref sl) "slice" := ⟨os, hos, hcs⟩
  unfold getItem
  try with_reducible refine wpAny_holding ?_
  first | refine wpAny_bind (wpAny_pure ?_) | skip
  refine wpAny_bind (wpAny_sequenceKey ht.typeIs (by decide) ?_)
  refine wpAny_bind (wpAny_callSpecial?_slot (name := Str.ofString "__getitem__") ht.typeIs PyProof.Rows.slot_tuple_getitem
    (wpAny_call_entry PyProof.Rows.slot_tuple_getitem ht.typeIs entry_tuple_getitem ?_ (args_tuple_getitem _ _)))
  show wpAny _ _ (Builtin.Tuple.tupleItemsOf (.ref t) >>= _) _ _ s
  refine wpAny_bind (tupleItemsOf_ ht ?_)
  refine wpAny_bind (wpAny_typeOf hTs ?_)
  rw [if_pos (by decide)]
  refine wpAny_bind (sliceApplied_rev hs pl pu ps ?_)
  have hno : ¬ (((((items.size : Nat) : Int) - 1) == 0 && (-1 : Int) == 1 && items.size == items.size) = true) := by simp
  show wpAny _ _ (if ((((items.size : Nat) : Int) - 1) == 0 && (-1 : Int) == 1 && items.size == items.size) = true then _ else _) _ _ s
  rw [if_neg hno, pick_rev]
  exact wpAny_bind (m := Builtin.Tuple.tupleExact _) (wpAny_newObj_type (wpAny_pure ⟨_, rfl, wpAny_pure h⟩) htake)
end
def tRev2 (K : PySem.W.Frag) (te : TE) : TE := fun σ H Q => te σ H fun x H1 => ∃ a xs, x = .ref a ∧ ((SqL K H1 a xs ∧ ∀ p, H1 p = none → Q (.ref p) (upd H1 p (.lst xs.reverse))) ∨ (SqT K H1 a xs ∧ ∀ p, H1 p = none → Q (.ref p) (upd H1 p (.tup xs.reverse))))
section
variable {X : Cx}
theorem pe_rev2 {e : Expr} {te : TE} {k : Nat} {p1 p2 p3 pos : Pos} (he : PE X e te) : PE X (.Subscript e (.Slice none none (some (.UnaryOp .USub (.Constant (.int 1) k p1) p2)) p3) pos) (tRev2 X.K te) := by
  refine ⟨fun pins s σ H Q I h => ?_⟩
  refine Subscript_ (thn (he.run pins s σ H _ I h) fun v s1 ⟨x, H1, I1, r1, q1⟩ => ?_)
  obtain ⟨a, xs, ex, hq⟩ := q1
  subst ex
  cases r1
  have hst : PO X (some (.UnaryOp .USub (.Constant (.int 1) k p1) p2)) (tPart (tUn (rU fun i => .int (-i)) (tC (.int 1)))) := po_some (pe_un un_neg pe_int)
  refine wpAny_Slice (thn (po_none.run pins s1 σ H1 (fun o H2 => o = none ∧ H2 = H1) I1 ⟨rfl, rfl⟩) fun vl s2 ⟨l, H2, I2, pl, el, e2⟩ => ?_)
  subst el e2
  refine thn (po_none.run pins s2 σ H2 (fun o H3 => o = none ∧ H3 = H2) I2 ⟨rfl, rfl⟩) fun vu s3 ⟨u, H3, I3, pu, eu, e3⟩ => ?_
  subst eu e3
  refine thn (hst.run pins s3 σ H3 (fun o H4 => o = some (-1) ∧ H4 = H3) I3 ⟨1, rfl, -1, rfl, rfl, rfl⟩) fun vs s4 ⟨o, H4, I4, ps, eo, e4⟩ => ?_
  subst eo e4
  have I5 : Inv X pins σ H4 { s4 with heap := s4.heap.push { cls := .type "slice", data := .fields #[vl, vu, vs] } } := I4.kept (t' := s4.toks) fun b ob q => Heap.get?_push_of_some _ q
  show wpAny (model X.prog X.w) X.A (subscriptTail e (.Slice none none (some (.UnaryOp .USub (.Constant (.int 1) k p1) p2)) p3) (.ref a) (.ref s4.heap.objs.size)) (EP X pins σ Q) X.xe { s4 with heap := s4.heap.push { cls := .type "slice", data := .fields #[vl, vu, vs] } }
  rcases hq with ⟨hx, q⟩ | ⟨hx, q⟩
  · obtain ⟨its, r, ht, hz⟩ := I5.list hx
    have hlen := r.length
    refine tail_any (ops := [.ref a, .ref s4.heap.objs.size]) ht.isList.typeIs (PySem.slot_list_getitem.lookup) ?_ (by with_unfolding_all rfl)
    refine wpAny_getItem_list_slice ht.isList (Heap.IsSliceOf.new _ vl vu vs) pl pu ps (by decide) ?_ (by rw [List.size_toArray]; omega)
    rw [PySem.W.krv_pick]
    refine ⟨.ref _, _, I5.laid (t' := s4.toks) (o := .lst xs.reverse) (fun b ob q => Heap.get?_push_of_some _ q) (Nat.le_refl _) ?_, rfl, q _ (I5.hok.fresh (Nat.le_refl _))⟩
    exact ⟨by rw [List.length_reverse]; exact hz, _, 0, r.reverse, Heap.get?_push_size _ rfl⟩
  · obtain ⟨its, r, ht, hz⟩ := I5.tuple hx
    have hlen := r.length
    refine tail_any (ops := [.ref a, .ref s4.heap.objs.size]) ht.typeIs (PyProof.Rows.slot_tuple_getitem.lookup) ?_ (by with_unfolding_all rfl)
    refine getItem_tuple_rev ht (Heap.IsSliceOf.new _ vl vu vs) pl pu ps ?_ (by rw [List.size_toArray]; omega)
    refine ⟨.ref _, _, I5.laid (t' := s4.toks) (o := .tup xs.reverse) (fun b ob q => Heap.get?_push_of_some _ q) (Nat.le_refl _) ?_, rfl, q _ (I5.hok.fresh (Nat.le_refl _))⟩
    exact ⟨by rw [List.length_reverse]; exact hz, _, r.reverse, IsTup.new _ _⟩
end
end Fb
set_option Elab.async false
set_option linter.all false
set_option maxRecDepth 100000
set_option maxHeartbeats 2000000
/-! Fx8: list(zip(a, b)) of lists and tuples. -/
namespace PySem
open PySem.W PySem.Calls PyProof.Rows PySem.Spec Sem
section
variable {prog : Program} {w : World} {A : Around} {E : Value → Shared → Prop} {s : Shared} {z TI TO i1 i2 : Addr} {fp1 fp2 : List Addr} {n1 n2 i : Nat} {P1 P2 : Nat → Value → Prop} {St1 St2 : Nat → Heap → Prop} {a1 a2 : Value}
theorem zlh_item {T : Addr} {f : Bool} {oT : Obj} {Q : Value → Shared → Prop} (S : ZipSep2 z TI TO i1 i2 fp1 fp2) (D1 : Draws prog w A i1 fp1 n1 P1 St1) (D2 : Draws prog w A i2 fp2 n2 P2 St2)
    (hz : IsZipHeld s.heap z TI TO T f) (hT : s.heap.get? T = some oT) (hTI : IsTupOf2 s.heap TI (.ref i1) (.ref i2)) (st1 : St1 i s.heap) (st2 : St2 i s.heap) (hlt1 : i < n1) (hlt2 : i < n2)
    (hQ : ∀ x1 x2 h' tk, P1 i x1 → P2 i x2 → IsZipHeld h' z TI TO T true → St1 (i + 1) h' → St2 (i + 1) h' → IsTupOf2 h' s.heap.objs.size x1 x2 → h'.objs.size = s.heap.objs.size + 1 →
      (∀ c o, c ≠ z → c ≠ i1 → c ≠ i2 → s.heap.get? c = some o → h'.get? c = some o) → Q (.ref s.heap.objs.size) { s with heap := h', toks := tk }) :
    wpAny (model prog w) A (Builtin.«zip.__next__» ⟨[.ref z], []⟩) (fun fin s' => ∃ v, fin = .done (.ret v) ∧ Q v s') E s := by
  obtain ⟨hp, g, d, tk0, os⟩ := s
  show wpAny _ _ (field (.ref z) 2 >>= _) _ _ _
  refine wpAny_bind (wpAny_field hz rfl (x := .bool false) rfl ?_)
  show wpAny _ _ (field (.ref z) 3 >>= _) _ _ _
  refine wpAny_bind (wpAny_field hz rfl (x := .ref TI) rfl ?_)
  refine wpAny_bind (wpAny_seqItems hTI rfl ?_)
  show wpAny _ _ (Builtin.SmallTypes.ownedTupleIsFree (.ref z) >>= _) _ _ _
  refine wpAny_bind (wpAny_tupleHeld_zip hz hT fun g0 hz0 hs0 => ?_)
  replace hs0 : Heap.SameBut z hp g0 := hs0
  simp only [Bool.false_eq_true, if_false]
  refine wpAny_bind ?_
  rw [← Array.forIn_toList]
  simp only [List.forIn_cons, List.forIn_nil]
  refine wpAny_bind (wpAny_bind (wpAny_holding ?_))
  show wpAny _ _ (Builtin.SmallTypes.nextOf (.ref i1) >>= _) _ _ ⟨g0, g, d, tk0, os⟩
  refine wpAny_bind (D1.item i _ _ _ hlt1 (D1.over st1 hs0 S.zf1) fun x1 p1 tk1 hx1 sn1 hp1 => wpAny_pure ?_)
  replace hp1 : Heap.SameBut i1 g0 p1 := hp1
  refine wpAny_pure ?_
  refine wpAny_bind (wpAny_bind (wpAny_holding ?_))
  show wpAny _ _ (Builtin.SmallTypes.nextOf (.ref i2) >>= _) _ _ ⟨p1, g, d, tk1, os⟩
  refine wpAny_bind (D2.item i _ _ _ hlt2 (D2.over (D2.over st2 hs0 S.zf2) hp1 S.sep1_2) fun x2 p2 tk2 hx2 sn2 hp2 => wpAny_pure ?_)
  replace hp2 : Heap.SameBut i2 p1 p2 := hp2
  refine wpAny_pure (wpAny_pure ?_)
  show wpAny _ _ (newTuple [x1, x2] >>= _) _ _ _
  refine wpAny_bind (wpAny_newTuple ?_)
  have hsz : p2.objs.size = hp.objs.size := by rw [hp2.1, hp1.1, hs0.1]
  have hz3 : IsZipHeld p2 z TI TO T true := hp2.extBut _ _ S.zi2 (hp1.extBut _ _ S.zi1 hz0)
  have hk : ∀ c o, c ≠ z → c ≠ i1 → c ≠ i2 → hp.get? c = some o → p2.get? c = some o := fun c o c1 c2 c3 e => hp2.extBut _ _ c3 (hp1.extBut _ _ c2 (hs0.extBut _ _ c1 e))
  have hj1 : St1 (i + 1) p2 := D1.over sn1 hp2 S.sep2_1
  refine wpAny_pure ⟨_, rfl, ?_⟩
  show Q (.ref p2.objs.size) _
  have hp4 : IsTupOf2 (p2.push { cls := .type "tuple", data := .seq #[x1, x2] }) p2.objs.size x1 x2 := Heap.get?_push_size _ rfl
  have hz4 : (p2.push { cls := .type "tuple", data := .seq #[x1, x2] }).objs.size = p2.objs.size + 1 := Heap.size_push ..
  rw [hsz] at hp4 hz4 ⊢
  exact hQ x1 x2 _ tk2 hx1 hx2 (Heap.get?_push_of_some _ hz3) (D1.frame _ _ _ hj1 fun b _ o e => Heap.get?_push_of_some _ e) (D2.frame _ _ _ sn2 fun b _ o e => Heap.get?_push_of_some _ e) hp4 hz4 fun c o c1 c2 c3 e => Heap.get?_push_of_some _ (hk c o c1 c2 c3 e)
theorem zlh_end {T : Addr} {f : Bool} {oT : Obj} {Q : Fin → Shared → Prop} (S : ZipSep2 z TI TO i1 i2 fp1 fp2) (D1 : Draws prog w A i1 fp1 n1 P1 St1) (D2 : Draws prog w A i2 fp2 n2 P2 St2)
    (hz : IsZipHeld s.heap z TI TO T f) (hT : s.heap.get? T = some oT) (hTI : IsTupOf2 s.heap TI (.ref i1) (.ref i2)) (st1 : St1 i s.heap) (st2 : St2 i s.heap) (hle1 : i ≤ n1) (hle2 : i ≤ n2) (hend : i = n1 ∨ i = n2)
    (hE : ∀ h' tk e, (∀ c o, c ≠ z → c ≠ i1 → c ≠ i2 → s.heap.get? c = some o → h'.get? c = some o) → (∃ o, h'.get? e = some o ∧ o.cls = .type "StopIteration") → E (.ref e) { s with heap := h', toks := tk }) :
    wpAny (model prog w) A (Builtin.«zip.__next__» ⟨[.ref z], []⟩) Q E s := by
  obtain ⟨hp, g, d, tk0, os⟩ := s
  show wpAny _ _ (field (.ref z) 2 >>= _) _ _ _
  refine wpAny_bind (wpAny_field hz rfl (x := .bool false) rfl ?_)
  show wpAny _ _ (field (.ref z) 3 >>= _) _ _ _
  refine wpAny_bind (wpAny_field hz rfl (x := .ref TI) rfl ?_)
  refine wpAny_bind (wpAny_seqItems hTI rfl ?_)
  show wpAny _ _ (Builtin.SmallTypes.ownedTupleIsFree (.ref z) >>= _) _ _ _
  refine wpAny_bind (wpAny_tupleHeld_zip hz hT fun g0 hz0 hs0 => ?_)
  replace hs0 : Heap.SameBut z hp g0 := hs0
  simp only [Bool.false_eq_true, if_false]
  refine wpAny_bind ?_
  rw [← Array.forIn_toList]
  simp only [List.forIn_cons, List.forIn_nil]
  refine wpAny_bind (wpAny_bind (wpAny_holding ?_))
  show wpAny _ _ (Builtin.SmallTypes.nextOf (.ref i1) >>= _) _ _ ⟨g0, g, d, tk0, os⟩
  by_cases hlt1 : i < n1
  · refine wpAny_bind (D1.item i _ _ _ hlt1 (D1.over st1 hs0 S.zf1) fun x1 p1 tk1 hx1 sn1 hp1 => wpAny_pure ?_)
    replace hp1 : Heap.SameBut i1 g0 p1 := hp1
    refine wpAny_pure ?_
    have hi2 : i = n2 := by omega
    refine wpAny_bind (wpAny_bind (wpAny_holding ?_))
    show wpAny _ _ (Builtin.SmallTypes.nextOf (.ref i2) >>= _) _ _ ⟨p1, g, d, tk1, os⟩
    refine wpAny_bind (D2.done ⟨p1, g, d, tk1, os⟩ _ _ (by rw [← hi2]; exact D2.over (D2.over st2 hs0 S.zf2) hp1 S.sep1_2) fun q e hq he => ?_)
    exact hE q tk1 e (fun c o c1 c2 c3 x => hq _ _ c3 (hp1.extBut _ _ c2 (hs0.extBut _ _ c1 x))) he
  · have hi1 : i = n1 := by omega
    refine wpAny_bind (D1.done ⟨g0, g, d, tk0, os⟩ _ _ (by rw [← hi1]; exact D1.over st1 hs0 S.zf1) fun q e hq he => ?_)
    exact hE q tk0 e (fun c o c1 c2 c3 x => hq _ _ c2 (hs0.extBut _ _ c1 x)) he
/-- where the zip stands -/
def ZlSt (h : Heap) (z TI TO i1 i2 S : Addr) (St1 St2 : Nat → Heap → Prop) (i : Nat) : Prop :=
  IsTupOf2 h TI (.ref i1) (.ref i2) ∧ St1 i h ∧ St2 i h ∧ ((IsZip h z TI TO .none ∧ ∃ a1 a2, IsTupOf2 h TO a1 a2) ∨ ∃ T f oT, IsZipHeld h z TI TO T f ∧ h.get? T = some oT ∧ T ≠ z ∧ T ≠ i1 ∧ T ≠ i2 ∧ T ≠ S)
theorem ZlSt.keep {h h' : Heap} {S0 : Addr} (S : ZipSep2 z TI TO i1 i2 fp1 fp2) (D1 : Draws prog w A i1 fp1 n1 P1 St1) (D2 : Draws prog w A i2 fp2 n2 P2 St2) (x : ZlSt h z TI TO i1 i2 S0 St1 St2 i) (hk : ∀ b o, b ≠ S0 → h.get? b = some o → h'.get? b = some o)
    (h1 : z ≠ S0) (h2 : TI ≠ S0) (h3 : TO ≠ S0) (h4 : S0 ∉ fp1) (h5 : S0 ∉ fp2) : ZlSt h' z TI TO i1 i2 S0 St1 St2 i := by
  obtain ⟨e1, e2, e3, e4⟩ := x
  refine ⟨hk _ _ h2 e1, D1.frame _ _ _ e2 fun b hb o e => hk b o (fun q => h4 (q ▸ hb)) e, D2.frame _ _ _ e3 fun b hb o e => hk b o (fun q => h5 (q ▸ hb)) e, ?_⟩
  rcases e4 with ⟨e4, a1, a2, e5⟩ | ⟨T, f, oT, e4, e5, n1, n2, n3, n4⟩
  · exact .inl ⟨hk _ _ h1 e4, a1, a2, hk _ _ h3 e5⟩
  · exact .inr ⟨T, f, oT, hk _ _ h1 e4, hk _ _ n4 e5, n1, n2, n3, n4⟩
theorem zl_item {S0 : Addr} {Q : Option Value → Shared → Prop} (S : ZipSep2 z TI TO i1 i2 fp1 fp2) (D1 : Draws prog w A.in1 i1 fp1 n1 P1 St1) (D2 : Draws prog w A.in1 i2 fp2 n2 P2 St2) (x : ZlSt s.heap z TI TO i1 i2 S0 St1 St2 i) (hS : S0 < s.heap.objs.size) (hlt1 : i < n1) (hlt2 : i < n2)
    (hQ : ∀ x1 x2 h' tk, P1 i x1 → P2 i x2 → ZlSt h' z TI TO i1 i2 S0 St1 St2 (i + 1) → IsTupOf2 h' s.heap.objs.size x1 x2 → h'.objs.size = s.heap.objs.size + 1 →
      (∀ c o, c ≠ z → c ≠ TO → c ≠ i1 → c ≠ i2 → s.heap.get? c = some o → h'.get? c = some o) → Q (some (.ref s.heap.objs.size)) { s with heap := h', toks := tk }) :
    wpAny (model prog w) A (pyNext (.ref z)) Q E s := by
  obtain ⟨hTI, st1, st2, e4⟩ := x
  obtain ⟨o1, l1⟩ := D1.live _ _ st1
  obtain ⟨o2, l2⟩ := D2.live _ _ st2
  rcases e4 with ⟨hz, a1, a2, hTO⟩ | ⟨T, f, oT, hz, hT, ne1, ne2, ne3, ne4⟩
  · refine wpAny_pyNext_zipD2_item S D1 D2 hz hTI hTO st1 st2 hlt1 hlt2 fun x1 x2 h' tk y1 y2 b1 b2 d1 d2 b5 b6 hk => ?_
    have lt : ∀ {c o}, s.heap.get? c = some o → s.heap.objs.size ≠ c := fun e => Nat.ne_of_gt (Heap.lt_size e)
    exact hQ x1 x2 h' tk y1 y2 ⟨hk _ _ S.TIz S.TITO S.TIi1 S.TIi2 hTI, d1, d2, .inr ⟨s.heap.objs.size, false, _, b1, b5, lt hz, lt l1, lt l2, Nat.ne_of_gt hS⟩⟩ b5 b6 hk
  · have hT0 : s.TypeIs (.ref z) "zip" := ⟨_, hz, rfl⟩
    unfold pyNext
    refine wpAny_bind (wpAny_attempt (wpAny_callSpecial?_slot (name := Str.ofString "__next__") hT0 PySem.F.slot_zip_next
      (wpAny_call_entry PySem.F.slot_zip_next hT0 PySem.F.entry_zip_next
        (zlh_item S D1 D2 hz hT hTI st1 st2 hlt1 hlt2 fun x1 x2 h' tk y1 y2 b1 d1 d2 b5 b6 hk => wpAny_pure ?_) (PySem.F.args_zip_next_1 _))))
    exact hQ x1 x2 h' tk y1 y2 ⟨hk _ _ S.TIz S.TIi1 S.TIi2 hTI, d1, d2, .inr ⟨T, true, oT, b1, hk _ _ ne1 ne2 ne3 hT, ne1, ne2, ne3, ne4⟩⟩ b5 b6 fun c o c1 _ c2 c3 e => hk c o c1 c2 c3 e
theorem zl_done {S0 : Addr} {Q : Option Value → Shared → Prop} (S : ZipSep2 z TI TO i1 i2 fp1 fp2) (D1 : Draws prog w A.in1 i1 fp1 n1 P1 St1) (D2 : Draws prog w A.in1 i2 fp2 n2 P2 St2) (x : ZlSt s.heap z TI TO i1 i2 S0 St1 St2 i) (hle1 : i ≤ n1) (hle2 : i ≤ n2) (hend : i = n1 ∨ i = n2)
    (hQ : ∀ h' tk, (∀ c o, c ≠ z → c ≠ TO → c ≠ i1 → c ≠ i2 → s.heap.get? c = some o → h'.get? c = some o) → Q none { s with heap := h', toks := tk }) : wpAny (model prog w) A (pyNext (.ref z)) Q E s := by
  obtain ⟨hTI, st1, st2, e4⟩ := x
  rcases e4 with ⟨hz, a1, a2, hTO⟩ | ⟨T, f, oT, hz, hT, ne1, ne2, ne3, ne4⟩
  · exact wpAny_pyNext_zipD2_end S D1 D2 hz hTI hTO st1 st2 hle1 hle2 hend hQ
  · have hT0 : s.TypeIs (.ref z) "zip" := ⟨_, hz, rfl⟩
    unfold pyNext
    refine wpAny_bind (wpAny_attempt (wpAny_callSpecial?_slot (name := Str.ofString "__next__") hT0 PySem.F.slot_zip_next
      (wpAny_call_entry PySem.F.slot_zip_next hT0 PySem.F.entry_zip_next (zlh_end S D1 D2 hz hT hTI st1 st2 hle1 hle2 hend fun h' tk e hk he => ?_) (PySem.F.args_zip_next_1 _))))
    obtain ⟨o, ho, hc⟩ := he
    refine wpAny_bind (wpAny_isInstance (T := "StopIteration") (b := true) ⟨o, ho, hc⟩ isSubtype_stop ?_)
    exact wpAny_pure (hQ _ _ fun c o c1 _ c2 c3 e => hk c o c1 c2 c3 e)
/-- the pairs so far -/
structure ZlG (P1 P2 : Nat → Value → Prop) (lo : Addr) (h : Heap) (as : List Addr) : Prop where
  rise : as.Pairwise (· < ·)
  above : ∀ a ∈ as, lo < a
  pairs : ∀ (j : Nat) (a : Addr), as[j]? = some a → ∃ x y, P1 j x ∧ P2 j y ∧ h.get? a = some { cls := .type "tuple", data := .seq #[x, y] }
theorem ZlG.there {lo : Addr} {h : Heap} {as : List Addr} (g : ZlG P1 P2 lo h as) {a : Addr} (ha : a ∈ as) : a < h.objs.size := by
  obtain ⟨j, hj⟩ := List.mem_iff_getElem?.mp ha
  obtain ⟨_, _, _, _, e⟩ := g.pairs j a hj
  exact Heap.lt_size e
end
section
variable {prog : Program} {w : World} {A : Around} {E : Value → Shared → Prop} {s : Shared} {R : Result → Shared → Prop} {z TI TO i1 i2 : Addr} {fp1 fp2 : List Addr} {n1 n2 : Nat} {P1 P2 : Nat → Value → Prop} {St1 St2 : Nat → Heap → Prop}
theorem zl_loop {S0 lo : Addr} (S : ZipSep2 z TI TO i1 i2 fp1 fp2) (D1 : Draws prog w A.in1.in1 i1 fp1 n1 P1 St1) (D2 : Draws prog w A.in1.in1 i2 fp2 n2 P2 St2) (q1 : z ≠ S0) (q2 : TI ≠ S0) (q3 : TO ≠ S0) (q4 : S0 ∉ fp1) (q5 : S0 ∉ fp2)
    (hz : z ≤ lo) (hTO : TO ≤ lo) (h1 : i1 ≤ lo) (h2 : i2 ≤ lo) (hS : S0 ≤ lo) (hn : min n1 n2 ≤ sizeLine) (res : Value) {h₁ : Heap}
    (hR : ∀ h' tk acc c as, (∀ b o, b ≠ S0 → b ≠ z → b ≠ TO → b ≠ i1 → b ≠ i2 → h₁.get? b = some o → h'.get? b = some o) → h'.get? S0 = some { cls := .type "list", dict := none, data := .seq acc c, slots := #[] } → as.length = min n1 n2 → ZlG P1 P2 lo h' as →
      acc.toList = as.map Value.ref → R (.ok (.ret res)) { s with heap := h', toks := tk }) :
    ∀ (k i : Nat) (h : Heap) (tk c : Nat) (acc : Array Value) (as : List Addr), min n1 n2 - i = k → i ≤ min n1 n2 → ZlSt h z TI TO i1 i2 S0 St1 St2 i → (∀ b o, b ≠ S0 → b ≠ z → b ≠ TO → b ≠ i1 → b ≠ i2 → h₁.get? b = some o → h.get? b = some o) →
      h.get? S0 = some { cls := .type "list", dict := none, data := .seq acc c, slots := #[] } → acc.toList = as.map Value.ref → as.length = i → ZlG P1 P2 lo h as → lo < h.objs.size →
      codeAny (model prog w) A (.builtin "list.extend.loop" ⟨[.ref S0, .ref z, res], []⟩) R { s with heap := h, toks := tk } := by
  have m1 : S0 ≠ i1 := fun e => q4 (by rw [e]; exact S.mem1)
  have m2 : S0 ≠ i2 := fun e => q5 (by rw [e]; exact S.mem2)
  intro k
  induction k with
  | zero =>
    intro i h tk c acc as hk hi hst hkeep hS0 hacc hal hG hIs
    refine codeAny_builtin PySem.F.entry_extend_loop ?_
    rw [Around.under_plainId PySem.F.plain_extend_loop _]
    show wpAny _ A.in1 (pyNext (.ref z) >>= _) _ _ _
    refine wpAny_bind (zl_done (s := { s with heap := h, toks := tk }) (A := A.in1) S D1 D2 hst (by omega) (by omega) (by omega) fun h' tk' he => ?_)
    refine wpAny_pure (hR h' tk' acc c as (fun b o h1 h2 h3 h4 h5 e => he b o h2 h3 h4 h5 (hkeep b o h1 h2 h3 h4 h5 e)) (he S0 _ (Ne.symm q1) (Ne.symm q3) m1 m2 hS0) (by omega) ⟨hG.rise, hG.above, fun j a hj => ?_⟩ hacc)
    obtain ⟨x, y, e1, e2, e3⟩ := hG.pairs j a hj
    have ab := hG.above a (List.mem_of_getElem? hj)
    exact ⟨x, y, e1, e2, he a _ (Nat.ne_of_gt (Nat.lt_of_le_of_lt hz ab)) (Nat.ne_of_gt (Nat.lt_of_le_of_lt hTO ab)) (Nat.ne_of_gt (Nat.lt_of_le_of_lt h1 ab)) (Nat.ne_of_gt (Nat.lt_of_le_of_lt h2 ab)) e3⟩
  | succ k ih =>
    intro i h tk c acc as hk hi hst hkeep hS0 hacc hal hG hIs
    have hsz : acc.size = i := by rw [← Array.length_toList, hacc, List.length_map, hal]
    refine codeAny_builtin PySem.F.entry_extend_loop ?_
    rw [Around.under_plainId PySem.F.plain_extend_loop _]
    show wpAny _ A.in1 (pyNext (.ref z) >>= _) _ _ _
    refine wpAny_bind (zl_item (s := { s with heap := h, toks := tk }) (A := A.in1) S D1 D2 hst (Heap.lt_size hS0) (by omega) (by omega) fun x1 x2 h' tk' y1 y2 hst' ht hz' hkp => ?_)
    dsimp only at ht hz' hkp ⊢
    have hS' := hkp S0 _ (Ne.symm q1) (Ne.symm q3) m1 m2 hS0
    have up : ∀ b o, b ≠ S0 → h'.get? b = some o → (h'.update S0 (Obj.mapSeq (·.push (Value.ref h.objs.size)))).get? b = some o := fun b o hb e => (Heap.get?_update_other _ _ (Ne.symm hb)).trans e
    have hSl : S0 < h.objs.size := Heap.lt_size hS0
    show wpAny _ A.in1 (updateSeq S0 (·.push (Value.ref h.objs.size)) >>= _) _ _ _
    refine wpAny_bind ?_
    refine wpAny_updateSeq hS' rfl (wpAny_pure ⟨plainId_quiet PySem.F.plain_extend_loop _, ih (i + 1) _ tk' _ (acc.push (Value.ref h.objs.size)) (as ++ [h.objs.size]) (by omega) (by omega) (hst'.keep S D1 D2 up q1 q2 q3 q4 q5)
      (fun b o g1 g2 g3 g4 g5 e => up b o g1 (hkp b o g2 g3 g4 g5 (hkeep b o g1 g2 g3 g4 g5 e))) (Heap.get?_update_self _ hS' rfl) (by rw [Array.toList_push, hacc, List.map_append]; rfl) (by rw [List.length_append, hal]; rfl) ⟨?_, ?_, ?_⟩ ?_⟩) (by rw [hsz]; omega) (by show (acc.push (Value.ref h.objs.size)).size ≤ sizeLine + 1; rw [Array.size_push, hsz]; omega)
    · refine List.pairwise_append.mpr ⟨hG.rise, List.pairwise_singleton _ _, fun a ha b hb => ?_⟩
      rw [List.mem_singleton.mp hb]
      exact hG.there ha
    · intro a ha
      rcases List.mem_append.mp ha with ha | ha
      · exact hG.above a ha
      · rw [List.mem_singleton.mp ha]; exact hIs
    · intro j b hj
      rcases Nat.lt_trichotomy j as.length with g1 | g1 | g1
      · rw [List.getElem?_append_left g1] at hj
        obtain ⟨x', y', e1, e2, e3⟩ := hG.pairs j b hj
        have ab := hG.above b (List.mem_of_getElem? hj)
        exact ⟨x', y', e1, e2, up b _ (Nat.ne_of_gt (Nat.lt_of_le_of_lt hS ab)) (hkp b _ (Nat.ne_of_gt (Nat.lt_of_le_of_lt hz ab)) (Nat.ne_of_gt (Nat.lt_of_le_of_lt hTO ab)) (Nat.ne_of_gt (Nat.lt_of_le_of_lt h1 ab)) (Nat.ne_of_gt (Nat.lt_of_le_of_lt h2 ab)) e3)⟩
      · subst g1
        have hb : h.objs.size = b := by simpa using hj
        subst hb
        exact ⟨x1, x2, by rw [hal]; exact y1, by rw [hal]; exact y2, up _ _ (Nat.ne_of_gt hSl) ht⟩
      · have hnone : (as ++ [h.objs.size])[j]? = none := List.getElem?_eq_none (by rw [List.length_append, List.length_singleton]; omega)
        rw [hnone] at hj; cases hj
    · have e : (h'.update S0 (Obj.mapSeq (·.push (Value.ref h.objs.size)))).get? h.objs.size = _ := up _ _ (Nat.ne_of_gt hSl) ht
      exact Nat.lt_trans hIs (Heap.lt_size e)
theorem zip_no_len : typeLookup (.type "zip") "__len__" = pure none := by rw [typeLookup_type, builtinLookup_eq_fast]; kernel_rfl
theorem zip_no_hint : typeLookup (.type "zip") "__length_hint__" = pure none := by rw [typeLookup_type, builtinLookup_eq_fast]; kernel_rfl
theorem zl_hint (hT : s.TypeIs (.ref z) "zip") {Q : Bool → Shared → Prop} (h : Q true s) : wpAny (model prog w) A (Builtin.List.listLengthHint (.ref z)) Q E s := by
  unfold Builtin.List.listLengthHint
  refine wpAny_bind (wpAny_specialOf hT zip_no_len ?_)
  show wpAny _ _ (specialOf (Value.ref z) (Str.ofString "__length_hint__") >>= _) _ _ _
  refine wpAny_bind (wpAny_specialOf hT zip_no_hint ?_)
  exact wpAny_pure h
theorem zl_extend {S0 : Addr} (S : ZipSep2 z TI TO i1 i2 fp1 fp2) (D1 : Draws prog w A.in1.in1 i1 fp1 n1 P1 St1) (D2 : Draws prog w A.in1.in1 i2 fp2 n2 P2 St2) (q1 : z ≠ S0) (q2 : TI ≠ S0) (q3 : TO ≠ S0) (q4 : S0 ∉ fp1) (q5 : S0 ∉ fp2)
    (hz : IsZip s.heap z TI TO .none) (hTI : IsTupOf2 s.heap TI (.ref i1) (.ref i2)) (hTO : ∃ a1 a2, IsTupOf2 s.heap TO a1 a2) (st1 : St1 0 s.heap) (st2 : St2 0 s.heap) (hn : min n1 n2 ≤ sizeLine) (res : Value) (c₀ : Nat) (hS : s.heap.get? S0 = some { cls := .type "list", data := .seq #[] c₀ })
    (hR : ∀ h' tk acc c as, (∀ b o, b ≠ S0 → b ≠ z → b ≠ TO → b ≠ i1 → b ≠ i2 → s.heap.get? b = some o → h'.get? b = some o) → h'.get? S0 = some { cls := .type "list", dict := none, data := .seq acc c, slots := #[] } → as.length = min n1 n2 → ZlG P1 P2 (s.heap.objs.size - 1) h' as →
      acc.toList = as.map Value.ref → R (.ok (.ret res)) { s with heap := h', toks := tk }) :
    wpAny (model prog w) A.in1 (Builtin.List.listExtendWith (.ref S0) (.ref z) res)
      (fun fin s' => match fin with | .done f => R (.ok f) s' | .again c' => c'.quiet = true ∧ codeAny (model prog w) A c' R s') (fun e s' => R (.error e) s') s := by
  have hT : s.TypeIs (.ref z) "zip" := ⟨_, hz, rfl⟩
  have lS : S0 < s.heap.objs.size := Heap.lt_size hS
  have lz : z < s.heap.objs.size := Heap.lt_size hz
  obtain ⟨a1, a2, hTO'⟩ := hTO
  have lTO : TO < s.heap.objs.size := Heap.lt_size hTO'
  obtain ⟨o1, l1⟩ := D1.live _ _ st1
  obtain ⟨o2, l2⟩ := D2.live _ _ st2
  have l1 : i1 < s.heap.objs.size := Heap.lt_size l1
  have l2 : i2 < s.heap.objs.size := Heap.lt_size l2
  unfold Builtin.List.listExtendWith
  refine wpAny_bind (wpAny_typeOf hT ?_)
  have h1 : Builtin.List.listSameRef (.ref S0) (.ref z) = false := by simp [Builtin.List.listSameRef, Ne.symm q1]
  have h2 : (Value.type "zip" == Value.type "list") = false := by decide
  have h3 : (Value.type "zip" == Value.type "tuple") = false := by decide
  simp only [h1, h2, h3, Bool.or_false, Bool.false_eq_true, if_false]
  refine wpAny_bind (wpAny_pyIter_zip hz ?_)
  refine wpAny_bind (wpAny_holding (zl_hint hT ?_))
  refine wpAny_ite_split (fun _ => ?_) (fun hab => absurd rfl hab)
  refine wpAny_bind (wpAny_rule ?_)
  refine wpAny_bind ?_
  show wpAny _ _ (updateSeq S0 (·.push .none) >>= fun _ => updateSeq S0 (·.pop)) _ _ _
  refine wpAny_bind (wpAny_updateSeq hS rfl ?_)
  have hS₂ := Heap.get?_update_self (Obj.mapSeq (·.push Value.none)) hS rfl
  refine wpAny_updateSeq (hz := by seq_fits) hS₂ rfl ?_
  have hS₃ := Heap.get?_update_self (Obj.mapSeq (·.pop)) hS₂ rfl
  have oth : ∀ b o, b ≠ S0 → s.heap.get? b = some o → ((s.heap.update S0 (Obj.mapSeq (·.push Value.none))).update S0 (Obj.mapSeq (·.pop))).get? b = some o :=
    fun b o hb e => (Heap.get?_update_other _ _ (Ne.symm hb)).trans ((Heap.get?_update_other _ _ (Ne.symm hb)).trans e)
  have sz : ((s.heap.update S0 (Obj.mapSeq (·.push Value.none))).update S0 (Obj.mapSeq (·.pop))).objs.size = s.heap.objs.size := by rw [(Heap.SameBut.update ..).1, (Heap.SameBut.update ..).1]
  refine wpAny_pure ⟨plainId_quiet PySem.F.plain_extend_loop _, zl_loop (lo := s.heap.objs.size - 1) S D1 D2 q1 q2 q3 q4 q5 (Nat.le_sub_one_of_lt lz) (Nat.le_sub_one_of_lt lTO) (Nat.le_sub_one_of_lt l1) (Nat.le_sub_one_of_lt l2) (Nat.le_sub_one_of_lt lS) hn res (h₁ := s.heap) hR (min n1 n2) 0 _ _ _ #[] [] (by omega) (Nat.zero_le _)
    (ZlSt.keep S D1 D2 ⟨hTI, st1, st2, .inl ⟨hz, a1, a2, hTO'⟩⟩ oth q1 q2 q3 q4 q5) (fun b o g1 _ _ _ _ e => oth b o g1 e) hS₃ rfl rfl ⟨.nil, (fun _ z => nomatch z), (fun j a z => by simp at z)⟩ (by rw [sz]; exact Nat.sub_one_lt (Nat.ne_of_gt (Nat.lt_of_le_of_lt (Nat.zero_le _) lz)))⟩
/-- list(z), z a zip that has just begun -/
theorem zl_call {Q : Value → Shared → Prop} (S : ZipSep2 z TI TO i1 i2 fp1 fp2) (D1 : Draws prog w A.in1.in1.in1 i1 fp1 n1 P1 St1) (D2 : Draws prog w A.in1.in1.in1 i2 fp2 n2 P2 St2) (f1 : ∀ b ∈ fp1, b < s.heap.objs.size) (f2 : ∀ b ∈ fp2, b < s.heap.objs.size)
    (hz : IsZip s.heap z TI TO .none) (hTI : IsTupOf2 s.heap TI (.ref i1) (.ref i2)) (hTO : ∃ a1 a2, IsTupOf2 s.heap TO a1 a2) (st1 : St1 0 s.heap) (st2 : St2 0 s.heap) (hn : min n1 n2 ≤ sizeLine)
    (hQ : ∀ h' tk acc c as, (∀ b o, b ≠ z → b ≠ TO → b ≠ i1 → b ≠ i2 → s.heap.get? b = some o → h'.get? b = some o) → h'.get? s.heap.objs.size = some { cls := .type "list", dict := none, data := .seq acc c, slots := #[] } → as.length = min n1 n2 → ZlG P1 P2 s.heap.objs.size h' as →
      acc.toList = as.map Value.ref → Q (.ref s.heap.objs.size) { s with heap := h', toks := tk }) :
    wpAny (model prog w) A (call (.type "list") [.ref z]) Q E s := by
  obtain ⟨a1, a2, hTO'⟩ := hTO
  refine callType_codes (Q₁ := fun obj s₁ => obj = .ref s.heap.objs.size ∧ s₁ = { s with heap := s.heap.push { cls := .type "list", data := .seq #[] } }) PySem.F.called_list (PySem.F.typeCall_list_1 _) PySem.F.entry_list_init
    (code_list_new _ ⟨rfl, rfl⟩) fun obj s₁ h₁ => ?_
  obtain ⟨rfl, rfl⟩ := h₁
  have hS : (s.heap.push { cls := .type "list", data := .seq #[] }).get? s.heap.objs.size = some { cls := .type "list", data := .seq #[] } := Heap.get?_push_size _ rfl
  have up : ∀ b o, s.heap.get? b = some o → (s.heap.push { cls := .type "list", data := .seq #[] }).get? b = some o := fun b o e => Heap.get?_push_of_some _ e
  have lz : z < s.heap.objs.size := Heap.lt_size hz
  have lTI : TI < s.heap.objs.size := Heap.lt_size hTI
  have lTO : TO < s.heap.objs.size := Heap.lt_size hTO'
  have oth : ∀ b o, b ≠ s.heap.objs.size → (s.heap.push { cls := .type "list", data := .seq #[] }).get? b = some o → ((s.heap.push { cls := .type "list", data := .seq #[] }).update s.heap.objs.size (Obj.mapSeq (fun _ => (#[] : Array Value)))).get? b = some o :=
    fun b o hb e => (Heap.get?_update_other _ _ (Ne.symm hb)).trans e
  have up2 : ∀ b o, s.heap.get? b = some o → ((s.heap.push { cls := .type "list", data := .seq #[] }).update s.heap.objs.size (Obj.mapSeq (fun _ => (#[] : Array Value)))).get? b = some o := fun b o e => oth b o (Nat.ne_of_lt (Heap.lt_size e)) (up b o e)
  refine ⟨⟨_, hS, rfl⟩, PySem.F.args_list_init_2 _ _, ?_⟩
  show wpAny _ _ (do let old ← Builtin.List.listItems (.ref s.heap.objs.size); Builtin.List.listUpdate (.ref s.heap.objs.size) (fun _ => #[]); letGo old.toList.reverse; Builtin.List.listExtendWith (.ref s.heap.objs.size) (.ref z) .none) _ _ _
  refine wpAny_bind ?_
  unfold Builtin.List.listItems
  refine wpAny_bind (wpAny_seqItems hS rfl (wpAny_pure ?_))
  show wpAny _ _ (updateSeq s.heap.objs.size (fun _ => #[]) >>= fun _ => letGo (#[] : Array Value).toList.reverse >>= fun _ => Builtin.List.listExtendWith (.ref s.heap.objs.size) (.ref z) .none) _ _ _
  refine wpAny_bind (wpAny_updateSeq hS rfl ?_)
  have hS₂ := Heap.get?_update_self (Obj.mapSeq (fun _ => (#[] : Array Value))) hS rfl
  refine wpAny_bind (wpAny_letGo ?_)
  have sz : ((s.heap.push { cls := .type "list", data := .seq #[] }).update s.heap.objs.size (Obj.mapSeq (fun _ => (#[] : Array Value)))).objs.size = s.heap.objs.size + 1 := by rw [(Heap.SameBut.update ..).1, Heap.size_push]
  refine zl_extend (A := A.in1) (s := { s with heap := (s.heap.push { cls := .type "list", data := .seq #[] }).update s.heap.objs.size (Obj.mapSeq (fun _ => (#[] : Array Value))) }) S D1 D2 (Nat.ne_of_lt lz) (Nat.ne_of_lt lTI) (Nat.ne_of_lt lTO) (fun q => Nat.lt_irrefl _ (f1 _ q)) (fun q => Nat.lt_irrefl _ (f2 _ q))
    (up2 _ _ hz) (up2 _ _ hTI) ⟨a1, a2, up2 _ _ hTO'⟩ (D1.frame _ _ _ st1 fun b _ o e => up2 b o e) (D2.frame _ _ _ st2 fun b _ o e => up2 b o e) hn .none _ hS₂ fun h' tk acc c as hk hS' hl hG hacc => ?_
  have hG : ZlG P1 P2 (((s.heap.push { cls := .type "list", data := .seq #[] }).update s.heap.objs.size (Obj.mapSeq (fun _ => (#[] : Array Value)))).objs.size - 1) h' as := hG
  rw [sz] at hG
  exact ⟨rfl, hQ h' tk acc c as (fun b o g1 g2 g3 g4 e => hk b o (Nat.ne_of_lt (Heap.lt_size e)) g1 g2 g3 g4 (up2 b o e)) hS' hl hG hacc⟩
end
end PySem
namespace Fb
open PySem PySem.Spec PyProof.Rows L2
/-- pairs tracked at their places -/
def putZ : Hp → List Addr → List (V × V) → Hp
  | H, a :: as, p :: ps => putZ (upd H a (.tup [p.1, p.2])) as ps
  | H, _, _ => H
theorem putZ_off {b : Addr} : ∀ (as : List Addr) (ps : List (V × V)) (H : Hp), b ∉ as → putZ H as ps b = H b
  | [], _, _, _ => rfl
  | _ :: _, [], _, _ => rfl
  | a :: as, p :: ps, H, h => by
    show putZ (upd H a (.tup [p.1, p.2])) as ps b = H b
    rw [putZ_off as ps _ (fun z => h (List.mem_cons_of_mem _ z)), upd_ne (fun z => h (by rw [z]; exact List.mem_cons_self))]
theorem putZ_at : ∀ (as : List Addr) (ps : List (V × V)) (H : Hp), as.length = ps.length → as.Nodup → Paired (fun (t : Addr) (p : V × V) => putZ H as ps t = some (.tup [p.1, p.2])) as ps
  | [], [], _, _, _ => .nil
  | [], _ :: _, _, h, _ => by cases h
  | _ :: _, [], _, h, _ => by cases h
  | a :: as, p :: ps, H, h, hn => by
    have hn' := List.nodup_cons.mp hn
    refine .cons ?_ (putZ_at as ps (upd H a (.tup [p.1, p.2])) (Nat.succ.inj h) hn'.2)
    show putZ (upd H a (.tup [p.1, p.2])) as ps a = some (.tup [p.1, p.2])
    rw [putZ_off as ps _ hn'.1, upd_same]
def rLZ (K : PySem.W.Frag) : List V → Hp → VK → Prop := fun vs H Q => ∃ a b xs ys, vs = [.ref a, .ref b] ∧ (SqL K H a xs ∨ SqT K H a xs) ∧ (SqL K H b ys ∨ SqT K H b ys) ∧
  ∀ as S, as.length = (xs.zip ys).length → as.Nodup → S ∉ as → H S = none → (∀ t ∈ as, H t = none) → Q (.ref S) (upd (putZ H as (xs.zip ys)) S (.lst (as.map V.ref)))
def tLZ (K : PySem.W.Frag) (t : TA) : TE := fun σ H Q => t σ H fun vs H1 => rLZ K vs H1 Q
section
variable {X : Cx}
theorem zl_laid {pins : List (Addr × Obj)} {σ : L2.St} {H : Hp} {s : Shared} {h' : Heap} {tk : Nat} {ps : List (V × V)} {acc : Array Value} {c : Nat} {as : List Addr} {S : Addr} (I : Inv X pins σ H s) (hz : ps.length ≤ sizeLine)
    (hk : ∀ b o, s.heap.get? b = some o → h'.get? b = some o) (hS : h'.get? S = some { cls := .type "list", dict := none, data := .seq acc c, slots := #[] }) (hl : as.length = ps.length) (hSs : s.heap.objs.size ≤ S) (rise : as.Pairwise (· < ·)) (above : ∀ a ∈ as, S < a)
    (hp : ∀ (j : Nat) (a : Addr), as[j]? = some a → ∃ p x y, ps[j]? = some p ∧ RelV p.1 x ∧ RelV p.2 y ∧ h'.get? a = some { cls := .type "tuple", data := .seq #[x, y] }) (hacc : acc.toList = as.map Value.ref) :
    as.Nodup ∧ S ∉ as ∧ H S = none ∧ (∀ t ∈ as, H t = none) ∧ Inv X pins σ (upd (putZ H as ps) S (.lst (as.map V.ref))) { s with heap := h', toks := tk } := by
  have hSn : S ∉ as := fun z => Nat.lt_irrefl _ (above _ z)
  have nd : as.Nodup := List.Pairwise.imp (fun {a b} (h : a < b) => Nat.ne_of_lt h) rise
  have new : ∀ t ∈ as, H t = none := fun t ht => I.hok.fresh (Nat.le_of_lt (Nat.lt_of_le_of_lt hSs (above t ht)))
  have newS : H S = none := I.hok.fresh hSs
  have atP := putZ_at as ps H hl nd
  have off : ∀ b, b ∉ as → b ≠ S → upd (putZ H as ps) S (.lst (as.map V.ref)) b = H b := fun b h1 h2 => by rw [upd_ne h2, putZ_off as ps _ h1]
  have low : ∀ b o, s.heap.get? b = some o → b ∉ as ∧ b ≠ S := fun b o e => ⟨fun z => absurd (Heap.lt_size e) (Nat.not_lt.mpr (Nat.le_of_lt (Nat.lt_of_le_of_lt hSs (above b z)))), Nat.ne_of_lt (Nat.lt_of_lt_of_le (Heap.lt_size e) hSs)⟩
  have kp : ∀ b u, H b = some u → upd (putZ H as ps) S (.lst (as.map V.ref)) b = some u := fun b u e => by
    rw [off b (fun z => by rw [new b z] at e; cases e) (fun z => by rw [z, newS] at e; cases e)]
    exact e
  refine ⟨nd, hSn, newS, new, ?_⟩
  refine I.call' (ch := []) rfl ⟨fun b o q _ _ _ => hk b o q, fun b o q _ _ _ => ⟨o.slots, hk b o q⟩, fun b o q n _ => ?_, fun b o q _ => ⟨o, hk b o q⟩, fun b xs q => kp b _ q, fun b o u q => kp b _ q, fun b ps q => ⟨#[], by rw [kp b _ q]; simp⟩⟩ (fun b u q => ?_) I.bare fun b z => by simp at z
  · obtain ⟨z1, z2⟩ := low b o q
    rw [off b z1 z2]
    exact n
  · by_cases hb2 : b = S
    · rw [hb2] at q ⊢
      rw [upd_same] at q
      cases q
      refine ⟨by rw [List.length_map]; omega, acc.toList, c, by rw [hacc]; exact LiI.vals_refs as, ?_⟩
      rw [Array.toArray_toList]
      exact hS
    · by_cases hb : b ∈ as
      · obtain ⟨j, pk, e1, e2, e3⟩ := LiI.paired_ix atP hb
        rw [upd_ne hb2, e3] at q
        cases q
        obtain ⟨p, x, y, f1, f2, f3, f4⟩ := hp j b e1
        rw [e2] at f1
        cases f1
        exact ⟨by show 2 ≤ sizeLine; decide, [x, y], .cons f2 (.cons f3 .nil), ⟨_, f4, rfl, _, rfl⟩⟩
      · rw [off b hb hb2] at q
        exact (I.hok b u q).stay (fun d v _ y => hk d v y) (fun d y => kp d _ y) fun d xs y => kp d _ y
/-- a list or tuple to be walked -/
theorem sq2 {pins : List (Addr × Obj)} {σ : L2.St} {H : Hp} {s : Shared} {a : Addr} {xs : List V} (I : Inv X pins σ H s) (h : SqL X.K H a xs ∨ SqT X.K H a xs) : ∃ (its : List Value) (o : Obj) (Hh : Heap → Prop) (St : Addr → Nat → Heap → Prop), Vals xs its ∧ xs.length ≤ sizeLine ∧ a < s.heap.objs.size ∧ Begins (.ref a) o Hh ∧ Hh s.heap ∧
    (∀ (A : Around) (it : Addr), A.handled = none → a ≠ it → Draws X.prog X.w A it [it, a] its.length (fun i v => its[i]? = some v) (St it)) ∧ ∀ it h', h'.get? it = some o → Hh h' → St it 0 h' := by
  rcases h with h | h
  · obtain ⟨its, r, pl, hz⟩ := I.list h
    have lt : a < s.heap.objs.size := by obtain ⟨_, e, _⟩ := pl.isList; exact Heap.lt_size e
    refine ⟨its, _, _, fun it i h => h.IsListIter it a i ∧ h.IsList a its.toArray, r, hz, lt, begins_list a its.toArray, pl.isList, fun A it hh hne => ?_, fun it h' e q => ⟨⟨_, e, rfl, rfl⟩, q⟩⟩
    have D := Draws.list (prog := X.prog) (w := X.w) hh it a hne its.toArray
    simpa using D
  · obtain ⟨its, r, pl, hz⟩ := I.tuple h
    have pl : s.heap.IsTuple a its.toArray := pl
    have lt : a < s.heap.objs.size := by obtain ⟨_, e, _⟩ := pl; exact Heap.lt_size e
    refine ⟨its, _, _, fun it i h => h.IsTupleIter it a i ∧ h.IsTuple a its.toArray, r, hz, lt, begins_tuple a its.toArray, pl, fun A it hh hne => ?_, fun it h' e q => ⟨⟨_, e, rfl, rfl⟩, q⟩⟩
    have D := Draws.tuple (prog := X.prog) (w := X.w) hh it a hne its.toArray
    simpa using D
/-- list(zip(a, b)) -/
theorem pe_lz {e e2 : Expr} {t : TA} {p p2 pos pos2 : Pos} (hc : X.calm = true) (hg : Gl X "list") (hm : X.mg "list" = none) (hg2 : Gl X "zip") (hm2 : X.mg "zip" = none) (ha : PA X [e, e2] t)
    (hs1 : starEach [e, e2] X.env = (false, eval e X.env) :: starEach [e2] X.env) (hpl : (backTo pos2 (starEach [e2] X.env)).any (·.1) = false)
    (hs : starEach [.Call (.Name "zip" p2) [e, e2] [] pos2] X.env = (false, eval (.Call (.Name "zip" p2) [e, e2] [] pos2) X.env) :: starEach [] X.env := by rfl) :
    PE X (.Call (.Name "list" p) [.Call (.Name "zip" p2) [e, e2] [] pos2] [] pos) (tLZ X.K t) := by
  refine ⟨fun pins s σ H Q I hq => ?_⟩
  refine wpAny_Call_Name_kw (ld_blt I hg hm (by decide +kernel : bootBuiltins "list" = some (.type "list")) ?_)
  refine PyProof.Rows.callWith_type1 ?_ hs rfl
  rw [hs]
  show wpAny _ _ (spliced ((false, eval (.Call (.Name "zip" p2) [e, e2] [] pos2) X.env) :: backTo pos (starEach [] X.env))) _ _ s
  refine Calls.spliced_cons ?_
  refine wpAny_Call_Name_kw (ld_blt I hg2 hm2 (by decide +kernel : bootBuiltins "zip" = some (.type "zip")) ?_)
  refine PyProof.Rows.callWith_type1 (thn (ha.run pos2 pins s σ H _ I hq) fun us s1 ⟨vs, H1, I1, r1, q1⟩ => ?_) hs1 hpl
  obtain ⟨a, b, xs, ys, rfl, ha1, hb1, q⟩ := q1
  cases r1 with
  | cons ra r2 =>
    cases r2 with
    | cons rb r3 =>
      cases r3
      cases ra
      cases rb
      obtain ⟨xi, o1, Hh1, St1, rx, zx, lta, B1, k1, D1, s1'⟩ := sq2 I1 ha1
      obtain ⟨yi, o2, Hh2, St2, ry, zy, ltb, B2, k2, D2, s2'⟩ := sq2 I1 hb1
      refine zip_begins2 B1 B2 k1 k2 fun h' c1 c2 c3 c4 c5 c6 c7 => ?_
      refine Calls.spliced_nil ?_
      have hd := I1.ok.hd hc
      have lx := rx.length
      have ly := ry.length
      have E1 := D1 (X.A.in1.in1.in1) s1.heap.objs.size hd (Nat.ne_of_lt lta)
      have E2 := D2 (X.A.in1.in1.in1) (s1.heap.objs.size + 1) hd (Nat.ne_of_lt (Nat.lt_succ_of_lt ltb))
      refine zl_call (s := { s1 with heap := h' }) (zip_sep2 (N := s1.heap.objs.size) (fp1 := [a]) (fp2 := [b]) (by simpa using lta) (by simpa using ltb)) E1 E2 ?_ ?_ c1 c2 ⟨_, _, c3⟩ (s1' _ _ c4 (B1.keeps _ _ k1 c7)) (s2' _ _ c5 (B2.keeps _ _ k2 c7)) (by omega) fun h2 tk acc c as hk hS hl hG hacc => ?_
      · intro x hx
        have hx : x = s1.heap.objs.size ∨ x = a := by simpa using hx
        show x < h'.objs.size
        rw [c6]
        rcases hx with rfl | rfl
        · exact Nat.lt_add_of_pos_right (by decide)
        · exact Nat.lt_of_lt_of_le lta (Nat.le_add_right _ _)
      · intro x hx
        have hx : x = s1.heap.objs.size + 1 ∨ x = b := by simpa using hx
        show x < h'.objs.size
        rw [c6]
        rcases hx with rfl | rfl
        · exact Nat.add_lt_add_left (by decide) _
        · exact Nat.lt_of_lt_of_le ltb (Nat.le_add_right _ _)
      · have hlz : (xs.zip ys).length = min xs.length ys.length := List.length_zip
        have out : ∀ b o, s1.heap.get? b = some o → h2.get? b = some o := fun b o e => by
          have lt := Heap.lt_size e
          exact hk b o (Nat.ne_of_lt (Nat.lt_of_lt_of_le lt (Nat.le_add_right _ _))) (Nat.ne_of_lt (Nat.lt_of_lt_of_le lt (Nat.le_add_right _ _))) (Nat.ne_of_lt lt) (Nat.ne_of_lt (Nat.lt_succ_of_lt lt)) (c7 b o e)
        have hsz : h'.objs.size = s1.heap.objs.size + 5 := c6
        obtain ⟨n1, n2, n3, n4, J⟩ := zl_laid (tk := tk) (ps := xs.zip ys) I1 (by omega) out hS (by rw [hl]; omega) (by show s1.heap.objs.size ≤ h'.objs.size; rw [hsz]; exact Nat.le_add_right _ _) hG.rise hG.above (fun j t hj => by
          obtain ⟨x, y, e1, e2, e3⟩ := hG.pairs j t hj
          obtain ⟨x', f1, f2⟩ := LiI.paired_get (F := fun (u : Value) (v : V) => RelV v u) (by
            have : ∀ {as : List V} {bs : List Value}, Vals as bs → Paired (fun (u : Value) (v : V) => RelV v u) bs as := by
              intro as bs r
              induction r with
              | nil => exact .nil
              | cons r _ ih => exact .cons r ih
            exact this rx) e1
          obtain ⟨y', g1, g2⟩ := LiI.paired_get (F := fun (u : Value) (v : V) => RelV v u) (by
            have : ∀ {as : List V} {bs : List Value}, Vals as bs → Paired (fun (u : Value) (v : V) => RelV v u) bs as := by
              intro as bs r
              induction r with
              | nil => exact .nil
              | cons r _ ih => exact .cons r ih
            exact this ry) e2
          exact ⟨(x', y'), x, y, by rw [List.getElem?_zip_eq_some]; exact ⟨f1, g1⟩, f2, g2, e3⟩) hacc
        exact ⟨.ref h'.objs.size, _, J, rfl, q as _ (by rw [hl]; omega) n1 n2 n3 n4⟩
end
end Fb
set_option Elab.async false
set_option linter.all false
set_option maxRecDepth 100000
set_option maxHeartbeats 1000000
/-! Fb2: how plain data lie in the layer's heap; how heaps grow. -/
namespace Fb
open PySem PySem.Spec PyProof.Rows L2
abbrev SO (x : List Nat) : Str := ⟨x.toArray⟩
theorem SO_inj {x y : List Nat} (h : SO x = SO y) : x = y := by
  have := congrArg (fun z : Str => z.cps.toList) h
  simpa using this
theorem SO_len (x : List Nat) : (SO x).length = x.length := by simp [SO, Str.length]
abbrev Fg := PySem.W.Frag
/-- a tuple, a list of the written part -/
def KT (K : Fg) (a : Addr) (vs : List V) : Prop :=
  ∃ (o : Obj) (its : Array Value) (n : Nat), K.lookup a = some o ∧ o.cls = .type "tuple" ∧ o.data = .seq its n ∧ its.size ≤ sizeLine ∧ Vals vs its.toList
def KL (K : Fg) (a : Addr) (vs : List V) : Prop :=
  ∃ (o : Obj) (its : Array Value) (n : Nat), K.lookup a = some o ∧ o.cls = .type "list" ∧ o.dict = none ∧ o.data = .seq its n ∧ its.size ≤ sizeLine ∧ Vals vs its.toList
def QT (K : Fg) (m : List Addr) (H : Hp) (a : Addr) (vs : List V) : Prop := (Rd H a (.tup vs) ∧ a ∉ m) ∨ KT K a vs
def QL (B m : List Addr) (H : Hp) (a : Addr) (vs : List V) : Prop := H a = some (.lst vs) ∧ a ∉ B ∧ a ∉ m
def QR (K : Fg) (B m : List Addr) (H : Hp) (a : Addr) (vs : List V) : Prop := (Rd H a (.lst vs) ∧ a ∉ B ∧ a ∉ m) ∨ KL K a vs
theorem QT.sq {K : Fg} {m : List Addr} {H : Hp} {a : Addr} {vs : List V} (h : QT K m H a vs) : SqT K H a vs := h.imp (·.1) id
theorem QL.sq {K : Fg} {B m : List Addr} {H : Hp} {a : Addr} {vs : List V} (h : QL B m H a vs) : SqL K H a vs := SqL.of h.1
theorem QR.sq {K : Fg} {B m : List Addr} {H : Hp} {a : Addr} {vs : List V} (h : QR K B m H a vs) : SqL K H a vs := h.imp (·.1) id
/-- signs as Python has them -/
def okS (x : List Nat) : Bool := x.all fun c => decide (c < 1114112)
theorem okS_app {x y : List Nat} (h : okS x = true) (k : okS y = true) : okS (x ++ y) = true := by unfold okS at *; rw [List.all_append, h, k]; rfl
theorem okS_sub {x y : List Nat} (h : okS x = true) (k : ∀ c ∈ y, c ∈ x) : okS y = true := List.all_eq_true.mpr fun c hc => List.all_eq_true.mp h c (k c hc)
mutual
inductive RelD (K : Fg) (B m : List Addr) (H : Hp) : D → V → Prop
  | non : RelD K B m H .non .non
  | bl (b : Bool) : RelD K B m H (.bl b) (.bl b)
  | int (i : Int) : RelD K B m H (.int i) (.int i)
  | str (x : List Nat) : okS x = true → RelD K B m H (.str x) (.str (SO x))
  | tup {ds : List D} {a : Addr} {vs : List V} : QT K m H a vs → RelDs K B m H ds vs → RelD K B m H (.tup ds) (.ref a)
  | lst {ds : List D} {a : Addr} {vs : List V} : QL B m H a vs → RelDs K B m H ds vs → RelD K B m H (.lst ds) (.ref a)
  | ro {ds : List D} {a : Addr} {vs : List V} : QR K B m H a vs → RelDs K B m H ds vs → RelD K B m H (.ro ds) (.ref a)
  | cell {n : Nat} {a : Addr} : m[n]? = some a → RelD K B m H (.cell n) (.ref a)
inductive RelDs (K : Fg) (B m : List Addr) (H : Hp) : List D → List V → Prop
  | nil : RelDs K B m H [] []
  | cons {d : D} {v : V} {ds : List D} {vs : List V} : RelD K B m H d v → RelDs K B m H ds vs → RelDs K B m H (d :: ds) (v :: vs)
end
section
variable {K : Fg} {B B' m m' m'' : List Addr} {H H' H'' : Hp} {S S' S'' : Store}
/-- transport along what is kept -/
structure Tr (K : Fg) (B m B' m' : List Addr) (H H' : Hp) : Prop where
  tup : ∀ (a : Addr) (vs : List V), Rd H a (.tup vs) → a ∉ m → Rd H' a (.tup vs) ∧ a ∉ m'
  obj : ∀ (a : Addr) (u : HO), H a = some u → a ∉ B → a ∉ m → H' a = some u ∧ a ∉ B' ∧ a ∉ m'
  cell : ∀ (n : Nat) (a : Addr), m[n]? = some a → m'[n]? = some a
theorem Tr.rd (t : Tr K B m B' m' H H') {a : Addr} {u : HO} (h : Rd H a u) (hb : a ∉ B) (hm : a ∉ m) : Rd H' a u ∧ a ∉ B' ∧ a ∉ m' := by
  rcases h with h | ⟨o, h⟩
  · obtain ⟨h1, h2⟩ := t.obj a _ h hb hm
    exact ⟨.inl h1, h2⟩
  · obtain ⟨h1, h2⟩ := t.obj a _ h hb hm
    exact ⟨.inr ⟨o, h1⟩, h2⟩
mutual
theorem RelD.tr (t : Tr K B m B' m' H H') : ∀ {d : D} {v : V}, RelD K B m H d v → RelD K B' m' H' d v
  | _, _, .non => .non
  | _, _, .bl b => .bl b
  | _, _, .int i => .int i
  | _, _, .str x h => .str x h
  | _, _, .tup q r => .tup (q.imp (fun h => t.tup _ _ h.1 h.2) id) (RelDs.tr t r)
  | _, _, .lst q r => .lst (t.obj _ _ q.1 q.2.1 q.2.2) (RelDs.tr t r)
  | _, _, .ro q r => .ro (q.imp (fun h => t.rd h.1 h.2.1 h.2.2) id) (RelDs.tr t r)
  | _, _, .cell e => .cell (t.cell _ _ e)
theorem RelDs.tr (t : Tr K B m B' m' H H') : ∀ {ds : List D} {vs : List V}, RelDs K B m H ds vs → RelDs K B' m' H' ds vs
  | _, _, .nil => .nil
  | _, _, .cons r s => .cons (RelD.tr t r) (RelDs.tr t s)
end
theorem RelDs.len : ∀ {ds : List D} {vs : List V}, RelDs K B m H ds vs → ds.length = vs.length
  | _, _, .nil => rfl
  | _, _, .cons _ s => by rw [List.length_cons, List.length_cons, s.len]
theorem RelDs.app : ∀ {ds es : List D} {vs us : List V}, RelDs K B m H ds vs → RelDs K B m H es us → RelDs K B m H (ds ++ es) (vs ++ us)
  | _, _, _, _, .nil, t => t
  | _, _, _, _, .cons r s, t => .cons r (s.app t)
theorem RelDs.get : ∀ {ds : List D} {vs : List V} {i : Nat} {d : D}, RelDs K B m H ds vs → ds[i]? = some d → ∃ v, vs[i]? = some v ∧ RelD K B m H d v
  | _, _, _, _, .nil, e => by simp at e
  | _, _, 0, _, .cons r _, e => by simp at e; subst e; exact ⟨_, rfl, r⟩
  | _, _, i + 1, d, .cons _ s, e => by
    obtain ⟨v, h1, h2⟩ := s.get (i := i) (d := d) (by simpa using e)
    exact ⟨v, by simpa using h1, h2⟩
theorem RelDs.getV : ∀ {ds : List D} {vs : List V} {i : Nat} {v : V}, RelDs K B m H ds vs → vs[i]? = some v → ∃ d, ds[i]? = some d ∧ RelD K B m H d v
  | _, _, _, _, .nil, e => by simp at e
  | _, _, 0, _, .cons r _, e => by simp at e; subst e; exact ⟨_, rfl, r⟩
  | _, _, i + 1, d, .cons _ s, e => by
    obtain ⟨v, h1, h2⟩ := s.getV (i := i) (v := d) (by simpa using e)
    exact ⟨v, by simpa using h1, h2⟩
theorem RelDs.take : ∀ {ds : List D} {vs : List V} (n : Nat), RelDs K B m H ds vs → RelDs K B m H (ds.take n) (vs.take n)
  | _, _, 0, _ => .nil
  | _, _, _ + 1, .nil => .nil
  | _, _, n + 1, .cons r s => .cons r (s.take n)
theorem RelDs.drop : ∀ {ds : List D} {vs : List V} (n : Nat), RelDs K B m H ds vs → RelDs K B m H (ds.drop n) (vs.drop n)
  | _, _, 0, r => r
  | _, _, _ + 1, .nil => .nil
  | _, _, n + 1, .cons _ s => s.drop n
theorem RelDs.rev : ∀ {ds : List D} {vs : List V}, RelDs K B m H ds vs → RelDs K B m H ds.reverse vs.reverse
  | _, _, .nil => .nil
  | _, _, .cons r s => by rw [List.reverse_cons, List.reverse_cons]; exact s.rev.app (.cons r .nil)
theorem RelDs.rep {ds : List D} {vs : List V} (r : RelDs K B m H ds vs) : ∀ n : Nat, RelDs K B m H (List.replicate n ds).flatten (List.replicate n vs).flatten
  | 0 => .nil
  | n + 1 => by rw [List.replicate_succ, List.replicate_succ, List.flatten_cons, List.flatten_cons]; exact r.app (r.rep n)
theorem RelDs.setAt : ∀ {ds : List D} {vs : List V} {d : D} {v : V} (n : Nat), RelDs K B m H ds vs → RelD K B m H d v → RelDs K B m H (ds.set n d) (vs.set n v)
  | _, _, _, _, _, .nil, _ => .nil
  | _, _, _, _, 0, .cons _ s, q => .cons q s
  | _, _, _, _, n + 1, .cons r s, q => .cons r (s.setAt n q)
theorem RelDs.dropLast : ∀ {ds : List D} {vs : List V}, RelDs K B m H ds vs → RelDs K B m H ds.dropLast vs.dropLast
  | ds, vs, h => by
    rw [List.dropLast_eq_take, List.dropLast_eq_take, h.len]
    exact h.take _
theorem RelDs.erase : ∀ {ds : List D} {vs : List V} (n : Nat), RelDs K B m H ds vs → RelDs K B m H (ds.eraseIdx n) (vs.eraseIdx n)
  | _, _, _, .nil => .nil
  | _, _, 0, .cons _ s => s
  | _, _, n + 1, .cons r s => .cons r (s.erase n)

/-! ### the store -/
def CRel (K : Fg) (B m : List Addr) (H : Hp) : Cell → Addr → Prop
  | .lst ds, a => ∃ vs, H a = some (.lst vs) ∧ RelDs K B m H ds vs
structure At (K : Fg) (B m : List Addr) (S : Store) (H : Hp) : Prop where
  len : S.length = m.length
  nd : (B ++ m).Nodup
  live : ∀ a ∈ B, H a ≠ none
  cells : ∀ (i : Nat) (c : Cell) (a : Addr), S[i]? = some c → m[i]? = some a → CRel K B m H c a
theorem At.mlive (t : At K B m S H) {a : Addr} (h : a ∈ m) : ∃ vs, H a = some (.lst vs) := by
  obtain ⟨i, hi, e⟩ := List.getElem_of_mem h
  have hs : i < S.length := by rw [t.len]; exact hi
  have q := t.cells i S[i] a (List.getElem?_eq_getElem hs) (by rw [List.getElem?_eq_getElem hi, e])
  cases hc : S[i] with
  | lst ds =>
    rw [hc] at q
    obtain ⟨vs, h1, _⟩ := q
    exact ⟨vs, h1⟩
theorem At.fresh (t : At K B m S H) {a : Addr} (h : H a = none) : a ∉ B ∧ a ∉ m := by
  refine ⟨fun hb => t.live a hb h, fun hm => ?_⟩
  obtain ⟨vs, e⟩ := t.mlive hm
  rw [h] at e
  cases e
theorem At.apart (t : At K B m S H) {a : Addr} (h : a ∈ B) : a ∉ m := fun hm => (List.nodup_append.mp t.nd).2.2 a h a hm rfl
/-- how the heap and the cells' places go on -/
structure Le (m m' : List Addr) (H H' : Hp) : Prop where
  pre : ∃ r, m' = m ++ r ∧ ∀ a ∈ r, H a = none
  keep : ∀ (a : Addr) (o : HO), H a = some o → a ∉ m → H' a = some o
theorem Le.refl : Le m m H H := ⟨⟨[], by simp, fun _ h => by cases h⟩, fun _ _ e _ => e⟩
theorem Le.trans (t : At K B m S H) (t' : At K B m' S' H') (x : Le m m' H H') (y : Le m' m'' H' H'') : Le m m'' H H'' := by
  obtain ⟨r, e, hr⟩ := x.pre
  obtain ⟨r', e', hr'⟩ := y.pre
  refine ⟨⟨r ++ r', by rw [e', e, List.append_assoc], fun a ha => ?_⟩, fun a o ho ha => ?_⟩
  · rcases List.mem_append.mp ha with h | h
    · exact hr a h
    · cases q : H a with
      | none => rfl
      | some o =>
        have n := hr' a h
        by_cases hm : a ∈ m
        · obtain ⟨vs, e2⟩ := t'.mlive (a := a) (by rw [e]; exact List.mem_append_left _ hm)
          rw [n] at e2; cases e2
        · rw [x.keep a o q hm] at n; cases n
  · refine y.keep a o (x.keep a o ho ha) fun h => ?_
    rw [e] at h
    rcases List.mem_append.mp h with h | h
    · exact ha h
    · rw [hr a h] at ho; cases ho
theorem Le.tr (t : At K B m S H) (x : Le m m' H H') : Tr K B m B m' H H' := by
  obtain ⟨r, e, hr⟩ := x.pre
  have nr : ∀ {a : Addr} {u : HO}, Rd H a u → a ∉ r := fun {a u} h z => by
    rcases h with h | ⟨o, h⟩ <;> rw [hr _ z] at h <;> cases h
  have kp : ∀ {a : Addr} {u : HO}, Rd H a u → a ∉ m → Rd H' a u := fun {a u} h hm => by
    rcases h with h | ⟨o, h⟩
    · exact .inl (x.keep _ _ h hm)
    · exact .inr ⟨o, x.keep _ _ h hm⟩
  refine ⟨fun a vs h hm => ⟨kp h hm, fun z => ?_⟩, fun a u h hb hm => ⟨x.keep a u h hm, hb, fun z => ?_⟩, fun n a h => ?_⟩
  · rw [e] at z
    exact (List.mem_append.mp z).elim hm (nr h)
  · rw [e] at z
    exact (List.mem_append.mp z).elim hm (nr (.inl h))
  · rw [e]
    exact (List.getElem?_append_left (List.getElem?_eq_some_iff.mp h).1).trans h
theorem Le.live (t' : At K B m' S' H') (x : Le m m' H H') {a : Addr} (h : H a ≠ none) : H' a ≠ none := by
  obtain ⟨r, e, hr⟩ := x.pre
  intro n
  by_cases hm : a ∈ m
  · obtain ⟨vs, e2⟩ := t'.mlive (a := a) (by rw [e]; exact List.mem_append_left _ hm)
    rw [n] at e2; cases e2
  · cases q : H a with
    | none => exact h q
    | some o => rw [x.keep a o q hm] at n; cases n
/-- a new object that is no cell -/
theorem Le.new (t : At K B m S H) {p : Addr} {o : HO} (h : H p = none) : Le m m H (upd H p o) := ⟨⟨[], by simp, fun _ z => by cases z⟩, fun a u e _ => by rw [upd_ne (ne_of_none e h)]; exact e⟩
theorem At.new (t : At K B m S H) {p : Addr} {o : HO} (h : H p = none) : At K B m S (upd H p o) := by
  have x : Le m m H (upd H p o) := Le.new t h
  have f := t.fresh h
  refine ⟨t.len, t.nd, fun a ha => ?_, fun i c a hc ha => ?_⟩
  · rw [upd_ne (fun z => f.1 (by rw [← z]; exact ha))]; exact t.live a ha
  · have q := t.cells i c a hc ha
    cases c with
    | lst ds =>
      obtain ⟨vs, e, r⟩ := q
      refine ⟨vs, ?_, r.tr (x.tr t)⟩
      rw [upd_ne (ne_of_none e h)]; exact e
/-- a new cell -/
theorem Le.grow (t : At K B m S H) {p : Addr} {o : HO} (h : H p = none) : Le m (m ++ [p]) H (upd H p o) :=
  ⟨⟨[p], rfl, fun a ha => by rw [List.mem_singleton.mp ha]; exact h⟩, fun a u e _ => by rw [upd_ne (ne_of_none e h)]; exact e⟩
theorem At.grow (t : At K B m S H) {p : Addr} {ds : List D} {vs : List V} (h : H p = none) (r : RelDs K B m H ds vs) : At K B (m ++ [p]) (S ++ [.lst ds]) (upd H p (.lst vs)) := by
  have x : Le m (m ++ [p]) H (upd H p (.lst vs)) := Le.grow t h
  have f := t.fresh h
  refine ⟨by simp [t.len], ?_, fun a ha => ?_, fun i c a hc ha => ?_⟩
  · rw [← List.append_assoc]
    refine List.nodup_append.mpr ⟨t.nd, by simp, fun a ha b hb e => ?_⟩
    rw [List.mem_singleton.mp hb] at e
    rw [e] at ha
    exact (List.mem_append.mp ha).elim f.1 f.2
  · rw [upd_ne (fun z => f.1 (by rw [← z]; exact ha))]; exact t.live a ha
  · by_cases hi : i < S.length
    · rw [List.getElem?_append_left hi] at hc
      rw [List.getElem?_append_left (by rw [← t.len]; exact hi)] at ha
      have q := t.cells i c a hc ha
      cases c with
      | lst ds' =>
        obtain ⟨vs', e, r'⟩ := q
        refine ⟨vs', ?_, r'.tr (x.tr t)⟩
        rw [upd_ne (ne_of_none e h)]; exact e
    · have hl : i = S.length := by
        have := (List.getElem?_eq_some_iff.mp hc).1
        simp at this
        omega
      subst hl
      rw [List.getElem?_append_right (Nat.le_refl _)] at hc
      rw [t.len, List.getElem?_append_right (Nat.le_refl _)] at ha
      simp at hc ha
      subst hc; subst ha
      exact ⟨vs, upd_same, r.tr (x.tr t)⟩
/-- a cell is written -/
theorem Le.put (t : At K B m S H) {n : Nat} {p : Addr} {o : HO} (hp : m[n]? = some p) : Le m m H (upd H p o) :=
  ⟨⟨[], by simp, fun _ z => by cases z⟩, fun a u e ha => by rw [upd_ne (fun z => ha (by rw [z]; exact List.mem_of_getElem? hp))]; exact e⟩
theorem At.put (t : At K B m S H) {n : Nat} {p : Addr} {ds : List D} {vs : List V} (hp : m[n]? = some p) (r : RelDs K B m H ds vs) : At K B m (S.set n (.lst ds)) (upd H p (.lst vs)) := by
  have x : Le m m H (upd H p (.lst vs)) := Le.put t hp
  have hm := List.mem_of_getElem? hp
  refine ⟨by simp [t.len], t.nd, fun a ha => ?_, fun i c a hc ha => ?_⟩
  · rw [upd_ne (fun z => t.apart ha (by rw [z]; exact hm))]; exact t.live a ha
  · by_cases hi : n = i
    · subst hi
      rw [hp] at ha
      cases ha
      rw [List.getElem?_set_self (by have := (List.getElem?_eq_some_iff.mp hp).1; rw [t.len]; exact this)] at hc
      cases hc
      exact ⟨vs, upd_same, r.tr (x.tr t)⟩
    · rw [List.getElem?_set_ne hi] at hc
      have hne : a ≠ p := fun e => hi (by
        subst e
        have nd := (List.nodup_append.mp t.nd).2.1
        obtain ⟨h1, e1⟩ := List.getElem?_eq_some_iff.mp hp
        obtain ⟨h2, e2⟩ := List.getElem?_eq_some_iff.mp ha
        exact (List.getElem_inj nd).mp (e1.trans e2.symm))
      have q := t.cells i c a hc ha
      cases c with
      | lst ds' =>
        obtain ⟨vs', e, r'⟩ := q
        exact ⟨vs', by rw [upd_ne hne]; exact e, r'.tr (x.tr t)⟩

/-! ### reading a relation -/
theorem RelD.str_of {x : List Nat} {v : V} (h : RelD K B m H (.str x) v) : v = .str (SO x) := by cases h; rfl
theorem RelD.str_ok {x : List Nat} {v : V} (h : RelD K B m H (.str x) v) : okS x = true := by cases h; assumption
theorem RelD.int_of {x : Int} {v : V} (h : RelD K B m H (.int x) v) : v = .int x := by cases h; rfl
theorem RelD.bl_of {x : Bool} {v : V} (h : RelD K B m H (.bl x) v) : v = .bl x := by cases h; rfl
theorem RelD.non_of {v : V} (h : RelD K B m H .non v) : v = .non := by cases h; rfl
theorem RelD.tup_of {ds : List D} {v : V} (h : RelD K B m H (.tup ds) v) : ∃ a vs, v = .ref a ∧ SqT K H a vs ∧ RelDs K B m H ds vs := by
  cases h with
  | tup q r => exact ⟨_, _, rfl, q.sq, r⟩
theorem RelD.cell_of {n : Nat} {v : V} (h : RelD K B m H (.cell n) v) : ∃ a, v = .ref a ∧ m[n]? = some a := by
  cases h with
  | cell e => exact ⟨_, rfl, e⟩
/-- a list in either mode -/
theorem RelD.lst_of (t : At K B m S H) {d : D} {xs : List D} {v : V} (h : RelD K B m H d v) (e : lstOf S d = some xs) : ∃ a vs, v = .ref a ∧ SqL K H a vs ∧ RelDs K B m H xs vs := by
  cases h with
  | lst q r =>
    cases e
    exact ⟨_, _, rfl, q.sq, r⟩
  | ro q r =>
    cases e
    exact ⟨_, _, rfl, q.sq, r⟩
  | @cell n a e1 =>
    have e2 : (match S[n]? with
      | some (.lst xs) => some xs
      | none => none) = some xs := e
    cases q : S[n]? with
    | none => rw [q] at e2; cases e2
    | some c =>
      cases c with
      | lst ys =>
        rw [q] at e2
        cases e2
        obtain ⟨vs, h1, r⟩ := t.cells n _ a q e1
        exact ⟨a, vs, rfl, SqL.of h1, r⟩
  | _ => cases e
theorem RelD.own_of (t : At K B m S H) {d : D} {xs : List D} {v : V} (h : RelD K B m H d v) (e : ownOf S d = some xs) : ∃ a vs, v = .ref a ∧ H a = some (.lst vs) ∧ RelDs K B m H xs vs := by
  cases h with
  | lst q r =>
    cases e
    exact ⟨_, _, rfl, q.1, r⟩
  | @cell n a e1 =>
    have e2 : (match S[n]? with
      | some (.lst xs) => some xs
      | none => none) = some xs := e
    cases q : S[n]? with
    | none => rw [q] at e2; cases e2
    | some c =>
      cases c with
      | lst ys =>
        rw [q] at e2
        cases e2
        obtain ⟨vs, h1, r⟩ := t.cells n _ a q e1
        exact ⟨a, vs, rfl, h1, r⟩
  | _ => cases e
theorem RelD.seq_of (t : At K B m S H) {d : D} {xs : List D} {v : V} (h : RelD K B m H d v) (e : seqOf S d = some xs) : ∃ a vs, v = .ref a ∧ (SqL K H a vs ∨ SqT K H a vs) ∧ RelDs K B m H xs vs := by
  cases d with
  | tup ys =>
    cases e
    obtain ⟨a, vs, h1, h2, h3⟩ := h.tup_of
    exact ⟨a, vs, h1, .inr h2, h3⟩
  | lst ys =>
    obtain ⟨a, vs, h1, h2, h3⟩ := h.lst_of t (xs := xs) e
    exact ⟨a, vs, h1, .inl h2, h3⟩
  | ro ys =>
    obtain ⟨a, vs, h1, h2, h3⟩ := h.lst_of t (xs := xs) e
    exact ⟨a, vs, h1, .inl h2, h3⟩
  | cell n =>
    obtain ⟨a, vs, h1, h2, h3⟩ := h.lst_of t (xs := xs) e
    exact ⟨a, vs, h1, .inl h2, h3⟩
  | _ => cases e
theorem RelD.new_tup (t : At K B m S H) {p : Addr} {ds : List D} {vs : List V} (h : H p = none) (r : RelDs K B m H ds vs) : RelD K B m (upd H p (.tup vs)) (.tup ds) (.ref p) :=
  .tup (.inl ⟨.inl upd_same, (t.fresh h).2⟩) (r.tr ((Le.new t h).tr t))
theorem RelD.new_lst (t : At K B m S H) {p : Addr} {ds : List D} {vs : List V} (h : H p = none) (r : RelDs K B m H ds vs) : RelD K B m (upd H p (.lst vs)) (.lst ds) (.ref p) :=
  .lst ⟨upd_same, (t.fresh h).1, (t.fresh h).2⟩ (r.tr ((Le.new t h).tr t))

/-! ### slots -/
def RelE (K : Fg) (B m : List Addr) (H : Hp) (δ : Ev) (σ : L2.St) : Prop := δ.length = σ.length ∧ ∀ (i : Nat) (d : D), δ[i]? = some (some d) → ∃ v, σ[i]? = some (some v) ∧ RelD K B m H d v
theorem RelE.tr {δ : Ev} {σ : L2.St} (r : RelE K B m H δ σ) (t : Tr K B m B' m' H H') : RelE K B' m' H' δ σ := ⟨r.1, fun i d e => let ⟨v, h1, h2⟩ := r.2 i d e; ⟨v, h1, h2.tr t⟩⟩
theorem RelE.set {δ : Ev} {σ : L2.St} (r : RelE K B m H δ σ) {d : D} {v : V} (q : RelD K B m H d v) (i : Nat) : RelE K B m H (δ.set i (some d)) (σ.set i (some v)) := by
  refine ⟨by simp [r.1], fun j e hj => ?_⟩
  by_cases hi : i = j
  · subst hi
    by_cases hl : i < δ.length
    · rw [List.getElem?_set_self hl] at hj
      cases hj
      exact ⟨v, List.getElem?_set_self (by rw [← r.1]; exact hl), q⟩
    · rw [List.getElem?_eq_none (by simpa using hl)] at hj
      cases hj
  · rw [List.getElem?_set_ne hi] at hj
    obtain ⟨u, h1, h2⟩ := r.2 j e hj
    exact ⟨u, by rw [List.getElem?_set_ne hi]; exact h1, h2⟩
theorem RelE.unset {δ : Ev} {σ : L2.St} (r : RelE K B m H δ σ) (i : Nat) : RelE K B m H (δ.set i none) (σ.set i none) := by
  refine ⟨by simp [r.1], fun j e hj => ?_⟩
  by_cases hi : i = j
  · subst hi
    by_cases hl : i < δ.length
    · rw [List.getElem?_set_self hl] at hj
      cases hj
    · rw [List.getElem?_eq_none (by simpa using hl)] at hj
      cases hj
  · rw [List.getElem?_set_ne hi] at hj
    obtain ⟨u, h1, h2⟩ := r.2 j e hj
    exact ⟨u, by rw [List.getElem?_set_ne hi]; exact h1, h2⟩
theorem RelE.wipe {δ : Ev} {σ : L2.St} (r : RelE K B m H δ σ) : ∀ vs : List Nat, RelE K B m H (wipeE δ vs) (wipe σ vs)
  | [] => r
  | v :: vs => (r.wipe vs).unset v
theorem join_some {δ : Ev} {i : Nat} {d : D} (h : δ[i]?.join = some d) : δ[i]? = some (some d) := by
  cases e : δ[i]? with
  | none => rw [e] at h; cases h
  | some o => rw [e] at h; exact congrArg some h
theorem start_rel {ds : List D} {vs : List V} (r : RelDs K B m H ds vs) {N : List Str} : RelE K B m H (ds.map some ++ List.replicate (N.length - ds.length) none) (L2.start N vs) := by
  unfold L2.start
  refine ⟨by simp [r.len], fun i d e => ?_⟩
  by_cases hi : i < ds.length
  · rw [List.getElem?_append_left (by simpa using hi), List.getElem?_map] at e
    cases q : ds[i]? with
    | none => rw [q] at e; cases e
    | some d' =>
      rw [q] at e
      cases e
      obtain ⟨v, h1, h2⟩ := r.get q
      refine ⟨v, ?_, h2⟩
      rw [List.getElem?_append_left (by have := r.len; simp; omega), List.getElem?_map, h1]
      rfl
  · rw [List.getElem?_append_right (by simpa using hi), List.getElem?_replicate] at e
    split at e <;> cases e
end
end Fb
set_option Elab.async false
set_option linter.all false
set_option maxRecDepth 100000
set_option maxHeartbeats 1000000
/-! Fb3: what the evaluator's answers ask of the layer; operators by values. -/
namespace Fb
open PySem PySem.Spec PyProof.Rows L2
abbrev Xt := List (Addr × List Str)
def ExRel (K : Fg) (Z : Xt) (B m : List Addr) (H : Hp) (c : Nat) (as : List D) (cls : Value) (dd : Option Addr) : Prop :=
  ∃ C fns p fs vs, Z[c]? = some (C, fns) ∧ cls = .ref C ∧ dd = some p ∧ H p = some (.xd fs) ∧ RelDs K B m H as vs ∧ fns.length = vs.length ∧
    ∀ (i : Nat) (f : Str), fns[i]? = some f → fs.lookup f = vs[i]?
/-- what an answer asks -/
def FinG (K : Fg) (Z : Xt) (B m : List Addr) (H : Hp) (W : XK) {α : Type} (r : Res α) (P : α → Store → List Addr → Hp → Prop) : Prop := match r with
  | .ok a S' => ∀ m' H', Le m m' H H' → At K B m' S' H' → P a S' m' H'
  | .exc c as S' => ∀ cls dd m' H', Le m m' H H' → At K B m' S' H' → ExRel K Z B m' H' c as cls dd → W cls dd H'
  | .bad => False
/-- a list that was just made: H ahead of all, H2 without it -/
structure Fresh (K : Fg) (B m' : List Addr) (S' : Store) (H H' : Hp) (d : D) (v : V) : Prop where
  of : ∀ xs, d = .lst xs → ∃ a vs H2, v = .ref a ∧ H a = none ∧ H2 a = none ∧ H' = upd H2 a (.lst vs) ∧ At K B m' S' H2 ∧ RelDs K B m' H2 xs vs
def PD (K : Fg) (B : List Addr) (H : Hp) (fr : Bool) (Q : VK) (d : D) (S' : Store) (m' : List Addr) (H' : Hp) : Prop :=
  ∀ v, RelD K B m' H' d v → (fr = true → Fresh K B m' S' H H' d v) → Q v H'
section
variable {K : Fg} {Z : Xt} {B m m0 m1 m' : List Addr} {H H0 H1 H' : Hp} {S S0 S1 S' : Store} {W : XK} {α β : Type}
theorem FinG.rebase {r : Res α} {P : α → Store → List Addr → Hp → Prop} (t : At K B m S H) (t0 : At K B m0 S0 H0) (l : Le m m0 H H0) (h : FinG K Z B m H W r P) : FinG K Z B m0 H0 W r P := by
  cases r with
  | ok a S' => exact fun m' H' l' t' => h m' H' (Le.trans t t0 l l') t'
  | exc c as S' => exact fun cls dd m' H' l' t' => h cls dd m' H' (Le.trans t t0 l l') t'
  | bad => exact h
theorem FinG.imp {r : Res α} {P P' : α → Store → List Addr → Hp → Prop} (h : FinG K Z B m H W r P) (i : ∀ a S' m' H', P a S' m' H' → P' a S' m' H') : FinG K Z B m H W r P' := by
  cases r with
  | ok a S' => exact fun m' H' l' t' => i _ _ _ _ (h m' H' l' t')
  | exc c as S' => exact h
  | bad => exact h
/-- a binding: the first part's answer -/
theorem FinG.bind {f : M α} {g : α → M β} {P : β → Store → List Addr → Hp → Prop} (t : At K B m S H) (h : FinG K Z B m H W (M.bind f g S) P) :
    FinG K Z B m H W (f S) fun a S' m' H' => FinG K Z B m' H' W (g a S') P := by
  unfold M.bind at h
  cases e : f S with
  | ok a S' =>
    rw [e] at h
    exact fun m' H' l' t' => h.rebase t t' l'
  | exc c as S' => rw [e] at h; exact h
  | bad => rw [e] at h; exact h
theorem FinG.opt {o : Option α} {P : α → Store → List Addr → Hp → Prop} (h : FinG K Z B m H W (M.opt o S) P) : ∃ a, o = some a ∧ FinG K Z B m H W (.ok a S) P := by
  cases o with
  | none => exact h.elim
  | some a => exact ⟨a, rfl, h⟩
theorem FinG.now {a : α} {P : α → Store → List Addr → Hp → Prop} (t : At K B m S H) (h : FinG K Z B m H W (.ok a S) P) : P a S m H := h m H Le.refl t
end

/-! ### operators by values -/
section
variable {K : Fg} {Z : Xt} {B m : List Addr} {H H0 : Hp} {S : Store} {W : XK} {Q : VK}
theorem fin_plain {d : D} {v : V} {fr : Bool} (t : At K B m S H) (h : FinG K Z B m H W (.ok d S) (PD K B H0 fr Q)) (r : RelD K B m H d v) (n : ∀ xs, d ≠ .lst xs) : Q v H :=
  h.now t v r fun _ => ⟨fun xs e => absurd e (n xs)⟩
theorem fin_tup {ds : List D} {vs : List V} {p : Addr} {fr : Bool} (t : At K B m S H) (h : FinG K Z B m H W (.ok (.tup ds) S) (PD K B H0 fr Q)) (hp : H p = none) (r : RelDs K B m H ds vs) : Q (.ref p) (upd H p (.tup vs)) :=
  h m _ (Le.new t hp) (t.new hp) _ (RelD.new_tup t hp r) fun _ => ⟨fun xs e => nomatch e⟩
theorem fin_lst {ds : List D} {vs : List V} {p : Addr} {fr : Bool} (t : At K B m S H) (n : ∀ a, H a = none → H0 a = none) (h : FinG K Z B m H W (.ok (.lst ds) S) (PD K B H0 fr Q)) (hp : H p = none) (r : RelDs K B m H ds vs) :
    Q (.ref p) (upd H p (.lst vs)) :=
  h m _ (Le.new t hp) (t.new hp) _ (RelD.new_lst t hp r) fun _ => ⟨fun xs e => by cases e; exact ⟨p, vs, H, rfl, n p hp, hp, rfl, t, r⟩⟩
/-- a store to a cell -/
theorem fin_put {d : D} {v : V} {n : Nat} {p : Addr} {ds : List D} {vs : List V} {fr : Bool} (t : At K B m S H) (hp : m[n]? = some p) (r : RelDs K B m H ds vs) (h : FinG K Z B m H W (.ok d (S.set n (.lst ds))) (PD K B H0 fr Q))
    (q : RelD K B m H d v) (nl : fr = true → ∀ xs, d ≠ .lst xs) : Q v (upd H p (.lst vs)) :=
  h m _ (Le.put t hp) (t.put hp r) v (q.tr ((Le.put t hp).tr t)) fun f => ⟨fun xs e => absurd e (nl f xs)⟩
end
def boOf : Bo → Operator
  | .add => .Add | .sub => .Sub | .mul => .Mult | .mod => .Mod | .fdiv => .FloorDiv | .pow => .Pow | .shl => .LShift
def rBin (K : Fg) (o : Bo) : R2 := fun x y H Q => ∃ B m S a b H0 d, At K B m S H ∧ RelD K B m H a x ∧ RelD K B m H b y ∧ (∀ p, H p = none → H0 p = none) ∧
  binD S o a b = some d ∧ ∃ Z W, FinG K Z B m H W (.ok d S) (PD K B H0 true Q)
theorem two64_eq : two64 = 2 ^ 64 := by decide
theorem SL_eq : SL = sizeLine := by rw [sizeLine_eq]; rfl
theorem OpR.imp' {X : Cx} {f : Value → Value → Sem Value} {r r' : R2} (h : OpR X f r) (i : ∀ x y H Q, r' x y H Q → r x y H Q) : OpR X f r' :=
  fun pins s σ H x y v u Q I rx ry q => h pins s σ H x y v u Q I rx ry (i _ _ _ _ q)
theorem SO_append (a b : List Nat) : SO a ++ SO b = SO (a ++ b) := by
  refine Str.ext' ?_
  show (SO a).cps ++ (SO b).cps = _
  simp [SO]
theorem addD_cases {S : Store} {a b d : D} (h : addD S a b = some d) : (∃ i j, a = .int i ∧ b = .int j ∧ d = .int (i + j)) ∨ (∃ i j, a = .str i ∧ b = .str j ∧ i.length + j.length ≤ SL ∧ d = .str (i ++ j)) ∨
    (∃ i j, a = .tup i ∧ b = .tup j ∧ i.length + j.length ≤ SL ∧ d = .tup (i ++ j)) ∨ (∃ i j, ownOf S a = some i ∧ ownOf S b = some j ∧ i.length + j.length ≤ SL ∧ d = .lst (i ++ j)) := by
  unfold addD at h
  split at h
  · cases h; exact .inl ⟨_, _, rfl, rfl, rfl⟩
  · split at h
    · cases h; exact .inr (.inl ⟨_, _, rfl, rfl, by assumption, rfl⟩)
    · cases h
  · split at h
    · cases h; exact .inr (.inr (.inl ⟨_, _, rfl, rfl, by assumption, rfl⟩))
    · cases h
  · split at h
    · split at h
      · cases h; exact .inr (.inr (.inr ⟨_, _, by assumption, by assumption, by assumption, rfl⟩))
      · cases h
    · cases h
theorem mulD_cases {S : Store} {a b d : D} (h : mulD S a b = some d) : (∃ i j, a = .int i ∧ b = .int j ∧ mulOk i j = true ∧ d = .int (i * j)) ∨ (∃ i k, a = .tup i ∧ b = .int k ∧ (i.length ≤ 1000 ∧ k ≤ 1000 ∧ -1000000 ≤ k) ∧ d = .tup (repL i k)) ∨
    (∃ i k, a = .str i ∧ b = .int k ∧ (i.length ≤ 1000 ∧ k ≤ 1000 ∧ -1000000 ≤ k) ∧ d = .str (repL i k)) ∨ (∃ i k, ownOf S a = some i ∧ b = .int k ∧ (i.length ≤ 1000 ∧ k ≤ 1000 ∧ -1000000 ≤ k) ∧ d = .lst (repL i k)) := by
  unfold mulD at h
  split at h
  · split at h
    · cases h; exact .inl ⟨_, _, rfl, rfl, by assumption, rfl⟩
    · cases h
  · split at h
    · cases h; exact .inr (.inl ⟨_, _, rfl, rfl, by assumption, rfl⟩)
    · cases h
  · split at h
    · cases h; exact .inr (.inr (.inl ⟨_, _, rfl, rfl, by assumption, rfl⟩))
    · cases h
  · split at h
    · split at h
      · cases h; exact .inr (.inr (.inr ⟨_, _, by assumption, rfl, by assumption, rfl⟩))
      · cases h
    · cases h
  · cases h
theorem flat_rep {α : Type} (vs : List α) (n : Nat) : (List.replicate n vs).flatten.length = n * vs.length := by
  induction n with
  | zero => simp
  | succ n ih => rw [List.replicate_succ, List.flatten_cons, List.length_append, ih, Nat.succ_mul]; omega
theorem nil_of_len {α β : Type} {a : List α} {b : List β} (h : a.length = b.length) (e : b = []) : a = [] := by
  subst e
  exact List.eq_nil_of_length_eq_zero h
section
variable {X : Cx}
theorem op_binA : OpR X (binaryOp .Add) (rBin X.K .add) := by
  have h1 : OpR X (binaryOp .Add) _ := (OpR.or op_add (OpR.or op_add_str (OpR.or op_catA op_cat)))
  refine OpR.imp' h1 ?_
  rintro x y H Q ⟨B, m, S, a, b, H0, d, t, ra, rb, hn, e, Z, W, h⟩
  rcases addD_cases e with ⟨i, j, rfl, rfl, rfl⟩ | ⟨i, j, rfl, rfl, hz, rfl⟩ | ⟨i, j, rfl, rfl, hz, rfl⟩ | ⟨i, j, ea, eb, hz, rfl⟩
  · exact .inl ⟨i, j, ra.int_of, rb.int_of, fin_plain t h (.int _) fun _ e => nomatch e⟩
  · refine .inr (.inl ⟨SO i, SO j, ra.str_of, rb.str_of, by rw [SO_len, SO_len, ← SL_eq]; exact hz, ?_⟩)
    rw [SO_append]
    exact fin_plain t h (.str _ (okS_app ra.str_ok rb.str_ok)) fun _ e => nomatch e
  · obtain ⟨a1, v1, rfl, s1, r1⟩ := ra.tup_of
    obtain ⟨a2, v2, rfl, s2, r2⟩ := rb.tup_of
    refine .inr (.inr (.inl ⟨a1, a2, v1, v2, rfl, rfl, s1, s2, by rw [← r1.len, ← r2.len, ← SL_eq]; exact hz, fun q => ?_, fun q1 q2 => ?_, fun q1 q2 p hp => fin_tup t h hp (r1.app r2)⟩))
    · have e0 : i = [] := nil_of_len r1.len q
      subst e0
      exact fin_plain t h rb fun _ e => nomatch e
    · have e0 : j = [] := nil_of_len r2.len q2
      subst e0
      rw [List.append_nil] at h
      exact fin_plain t h ra fun _ e => nomatch e
  · obtain ⟨l1, v1, rfl, h1, r1⟩ := ra.own_of t ea
    obtain ⟨l2, v2, rfl, h2, r2⟩ := rb.own_of t eb
    exact .inr (.inr (.inr ⟨l1, l2, v1, v2, rfl, rfl, h1, h2, by rw [← r1.len, ← r2.len, ← SL_eq]; exact hz, fun p hp => fin_lst t hn h hp (r1.app r2)⟩))
theorem op_binI {o : Bo} {f : Value → Value → Sem Value} {Cd : Int → Int → Prop} {g : Int → Int → Int} (hr : OpR X f (rI Cd fun i j => .int (g i j)))
    (hb : ∀ S a b d, binD S o a b = some d → ∃ i j, a = .int i ∧ b = .int j ∧ Cd i j ∧ d = .int (g i j)) : OpR X f (rBin X.K o) := by
  refine OpR.imp' hr ?_
  rintro x y H Q ⟨B, m, S, a, b, H0, d, t, ra, rb, hn, e, Z, W, h⟩
  obtain ⟨i, j, rfl, rfl, hc, rfl⟩ := hb _ _ _ _ e
  exact ⟨i, j, ra.int_of, rb.int_of, hc, fin_plain t h (.int _) fun _ e => nomatch e⟩
theorem op_sub' : OpR X (binaryOp .Sub) (rI (fun _ _ => True) fun i j => .int (i - j)) := OpR.imp' op_sub fun x y H Q ⟨i, j, e1, e2, _, q⟩ => ⟨i, j, e1, e2, q⟩
theorem op_binS : OpR X (binaryOp .Sub) (rBin X.K .sub) := op_binI op_sub' fun S a b d h => by
  simp only [binD] at h
  split at h
  · cases h; exact ⟨_, _, rfl, rfl, trivial, rfl⟩
  · cases h
theorem op_binMod : OpR X (binaryOp .Mod) (rBin X.K .mod) := op_binI op_mod fun S a b d h => by
  simp only [binD] at h
  split at h
  · split at h
    · cases h; exact ⟨_, _, rfl, rfl, by assumption, rfl⟩
    · cases h
  · cases h
theorem op_binDiv : OpR X (binaryOp .FloorDiv) (rBin X.K .fdiv) := op_binI op_fdivW fun S a b d h => by
  simp only [binD] at h
  split at h
  · split at h
    · cases h; exact ⟨_, _, rfl, rfl, by assumption, rfl⟩
    · cases h
  · cases h
theorem natAbs_lt {i : Int} (h1 : -two64 < i) (h2 : i < two64) : i.natAbs < 2 ^ 64 := by
  have e : two64 = ((2 ^ 64 : Nat) : Int) := by decide
  omega
theorem op_binPow : OpR X (binaryOp .Pow) (rBin X.K .pow) := op_binI op_pow fun S a b d h => by
  simp only [binD] at h
  split at h
  · split at h
    · rename_i c
      cases h; exact ⟨_, _, rfl, rfl, ⟨c.1, c.2.1, natAbs_lt c.2.2.1 c.2.2.2⟩, rfl⟩
    · cases h
  · cases h
theorem op_binShl : OpR X (binaryOp .LShift) (rBin X.K .shl) := op_binI op_shl fun S a b d h => by
  simp only [binD] at h
  split at h
  · split at h
    · rename_i c
      cases h; exact ⟨_, _, rfl, rfl, ⟨c.1, c.2.1, natAbs_lt c.2.2.1 c.2.2.2⟩, rfl⟩
    · cases h
  · cases h
end
end Fb
set_option Elab.async false
set_option linter.all false
set_option maxRecDepth 100000
set_option maxHeartbeats 1000000
/-! Fx3: an own exception class whose __init__ is super().__init__(p, ..); self.p = p; ..: what it makes. -/
namespace Fb
open PySem PySem.Spec PyProof.Rows L2 NdefX
/-- a class: its name, its fields, its __init__ as the text has it -/
structure XcD where
  name : Str
  flds : List Str
  self : Str
  iname : Str
  qual : Str
  params : Arguments
  body : List Stmt
  scope : Scope
def XcD.at_ (d : XcD) : Str × Option Str := (d.name, some "__init__")
abbrev XW := Option (Str × Str × Arguments × FuncBody × Scope × Addr × List Str × Addr)
def xW (K : PySem.W.Frag) (p : Str × Option Str) : XW := match K.lookup (He.fAd K p) with
  | some ⟨_, _, .func fd, _⟩ => some (fd.name, fd.qualname, fd.params, fd.body, fd.scope, fd.globals, fd.closure.map (·.1), fd.builtins)
  | _ => none
def XcD.val (d : XcD) : XW := some (d.iname, d.qual, d.params, .stmts d.body, d.scope, mainGlobals, [("__class__" : Str)], builtinsNs)
/-! ### the class in the written part -/
def oexB (K : PySem.W.Frag) (C : Addr) : Bool := (match K.lookup C with
  | some ⟨.type "type", _, .cls cd, sl⟩ => (match cd.mro, sl.toList with
    | .ref C' :: bm, [_, _, _, _, some (.builtin n), _] => C' == C && n == "ValueError.__new__" && !cd.hasDel && cd.hasDict && PySem.HandSPX.refsVE bm
    | _, _ => false)
  | _ => false) && decide (PySem.W.findIn K (.ref C) "__setattr__" = some (some (.builtin "object.__setattr__"))) && decide (PySem.W.subIn K (.ref C) (.type "BaseException") = some true) && decide (PySem.W.typeIn K (.ref C) = some (.type "type")) && PySem.W.keepIn K (.ref C)
theorem oexB_ok {K : PySem.W.Frag} {C : Addr} (h : oexB K C = true) : OexC K C := by
  unfold oexB at h
  simp only [Bool.and_eq_true, decide_eq_true_eq] at h
  obtain ⟨⟨⟨⟨h1, h2⟩, h3⟩, h4⟩, h5⟩ := h
  refine ⟨?_, h2, h3, h4, h5⟩
  split at h1
  · rename_i dd cd sl ho
    split at h1
    · rename_i C' bm k0 k1 k2 k3 n k5 hm hs
      simp only [Bool.and_eq_true, beq_iff_eq, Bool.not_eq_true'] at h1
      obtain ⟨⟨⟨⟨rfl, rfl⟩, hdel⟩, hdict⟩, ht⟩ := h1
      obtain ⟨nm, bs, mro, ns, qn, hd, sn, sub, ab, col, del⟩ := cd
      dsimp only at hm hdel hdict
      subst hm; subst hdel; subst hdict
      refine ⟨nm, qn, ns, bs, bm, sn, sub, ab, col, dd, k0, k1, k2, k3, k5, ?_, ht⟩
      rw [ho]
      have e : sl = #[k0, k1, k2, k3, some (.builtin "ValueError.__new__"), k5] := by
        apply Array.ext'
        rw [hs]
      rw [e] <;> rfl
    · cases h1
  · cases h1
def cellB (K : PySem.W.Frag) (C : Addr) (cc : Addr) : Bool := match K.lookup cc with
  | some ⟨_, _, .cell (some (.ref D)), _⟩ => D == C
  | _ => false
def codeB (K : PySem.W.Frag) (file : Str) (cv : Value) : Bool := match cv with
  | .ref c => (match K.lookup c with
    | some ⟨_, _, .fields vs, _⟩ => (match (vs[2]? : Option Value) with
      | some (Value.str f _) => file == f
      | _ => false)
    | _ => false)
  | _ => false
def iniB (K : PySem.W.Frag) (file : Str) (C fI : Addr) (qual : Str) : Bool := match K.lookup fI with
  | some ⟨_, _, .func fd, _⟩ => (match fd.closure with
    | [(_, cc)] => cellB K C cc && codeB K file fd.code && PySem.W.codeIn K fd.code qual && decide (fd.defaults = .none) && decide (fd.kwdefaults = .none) && decide (fd.annotations = none)
    | _ => false)
  | _ => false
/-- what is asked of the written part -/
def xcB (K : PySem.W.Frag) (file : Str) (d : XcD) : Bool :=
  let C := He.ga K d.name
  let fI := He.ma K C "__init__"
  He.eqO (PySem.W.nsIn K mainGlobals d.name) (some (some (.ref C))) && oexB K C && decide (PySem.W.findIn K (.ref C) "__init__" = some (some (.ref fI))) && decide (PySem.W.typeIn K (.ref fI) = some (.type "function")) &&
    xfB K C && (d.flds.all fun f => decide (PySem.W.findIn K (.ref C) f = some none)) && iniB K file C fI d.qual && (PySem.W.clsIn K C).isSome && decide (PySem.W.mroIn K C (.ref C) = some true) &&
    He.eqO (PySem.W.nsIn K mainGlobals "super") (some none) && He.eqO (PySem.W.nsIn K cStatics "thirdparty.any") (some none) && decide (PySem.W.ks_superIn K C C "__init__" = some (some (.builtin "ValueError.__init__"))) &&
    decide (PySem.W.subIn K (.ref C) (.type "ValueError") = some true)
/-! ### the text of the __init__ -/
def argB : List Str → List Expr → Bool
  | [], [] => true
  | f :: fs, .Name x _ :: es => x == f && argB fs es
  | _, _ => false
def asgB (self : Str) : List Str → List Stmt → Bool
  | [], [] => true
  | f :: fs, .Assign [.Attribute (.Name s _) g _] (.Name x _) _ :: r => s == self && g == f && x == f && asgB self fs r
  | _, _ => false
def bodyB (self : Str) (fs : List Str) : List Stmt → Bool
  | .Expr (.Call (.Attribute (.Call (.Name s _) [] [] _) i ap) es [] cp) _ :: r => s == ("super" : Str) && i == ("__init__" : Str) && argB fs es && !fs.isEmpty && asgB self fs r && (ap.endLine == cp.line)
  | _ => false
def XcD.ps (d : XcD) : List Str := d.self :: d.flds
def shapeB (d : XcD) : Bool := bodyB d.self d.flds d.body && nscB (d.ps ++ [("__class__" : Str)]) d.ps [("__class__" : Str)] d.scope && decide (d.scope.names.lookup ("super" : Str) = some .globalImplicit) && decide (d.flds.length ≤ 20) &&
  (match (d.params.posonlyargs ++ d.params.args).head? with
    | some ar => ar.arg == d.self
    | none => false) && d.ps.all (fun x => !(x == ("__debug__" : Str)) && !(x == ("__classdict__" : Str)))
def XBA (d : XcD) : Prop := ∀ (cl : List (Str × Addr)) (kV doc pm : Value) (an : Option Addr) (cdv ct : Value) (us : List Value), us.length = d.ps.length → bindArgs (PySem.W.fnX d.iname d.qual d.params d.body d.scope cl .none kV doc pm an cdv ct) ⟨us, []⟩ = pure (d.ps.zip us)
/-- the made fields -/
def fldsOf (fs : List Str) (ws : List V) : List (Str × V) := (fs.zip ws).reverse
/-- what the __init__ promises -/
def spX (C : Addr) (fs : List Str) : Sp := fun vs H Q _ => ∃ (a : Addr) (ws : List V), vs = .ref a :: ws ∧ ws.length = fs.length ∧ H a = some (exo a C none) ∧
  ∀ (dx : Addr) (H' : Hp), H dx = none → dx ≠ a → H' a = some (exo a C (some dx)) → H' dx = some (exd dx (fldsOf fs ws)) → (∀ b, b ≠ a → b ≠ dx → H' b = H b) → Q .non H'
section
variable {X : Cx}
theorem args_pa {ps : List Str} : ∀ {fs : List Str} {es : List Expr} {ws : List V} {k : Nat} {σ : L2.St}, argB fs es = true → ws.length = fs.length → (∀ (i : Nat) (f : Str), fs[i]? = some f → X.N[k + i]? = some f ∧ Vis X.env.scope f ∧ (f == ("__debug__" : Str)) = false ∧ (f == ("__classdict__" : Str)) = false) →
    (∀ (i : Nat) (v : V), ws[i]? = some v → σ[k + i]? = some (some v)) → ∃ ta, PA X es ta ∧ ∀ H Q, Q ws H → ta σ H Q
  | [], [], ws, k, σ, _, hl, _, _ => by
    obtain rfl : ws = [] := List.eq_nil_of_length_eq_zero hl
    exact ⟨tNil, pa_nil, fun H Q q => q⟩
  | f :: fs, e :: es, ws, k, σ, h, hl, hN, hw => by
    cases e with
    | Name x p =>
      have h2 := Bool.and_eq_true_iff.mp (show (x == f && argB fs es) = true from h)
      have ex : x = f := eq_of_beq h2.1
      subst ex
      cases ws with
      | nil => cases hl
      | cons v ws =>
        obtain ⟨ta, hta, ht⟩ := args_pa (ps := ps) (k := k + 1) (σ := σ) (ws := ws) h2.2 (by simpa using hl) (fun i f hf => by
          have z := hN (i + 1) f (by simpa using hf)
          rw [show k + (i + 1) = k + 1 + i by omega] at z
          exact z) (fun i v hv => by
          have z := hw (i + 1) v (by simpa using hv)
          rw [show k + (i + 1) = k + 1 + i by omega] at z
          exact z)
        obtain ⟨n1, n2, n3, n4⟩ := hN 0 x rfl
        refine ⟨_, pa_cons (pe_var n1 n2 n3 n4) hta, fun H Q q => ⟨v, hw 0 v rfl, ht _ _ q⟩⟩
    | _ => cases h
  | [], _ :: _, _, _, _, h, _, _, _ => by cases h
  | _ :: _, [], _, _, _, h, _, _, _ => by cases h
theorem asgB_cons {self f : Str} {fs : List Str} {st : Stmt} {es : List Stmt} (h : asgB self (f :: fs) (st :: es) = true) : ∃ p1 p2 p3 p4, st = .Assign [.Attribute (.Name self p1) f p2] (.Name f p3) p4 ∧ asgB self fs es = true := by
  unfold asgB at h
  split at h
  · rename_i e _; cases e
  · rename_i e1 e2
    simp only [List.cons.injEq] at e1 e2
    obtain ⟨rfl, rfl⟩ := e1
    obtain ⟨rfl, rfl⟩ := e2
    simp only [Bool.and_eq_true, beq_iff_eq] at h
    obtain ⟨⟨⟨rfl, rfl⟩, rfl⟩, h4⟩ := h
    exact ⟨_, _, _, _, rfl, h4⟩
  · cases h
/-- self.f = f, one behind the other -/
def tAs (K : PySem.W.Frag) : List Str → Nat → TS
  | [], _ => tNext
  | f :: fs, k => tSeq (tOst K f (tVar 0) (tVar k)) (tAs K fs (k + 1))
theorem asg_pss {self : Str} (s0 : X.N[0]? = some self) (vs : Vis X.env.scope self) (d1 : (self == ("__debug__" : Str)) = false) (d2 : (self == ("__classdict__" : Str)) = false) : ∀ {fs : List Str} {es : List Stmt} {k : Nat}, asgB self fs es = true →
    (∀ (i : Nat) (f : Str), fs[i]? = some f → X.N[k + i]? = some f ∧ Vis X.env.scope f ∧ (f == ("__debug__" : Str)) = false ∧ (f == ("__classdict__" : Str)) = false) → PSs X es (tAs X.K fs k)
  | [], [], k, _, _ => pss_nil
  | f :: fs, st :: es, k, h, hN => by
    obtain ⟨p1, p2, p3, p4, rfl, h4⟩ := asgB_cons h
    obtain ⟨n1, n2, n3, n4⟩ := hN 0 f rfl
    exact pss_cons (ps_ost (pe_var s0 vs d1 d2) (pe_var n1 n2 n3 n4)) (asg_pss s0 vs d1 d2 h4 fun i f hf => by
      have z := hN (i + 1) f (by simpa using hf)
      rw [show k + (i + 1) = k + 1 + i by omega] at z
      exact z)
  | [], _ :: _, _, h, _ => by cases h
  | _ :: _, [], _, h, _ => by cases h
theorem asg_run {K : PySem.W.Frag} {C a dx : Addr} (T : OexC K C) : ∀ {fs : List Str} {ws : List V} {k : Nat} {σ : L2.St} (done : List (Str × V)), ws.length = fs.length → (∀ f ∈ fs, PySem.W.findIn K (.ref C) f = some none) →
    (∀ (i : Nat) (v : V), ws[i]? = some v → σ[k + i]? = some (some v)) → σ[0]? = some (some (.ref a)) → done.length + fs.length ≤ 900 →
    ∀ D H, H a = some (exo a C (some dx)) → H dx = some (exd dx done) → dx ≠ a → (∀ H' : Hp, H' a = some (exo a C (some dx)) → H' dx = some (exd dx (fldsOf fs ws ++ done)) → (∀ b, b ≠ a → b ≠ dx → H' b = H b) → D.nx σ H') → tAs K fs k D σ H
  | [], ws, k, σ, done, hl, _, _, _, _, D, H, h1, h2, _, q => by
    obtain rfl : ws = [] := List.eq_nil_of_length_eq_zero hl
    exact q H h1 h2 fun _ _ _ => rfl
  | f :: fs, [], k, σ, done, hl, _, _, _, _, D, H, h1, h2, _, q => by cases hl
  | f :: fs, v :: ws, k, σ, done, hl, hN, hw, hs, hz, D, H, h1, h2, ne, q => by
    have hz2 : done.length + (fs.length + 1) ≤ 900 := hz
    refine ⟨v, hw 0 v rfl, .ref a, hs, a, C, rfl, T, hN f List.mem_cons_self, .inr ⟨dx, done, h1, h2, by omega, ?_⟩⟩
    refine asg_run T ((f, v) :: done) (by simpa using hl) (fun g hg => hN g (List.mem_cons_of_mem _ hg)) (fun i v hv => by
      have z := hw (i + 1) v (by simpa using hv)
      rw [show k + (i + 1) = k + 1 + i by omega] at z
      exact z) hs (by simp; omega) D _ (by rw [upd_ne (Ne.symm ne)]; exact h1) upd_same ne fun H' g1 g2 g3 => q H' g1 ?_ fun b hb hb2 => by rw [g3 b hb hb2, upd_ne hb2]
    rw [g2]
    unfold fldsOf
    rw [List.zip_cons_cons, List.reverse_cons, List.append_assoc] <;> rfl
/-- .. from the first on -/
theorem asg_first {K : PySem.W.Frag} {C a : Addr} (T : OexC K C) {fs : List Str} {ws : List V} {k : Nat} {σ : L2.St} (hl : ws.length = fs.length) (hne : fs ≠ []) (hN : ∀ f ∈ fs, PySem.W.findIn K (.ref C) f = some none)
    (hw : ∀ (i : Nat) (v : V), ws[i]? = some v → σ[k + i]? = some (some v)) (hs : σ[0]? = some (some (.ref a))) (hz : fs.length ≤ 20) (D : Ends) (H : Hp) (h1 : H a = some (exo a C none))
    (q : ∀ (dx : Addr) (H' : Hp), H dx = none → dx ≠ a → H' a = some (exo a C (some dx)) → H' dx = some (exd dx (fldsOf fs ws)) → (∀ b, b ≠ a → b ≠ dx → H' b = H b) → D.nx σ H') : tAs K fs k D σ H := by
  cases fs with
  | nil => exact absurd rfl hne
  | cons f fs =>
    cases ws with
    | nil => cases hl
    | cons v ws =>
      have hz2 : fs.length + 1 ≤ 20 := hz
      refine ⟨v, hw 0 v rfl, .ref a, hs, a, C, rfl, T, hN f List.mem_cons_self, .inl ⟨h1, fun dx nd ne => ?_⟩⟩
      refine asg_run T [(f, v)] (by simpa using hl) (fun g hg => hN g (List.mem_cons_of_mem _ hg)) (fun i v hv => by
        have z := hw (i + 1) v (by simpa using hv)
        rw [show k + (i + 1) = k + 1 + i by omega] at z
        exact z) hs (by simp; omega) D _ upd_same (by rw [upd_ne ne]; exact upd_same) ne fun H' g1 g2 g3 => q dx H' nd ne g1 ?_ fun b hb hb2 => by rw [g3 b hb hb2, upd_ne hb, upd_ne hb2]
      rw [g2]
      unfold fldsOf
      rw [List.zip_cons_cons, List.reverse_cons] <;> rfl
end
theorem bodyB_cons {self : Str} {fs : List Str} {body : List Stmt} (h : bodyB self fs body = true) : ∃ p0 p1 p2 pos p3 es r, body = .Expr (.Call (.Attribute (.Call (.Name "super" p0) [] [] p1) "__init__" p2) es [] pos) p3 :: r ∧ argB fs es = true ∧ fs ≠ [] ∧ asgB self fs r = true ∧ (p2.endLine == pos.line) = true := by
  unfold bodyB at h
  split at h
  · simp only [Bool.and_eq_true, beq_iff_eq, Bool.not_eq_true', List.isEmpty_eq_false_iff] at h
    obtain ⟨⟨⟨⟨⟨rfl, rfl⟩, h3⟩, h4⟩, h5⟩, h6⟩ := h
    exact ⟨_, _, _, _, _, _, _, rfl, h3, h4, h5, by simpa using h6⟩
  · cases h
theorem argB_star {env : Env} {pos : Pos} : ∀ {fs : List Str} {es : List Expr}, argB fs es = true → (∀ e r, es = e :: r → starEach (e :: r) env = (false, eval e env) :: starEach r env) ∧ (backTo pos (starEach es env)).any (·.1) = false
  | [], [], _ => ⟨fun _ _ z => (nomatch z), rfl⟩
  | f :: fs, e :: es, h => by
    cases e with
    | Name x p =>
      have h2 := Bool.and_eq_true_iff.mp (show (x == f && argB fs es) = true from h)
      refine ⟨fun e r z => by cases z; rfl, ?_⟩
      have := (argB_star (env := env) (pos := pos) h2.2).2
      exact this
    | _ => cases h
  | [], _ :: _, h => by cases h
  | _ :: _, [], h => by cases h
theorem argB_len : ∀ {fs : List Str} {es : List Expr}, argB fs es = true → es.length = fs.length
  | [], [], _ => rfl
  | f :: fs, e :: es, h => by
    cases e with
    | Name x p =>
      have h2 := Bool.and_eq_true_iff.mp (show (x == f && argB fs es) = true from h)
      rw [List.length_cons, List.length_cons, argB_len h2.2]
    | _ => cases h
  | [], _ :: _, h => by cases h
  | _ :: _, [], h => by cases h
theorem super_eq {p0 p1 p2 pos : Pos} {es : List Expr} {env : Env} (hline : (p2.endLine == pos.line) = true) (hs : (backTo pos (starEach es env)).any (·.1) = false) (hl : es.length < 28) :
    eval (.Call (.Attribute (.Call (.Name "super" p0) [] [] p1) "__init__" p2) es [] pos) env = (do
      let ov ← attributeBase (.Call (.Name "super" p0) [] [] p1) "__init__" env (eval (.Call (.Name "super" p0) [] [] p1) env)
      standAt p2.atName
      let (f, first) ← holding [ov] (getMethod ov "__init__" (do return (← importBound (.Call (.Name "super" p0) [] [] p1) env).getD true))
      callWith pos f first (backTo pos (starEach es env)) []) := by
  have hform : methodCallForm (es.length + ([] : List Keyword).length) (backTo pos (starEach es env)) (backToKw pos (keywordEach [] env)) = true := by
    unfold methodCallForm
    have h1 : (backTo pos (starEach es env)).all (fun x => !x.1) = true := by
      rw [List.any_eq_false] at hs
      rw [List.all_eq_true]
      intro x hx
      have := hs x hx
      cases hb : x.1 with
      | true => exact absurd hb this
      | false => rfl
    rw [h1]
    show (true && true && decide (es.length + 0 + 0 < 30)) = true
    rw [decide_eq_true (by omega)]
    rfl
  show (do
    let ov ← attributeBase (.Call (.Name "super" p0) [] [] p1) "__init__" env (eval (.Call (.Name "super" p0) [] [] p1) env)
    standAt p2.atName
    methodCall (.Call (.Name "super" p0) [] [] p1) "__init__" p2 pos env ov (es.length + ([] : List Keyword).length) (backTo pos (starEach es env)) (backToKw pos (keywordEach [] env))) = _
  unfold methodCall calleeOf methodCallPos
  rw [hform]
  simp only [hline, Bool.or_true, if_true, Bool.not_true]
  rfl
section
variable {P : Program} {w : World} {K : PySem.W.Frag} {mg : Str → Option Value} {base : Heap}
/-- the facts of a class, together -/
structure XcOk (K : PySem.W.Frag) (P : Program) (d : XcD) : Prop where
  glo : PySem.W.nsIn K mainGlobals d.name = some (some (.ref (He.ga K d.name)))
  ex : OexC K (He.ga K d.name)
  ini : PySem.W.findIn K (.ref (He.ga K d.name)) "__init__" = some (some (.ref (He.ma K (He.ga K d.name) "__init__")))
  ity : PySem.W.typeIn K (.ref (He.ma K (He.ga K d.name) "__init__")) = some (.type "function")
  xf : XfC K (He.ga K d.name)
  no : ∀ f ∈ d.flds, PySem.W.findIn K (.ref (He.ga K d.name)) f = some none
  fn : ∃ (F : NF) (cc : Addr) (oc doc pm ctv : Value) (od : Option Addr) (osl : Array (Option Value)), K.lookup (He.ma K (He.ga K d.name) "__init__") = some ⟨oc, od, .func (F.fd doc pm ctv), osl⟩ ∧ PySem.W.codeIn K (.ref F.c) F.qual = true ∧
    F = ⟨d.iname, d.qual, d.params, d.body, d.scope, [(("__class__" : Str), cc)], F.c⟩ ∧ SupC K P (He.ga K d.name) (He.ma K (He.ga K d.name) "__init__") cc F (F.fd doc pm ctv)
theorem xc_of {file : Str} {d : XcD} (h : xcB K file d = true) (hv : xW K d.at_ = d.val) (hs : shapeB d = true) (hf : (P.main.file : Str) = file) (ht : (P.main.scope.names.lookup ("super" : Str)).isSome = false) : XcOk K P d := by
  unfold xcB at h
  simp only [Bool.and_eq_true, decide_eq_true_eq, List.all_eq_true, Option.isSome_iff_exists] at h
  obtain ⟨⟨⟨⟨⟨⟨⟨⟨⟨⟨⟨⟨h1, h2⟩, h3⟩, h4⟩, h5⟩, h6⟩, h7⟩, h8⟩, h9⟩, h10⟩, h11⟩, h12⟩, h13⟩ := h
  refine ⟨He.eqO_ok h1, oexB_ok h2, h3, h4, xfB_ok h5, h6, ?_⟩
  unfold shapeB at hs
  simp only [Bool.and_eq_true, decide_eq_true_eq] at hs
  obtain ⟨⟨⟨⟨⟨s1, s2⟩, s3⟩, s4⟩, s5⟩, s6⟩ := hs
  have S := nscope_by s2
  unfold iniB at h7
  have e0 : He.fAd K d.at_ = He.ma K (He.ga K d.name) "__init__" := rfl
  unfold xW at hv
  rw [e0] at hv
  split at h7
  · rename_i oc od fd osl lk
    split at h7
    · rename_i y cc hcl
      simp only [Bool.and_eq_true, decide_eq_true_eq] at h7
      obtain ⟨⟨⟨⟨⟨c1, c2⟩, c3⟩, c4⟩, c5⟩, c6⟩ := h7
      rw [lk] at hv
      obtain ⟨nm, qn, ps, bd, sc, gl, cl, df, kd, doc, pm, an, cd, ct, bl⟩ := fd
      dsimp only at hcl c2 c3 c4 c5 c6 hv
      subst hcl; subst c4; subst c5; subst c6
      unfold XcD.val at hv
      simp only [Option.some.injEq, Prod.mk.injEq, List.map_cons, List.map_nil, List.cons.injEq, and_true] at hv
      obtain ⟨rfl, rfl, rfl, rfl, rfl, rfl, rfl, rfl⟩ := hv
      unfold codeB at c2
      split at c2
      · rename_i c
        refine ⟨⟨d.iname, d.qual, d.params, d.body, d.scope, [(("__class__" : Str), cc)], c⟩, cc, oc, doc, pm, ct, od, osl, lk, c3, rfl, ?_⟩
        refine ⟨oexB_ok h2, ⟨_, _, _, lk⟩, ?_, ?_, ⟨_, h8.choose_spec⟩, rfl, h9, He.eqO_ok h10, He.eqO_ok h11, h12, h13, ht, s3, S.frk _ (by simp), S.kind⟩
        · split at c2
          · rename_i ccl cdd vs ccs lkc
            split at c2
            · rename_i f tf hv2
              exact ⟨_, _, _, _, _, _, lkc, hv2, by rw [hf]; exact c2⟩
            · cases c2
          · cases c2
        · unfold cellB at c1
          split at c1
          · rename_i lkcc
            rw [eq_of_beq c1] at lkcc
            exact ⟨_, _, _, lkcc⟩
          · cases c1
      · cases c2
    · cases h7
  · cases h7
theorem init_fn {d : XcD} (c : XcOk K P d) (hs : shapeB d = true) (hb : XBA d) (hm : mg "super" = none) : ∃ fd, FnOk P w K mg base (L2.CX P w) 1 (He.ma K (He.ga K d.name) "__init__") fd d.ps (spX (He.ga K d.name) d.flds) ∧ Binds K fd d.ps [] := by
  obtain ⟨F, cc, oc, doc, pm, ctv, od, osl, lk, hcd, eF, T⟩ := c.fn
  unfold shapeB at hs
  simp only [Bool.and_eq_true, decide_eq_true_eq, List.all_eq_true, Bool.not_eq_true'] at hs
  obtain ⟨⟨⟨⟨⟨s1, s2⟩, s3⟩, s4⟩, s5⟩, s6⟩ := hs
  have S : NScope (d.ps ++ [("__class__" : Str)]) d.ps [("__class__" : Str)] F.scope := by
    rw [eF]; exact nscope_by s2
  have hbd : ∀ us : List Value, us.length = d.ps.length → bindArgs (F.fd doc pm ctv) ⟨us, []⟩ = pure (d.ps.zip us) := fun us hl => by
    rw [eF]; exact hb _ _ _ _ _ _ _ us hl
  refine ⟨F.fd doc pm ctv, ?_, Binds.all hbd⟩
  obtain ⟨lkcl, lkcd, lkcs, lkc⟩ := T.cell
  refine fnc_of (k := 0) (ws := [some (.ref (He.ga K d.name))]) lk hcd S (fun h H X hn => ?_) (fun vs H Q E ⟨a, ws, e, hl, _⟩ => ?_) fun A outer s sB H vs Q E hr ⟨a, ws, e, hl, ea, q⟩ I => ?_
  · have hcl : F.cl = [(("__class__" : Str), cc)] := T.hcl
    refine ⟨rfl, fun y c0 hy => ?_, fun x y c0 hx hy => ?_, fun i y hy => ?_⟩
    · rw [hcl] at hy
      have : c0 = cc := by
        simp only [List.lookup] at hy
        split at hy
        · exact (Option.some.inj hy).symm
        · cases hy
      subst this
      exact ⟨hn _ _ lkc, _, _, X _ _ lkc, rfl⟩
    · rw [hcl] at hx hy
      simp only [List.lookup] at hx hy
      split at hx
      · rename_i e1
        split at hy
        · rename_i e2
          rw [eq_of_beq e1, eq_of_beq e2]
        · cases hy
      · cases hx
    · cases i with
      | zero =>
        cases hy
        exact ⟨cc, by rw [hcl]; rfl, fun v hv => by cases hv; exact ⟨.ref _, rfl, _, X _ _ lkc, rfl⟩⟩
      | succ i => simp at hy
  · rw [e, List.length_cons, hl] <;> rfl
  · subst e
    obtain ⟨p0, p1, p2, pos, p3, es, r, eb, ha, hne, hasg, hline⟩ := bodyB_cons s1
    have ebF : F.body = .Expr (.Call (.Attribute (.Call (.Name "super" p0) [] [] p1) "__init__" p2) es [] pos) p3 :: r := by rw [eF]; exact eb
    have sel : ∀ (i : Nat) (v : V), (V.ref a :: ws)[i]? = some v → (startF (d.ps ++ [("__class__" : Str)]) (V.ref a :: ws) [some (.ref (He.ga K d.name))])[i]? = some (some v) := fun i v hv => by
      unfold startF
      have hlt := (List.getElem?_eq_some_iff.mp hv).1
      rw [List.getElem?_append_left (by rw [List.length_map]; exact hlt), List.getElem?_map, hv] <;> rfl
    have nms : ∀ (i : Nat) (f : Str), d.flds[i]? = some f → (d.ps ++ [("__class__" : Str)])[1 + i]? = some f ∧ Vis F.scope f ∧ (f == ("__debug__" : Str)) = false ∧ (f == ("__classdict__" : Str)) = false := fun i f hf => by
      have hm : f ∈ d.ps := List.mem_cons_of_mem _ (List.mem_of_getElem? hf)
      have z := s6 f hm
      refine ⟨?_, .inl (S.par f hm), z.1, z.2⟩
      rw [List.getElem?_append_left (by have := (List.getElem?_eq_some_iff.mp hf).1; unfold XcD.ps; rw [List.length_cons]; omega)]
      unfold XcD.ps
      rw [show 1 + i = i + 1 by omega, List.getElem?_cons_succ, hf]
    have hself : d.self ∈ d.ps := List.mem_cons_self
    have slf := s6 d.self hself
    obtain ⟨e1, es1, rfl⟩ : ∃ e1 es1, es = e1 :: es1 := by
      cases es with
      | nil =>
        cases hq : d.flds with
        | nil => exact absurd hq hne
        | cons f fs => rw [hq] at ha; cases ha
      | cons e1 es1 => exact ⟨e1, es1, rfl⟩
    obtain ⟨ta, hta, ht⟩ := args_pa (X := ncx (L2.CX P w) P w K mg base (d.ps ++ [("__class__" : Str)]) F (He.ma K (He.ga K d.name) "__init__") A outer s H E) (ps := d.ps) (k := 1) (σ := startF (d.ps ++ [("__class__" : Str)]) (V.ref a :: ws) [some (.ref (He.ga K d.name))]) ha hl nms
      (fun i v hv => by rw [show 1 + i = i + 1 by omega]; exact sel (i + 1) v (by simpa using hv))
    have hpss := asg_pss (X := ncx (L2.CX P w) P w K mg base (d.ps ++ [("__class__" : Str)]) F (He.ma K (He.ga K d.name) "__init__") A outer s H E) (self := d.self) rfl (.inl (S.par _ hself)) slf.1 slf.2 (k := 1) hasg nms
    have hst := argB_star (env := envF F (He.ma K (He.ga K d.name) "__init__") s.heap.objs.size) (pos := pos) ha
    have hst1 := hst.1 e1 es1 rfl
    have fa : a ≠ He.ga K d.name := fun z => by
      obtain ⟨oC, hC⟩ : ∃ o, K.lookup (He.ga K d.name) = some o := by
        obtain ⟨nm, q, N, bs, bm, sn, sub, ab, col, dd, k0, k1, k2, k3, k5, hC, _⟩ := c.ex.cls
        exact ⟨_, hC⟩
      have z2 : H (He.ga K d.name) = none := (I.ok.bs _ _ (I.ok.mod.kin _ _ hC)).2
      rw [← z, ea] at z2
      cases z2
    rw [ebF]
    obtain ⟨ar, har, hse⟩ : ∃ ar, (d.params.posonlyargs ++ d.params.args).head? = some ar ∧ ar.arg = d.self := by
      split at s5
      · rename_i ar e; exact ⟨ar, e, eq_of_beq s5⟩
      · cases s5
    have hpar : (F.fd doc pm ctv).params = d.params := by rw [eF]
    refine ks_wpAt_execs_cons (ks_wpAt_Expr_any ?_ ?_ rfl)
    · refine super_init (X := ncx (L2.CX P w) P w K mg base (d.ps ++ [("__class__" : Str)]) F (He.ma K (He.ga K d.name) "__init__") A outer s H E) (L := s.heap.objs.size) (ar := ar) (ta := ta) T I rfl ea (by rw [hpar]; exact har) (by rw [hse]; rfl) (by rw [hse]; exact S.par _ hself) (sel 0 _ rfl) hm fa rfl hta (super_eq hline hst.2 (by have := argB_len ha; omega)) hst1 ?_ (ht _ _ ⟨by rw [hl]; omega, ea, fun s' I' => wpAt_of_wpAny ?_⟩)
      · have z := hst.2
        rw [hst1] at z
        exact z
      · refine wpAny_mono (hpss.run [] s' _ H { nx := fun _ H' => Q .non H', rt := fun _ _ => False } I' ?_) (fun fl s6 hs6 => ?_) fun _ _ z => z
        · refine asg_first c.ex hl hne c.no (fun i v hv => ?_) (sel 0 _ rfl) s4 _ _ ea fun dx H' n ne g1 g2 g3 => q dx H' n ne g1 g2 g3
          rw [show 1 + i = i + 1 by omega]
          exact sel (i + 1) v (by simpa using hv)
        · cases fl with
          | next =>
            obtain ⟨σ', H', J, q⟩ := hs6
            exact ⟨_, .non, σ', H', rfl, J, rfl, q⟩
          | ret u =>
            obtain ⟨_, _, _, _, _, z⟩ := hs6
            exact False.elim z
          | brk =>
            obtain ⟨_, _, _, z⟩ := hs6
            exact False.elim z
          | cont =>
            obtain ⟨_, _, _, z⟩ := hs6
            exact False.elim z
    · have kd := S.kind
      unfold interactive
      first
        | rfl
        | simp [envF, PySem.W.envX, kd]
end
end Fb
set_option Elab.async false
set_option linter.all false
set_option maxRecDepth 100000
set_option maxHeartbeats 4000000
/-! Fb3m: products of texts, tuples, lists with ints. -/
namespace Fb
open PySem PySem.Spec PyProof.Rows L2
theorem tmul_same (l : Addr) (items : Array Value) (n : Nat) (dd : Option Addr) (sl : Array (Option Value)) (x : Int) (u : Tok) (c0 : (decide (x < -(2 ^ 63)) || decide (x ≥ 2 ^ 63)) = false) (c1 : (items.isEmpty || x == 1) = true) :
    Meets (Builtin.«tuple.__mul__» ⟨[.ref l, .int x u], []⟩) (fun _ R s => s.heap.get? l = some { cls := .type "tuple", dict := dd, data := .seq items n, slots := sl } ∧ R (.ok (.ret (Value.ref l))) s) :=
  .of_wp fun prog w A R s h => by
    obtain ⟨hp, g, d, tk, os⟩ := s
    obtain ⟨hl, h⟩ := h
    have f1 := AutoSeq1.idx_int
    wp_walk using wpAny_loadPart' hl
    repeat (first
      | (refine wpAny_ite_false (decide_eq_false (by rw [c0]; exact Bool.false_ne_true)) ?_; wp_walk using wpAny_loadPart' hl)
      | (refine wpAny_ite_true (decide_eq_true c1) ?_; wp_walk using wpAny_loadPart' hl))
    exact ⟨_, rfl, h⟩
theorem tmul_none (l : Addr) (items : Array Value) (n : Nat) (dd : Option Addr) (sl : Array (Option Value)) (x : Int) (u : Tok) (c0 : (decide (x < -(2 ^ 63)) || decide (x ≥ 2 ^ 63)) = false) (c1 : (items.isEmpty || x == 1) = false) (c2 : (decide (x ≤ 0) || items.isEmpty) = true) :
    Meets (Builtin.«tuple.__mul__» ⟨[.ref l, .int x u], []⟩) (fun _ R s => s.heap.get? l = some { cls := .type "tuple", dict := dd, data := .seq items n, slots := sl } ∧
      R (.ok (.ret (Value.ref s.heap.objs.size))) { s with heap := s.heap.push { cls := Value.type "tuple", data := Data.seq #[] }, toks := s.toks }) :=
  .of_wp fun prog w A R s h => by
    obtain ⟨hp, g, d, tk, os⟩ := s
    obtain ⟨hl, h⟩ := h
    have f1 := AutoSeq1.idx_int
    wp_walk using wpAny_loadPart' hl
    repeat (first
      | (refine wpAny_ite_false (decide_eq_false (by rw [c0]; exact Bool.false_ne_true)) ?_; wp_walk using wpAny_loadPart' hl)
      | (refine wpAny_ite_false (decide_eq_false (by rw [c1]; exact Bool.false_ne_true)) ?_; wp_walk using wpAny_loadPart' hl)
      | (refine wpAny_ite_true (decide_eq_true c2) ?_; wp_walk using wpAny_loadPart' hl)
      | (refine wpAny_ite_false (decide_eq_false (Nat.not_lt.mpr (Nat.zero_le _))) ?_; wp_walk using wpAny_loadPart' hl))
    exact ⟨_, rfl, h⟩
/-- a tuple times an int: the same tuple, an empty one, or its copies -/
def rRepA (K : Fg) : R2 := fun x y H Q => ∃ l k xs, x = .ref l ∧ y = .int k ∧ SqT K H l xs ∧ -1000000 ≤ k ∧ k ≤ 1000 ∧ xs.length ≤ 1000 ∧
  ((xs = [] ∨ k = 1) → Q (.ref l) H) ∧ (¬ (xs = [] ∨ k = 1) → ∀ p, H p = none → Q (.ref p) (upd H p (.tup (repL xs k))))
section
variable {X : Cx}
theorem op_repA : OpR X (binaryOp .Mult) (rRepA X.K) := by
  intro pins s σ H x y v u Q I rx ry h
  obtain ⟨l, k, xs, rfl, rfl, hT, h1, h2, hz, qs, qn⟩ := h
  by_cases hbig : xs ≠ [] ∧ 2 ≤ k
  · have hne : ¬ (xs = [] ∨ k = 1) := fun z => z.elim hbig.1 (fun e => by have := hbig.2; omega)
    exact op_repT pins s σ H _ _ v u Q I rx ry ⟨l, k, xs, rfl, rfl, hT, hbig.1, hbig.2, h2, hz, qn hne⟩
  · cases rx
    obtain ⟨t, rfl⟩ := ry
    obtain ⟨its, r, ⟨⟨cls, dd, data, sl⟩, ho, hc, n, hd⟩, hs⟩ := I.tuple hT
    simp only at hc hd
    subst hc hd
    have c0 : (decide (k < -(2 ^ 63)) || decide (k ≥ 2 ^ 63)) = false := by
      rw [decide_eq_false (by omega), decide_eq_false (by omega)] <;> rfl
    have he : its.toArray.isEmpty = xs.isEmpty := by cases r <;> simp
    by_cases hsame : xs = [] ∨ k = 1
    · have c1 : (its.toArray.isEmpty || k == 1) = true := by
        rw [he]
        rcases hsame with e | e
        · rw [e]; rfl
        · rw [e]; simp
      exact wpAny_binaryOp_repeat_ref (T := "tuple") (U := "int") (by decide) ⟨_, ho, rfl⟩ (fun s' => typeIs_int s' k t) noFill_tuple_mul F.fills_int_mul F.slot_int_rmul repeat_tuple F.slot_int_index.lookup
        (call_meets F.slot_int_rmul (typeIs_int s k t) F.entry_int_rmul (F.args_int_rmul_2 _ _) (int_rmul_tuple k t l its.toArray n dd sl)
          ⟨ho, rfl, ⟨_, ho, rfl⟩, call_meets F.slot_tuple_mul ⟨_, ho, rfl⟩ F.entry_tuple_mul (F.args_tuple_mul_2 _ _) (tmul_same l its.toArray n dd sl k t c0 c1) ⟨ho, ⟨.ref l, H, I, rfl, qs hsame⟩⟩⟩)
    · have hx : xs ≠ [] := fun e => hsame (.inl e)
      have hk : k ≤ 0 := by
        have a1 : ¬ k = 1 := fun e => hsame (.inr e)
        have a2 : ¬ 2 ≤ k := fun e => hbig ⟨hx, e⟩
        omega
      have hxe : xs.isEmpty = false := by cases xs with
        | nil => exact absurd rfl hx
        | cons a b => rfl
      have c1 : (its.toArray.isEmpty || k == 1) = false := by
        rw [he, hxe, Bool.false_or]
        exact beq_eq_false_iff_ne.mpr (by omega)
      have c2 : (decide (k ≤ 0) || its.toArray.isEmpty) = true := by
        rw [decide_eq_true hk]; rfl
      have e0 : repL xs k = [] := by
        unfold repL
        rw [show k.toNat = 0 by omega]
        rfl
      refine wpAny_binaryOp_repeat_ref (T := "tuple") (U := "int") (by decide) ⟨_, ho, rfl⟩ (fun s' => typeIs_int s' k t) noFill_tuple_mul F.fills_int_mul F.slot_int_rmul repeat_tuple F.slot_int_index.lookup
        (call_meets F.slot_int_rmul (typeIs_int s k t) F.entry_int_rmul (F.args_int_rmul_2 _ _) (int_rmul_tuple k t l its.toArray n dd sl)
          ⟨ho, rfl, ⟨_, ho, rfl⟩, call_meets F.slot_tuple_mul ⟨_, ho, rfl⟩ F.entry_tuple_mul (F.args_tuple_mul_2 _ _) (tmul_none l its.toArray n dd sl k t c0 c1 c2) ⟨ho, ?_⟩⟩)
      have q := qn hsame s.heap.objs.size (I.hok.fresh (Nat.le_refl _))
      rw [e0] at q
      refine ⟨.ref s.heap.objs.size, _, I.laid (t' := s.toks) (o := .tup []) (fun b ob q => Heap.get?_push_of_some _ q) (Nat.le_refl _) ?_, rfl, q⟩
      exact ⟨Nat.zero_le _, [], .nil, IsTup.new _ _⟩
/-- a text times an int -/
def rRepS : R2 := fun x y H Q => ∃ a k, x = .str (SO a) ∧ y = .int k ∧ -1000000 ≤ k ∧ k ≤ 1000 ∧ a.length ≤ 1000 ∧ Q (.str (SO (repL a k))) H
theorem fold_app {α : Type} (a : List α) : ∀ (n : Nat) (acc : Array α), (List.replicate n a.toArray).foldl (· ++ ·) acc = acc ++ (List.replicate n a).flatten.toArray
  | 0, acc => by simp
  | n + 1, acc => by
    rw [List.replicate_succ, List.foldl_cons, fold_app a n, List.replicate_succ, List.flatten_cons]
    simp
theorem repL_len {α : Type} (a : List α) (k : Int) : (repL a k).length = k.toNat * a.length := flat_rep a k.toNat
theorem op_repS : OpR X (binaryOp .Mult) rRepS := by
  intro pins s σ H x y v u Q I rx ry h
  obtain ⟨a, k, rfl, rfl, h1, h2, hz, q⟩ := h
  obtain ⟨t, rfl⟩ := rx
  obtain ⟨t', rfl⟩ := ry
  have hm : k.toNat * a.length ≤ 1000 * 1000 := Nat.mul_le_mul (by omega) hz
  have c0 : (decide (k < -(2 ^ 63 : Int)) || decide (k ≥ 2 ^ 63)) = false := by
    rw [decide_eq_false (by omega), decide_eq_false (by omega)] <;> rfl
  refine PySem.P.mul_str c0 (fun h3 _ => ?_) (fun h3 _ => ?_) ?_
  · have hk : 1 ≤ k := by omega
    have e1 : ((SO a).length : Int) ≤ 1000 := by rw [SO_len]; omega
    have e2 : (1000 : Int) ≤ (2 ^ 63 - 1) / k := (Int.le_ediv_iff_mul_le (by omega)).mpr (by omega)
    omega
  · unfold Builtin.Str.tooLong
    rw [SO_len, Nat.mul_comm, sizeLine_eq]
    exact decide_eq_false (by omega)
  · by_cases hk : k < 1
    · rw [if_pos hk]
      have e0 : repL a k = [] := by
        unfold repL
        rw [show k.toNat = 0 by omega]
        rfl
      rw [e0] at q
      exact ⟨by decide, ⟨.str (SO []), H, I.tok _, ⟨_, rfl⟩, q⟩⟩
    · rw [if_neg hk]
      by_cases hs : (k == 1 || (SO a).length == 0) = true
      · rw [if_pos hs]
        have e0 : repL a k = a := by
          rcases Bool.or_eq_true_iff.mp hs with e | e
          · have e1 : k = 1 := eq_of_beq e
            rw [e1]
            simp [repL]
          · have e1 : a = [] := by
              have e2 : (SO a).length = 0 := eq_of_beq e
              rw [SO_len] at e2
              exact List.eq_nil_of_length_eq_zero e2
            rw [e1]
            apply List.eq_nil_of_length_eq_zero
            rw [repL_len]
            simp
        rw [e0] at q
        exact ⟨.str (SO a), H, I, ⟨_, rfl⟩, q⟩
      · rw [if_neg hs]
        have e0 : (⟨(List.replicate k.toNat (SO a).cps).foldl (· ++ ·) #[]⟩ : Str) = SO (repL a k) := by
          show (⟨(List.replicate k.toNat a.toArray).foldl (· ++ ·) #[]⟩ : Str) = _
          rw [fold_app]
          simp [repL, SO]
        rw [e0]
        refine ⟨?_, ⟨.str (SO (repL a k)), H, I.tok _, ⟨_, rfl⟩, q⟩⟩
        first
          | (rw [SO_len, repL_len, sizeLine_eq]; omega)
          | (show (SO (repL a k)).length ≤ _; rw [SO_len, repL_len, sizeLine_eq]; omega)
theorem mulOk_of {i j : Int} (h : mulOk i j = true) : IntMulOk i j := by
  rcases Bool.or_eq_true_iff.mp h with h | h
  · have h2 := of_decide_eq_true h
    rw [two64_eq] at h2
    exact CMul.ok h2
  · have h2 : i.natAbs.log2 + j.natAbs.log2 < 1000000 := of_decide_eq_true h
    exact CMulW.ok h2
theorem op_mulF : OpR X (binaryOp .Mult) (rI IntMulOk fun i j => .int (i * j)) := opI fun _ _ _ _ _ _ _ hc q => mul_int q hc
theorem op_binMul : OpR X (binaryOp .Mult) (rBin X.K .mul) := by
  have h1 : OpR X (binaryOp .Mult) _ := (OpR.or op_mulF (OpR.or op_repA (OpR.or op_repS op_rep)))
  refine OpR.imp' h1 ?_
  rintro x y H Q ⟨B, m, S, a, b, H0, d, t, ra, rb, hn, e, Z, W, h⟩
  rcases mulD_cases e with ⟨i, j, rfl, rfl, hc, rfl⟩ | ⟨i, k, rfl, rfl, hz, rfl⟩ | ⟨i, k, rfl, rfl, hz, rfl⟩ | ⟨i, k, ea, rfl, hz, rfl⟩
  · exact .inl ⟨i, j, ra.int_of, rb.int_of, mulOk_of hc, fin_plain t h (.int _) fun _ e => nomatch e⟩
  · obtain ⟨a1, v1, rfl, s1, r1⟩ := ra.tup_of
    refine .inr (.inl ⟨a1, k, v1, rfl, rb.int_of, s1, hz.2.2, hz.2.1, by rw [← r1.len]; exact hz.1, fun q => ?_, fun q p hp => fin_tup t h hp (r1.rep _)⟩)
    have e0 : repL i k = i := by
      rcases q with q | q
      · have e1 : i = [] := nil_of_len r1.len q
        rw [e1]
        apply List.eq_nil_of_length_eq_zero
        rw [repL_len]
        simp
      · rw [q]; simp [repL]
    rw [e0] at h
    exact fin_plain t h ra fun _ e => nomatch e
  · exact .inr (.inr (.inl ⟨i, k, ra.str_of, rb.int_of, hz.2.2, hz.2.1, hz.1, fin_plain t h (.str _ (okS_sub ra.str_ok fun c hc => by
      obtain ⟨l, hl, hm⟩ := List.mem_flatten.mp (show c ∈ (List.replicate k.toNat i).flatten from hc)
      rw [List.eq_of_mem_replicate hl] at hm
      exact hm)) fun _ e => nomatch e⟩))
  · obtain ⟨l1, v1, rfl, h1, r1⟩ := ra.own_of t ea
    have hl := r1.len
    have hm : v1.length * k.toNat ≤ 1000 * 1000 := Nat.mul_le_mul (by omega) (by omega)
    exact .inr (.inr (.inr ⟨l1, k, v1, rfl, rb.int_of, h1, by omega, by omega, by rw [sizeLine_eq]; omega, fun p hp => fin_lst t hn h hp (r1.rep _)⟩))
def boOp : (o : Bo) → OpR X (binaryOp (boOf o)) (rBin X.K o)
  | .add => op_binA | .sub => op_binS | .mul => op_binMul | .mod => op_binMod | .fdiv => op_binDiv | .pow => op_binPow | .shl => op_binShl
end
end Fb
set_option Elab.async false
set_option linter.all false
set_option maxRecDepth 100000
set_option maxHeartbeats 2000000
/-! Fb4: comparisons by values. -/
namespace Fb
open PySem PySem.Spec PyProof.Rows L2
mutual
def toPy : D → PyData
  | .non => .none
  | .bl b => .bool b
  | .int i => .int i
  | .str x => .str (SO x)
  | .tup xs => .tuple (toPys xs)
  | .lst xs => .list (toPys xs)
  | .ro xs => .list (toPys xs)
  | .cell _ => .none
def toPys : List D → List PyData
  | [] => []
  | x :: xs => toPy x :: toPys xs
end
section
variable {K : Fg} {B m : List Addr} {H : Hp} {S : Store}
mutual
theorem RelD.dp : ∀ {d : D} {v : V}, RelD K B m H d v → d.free = true → Dp K H v (toPy d)
  | _, _, .non, _ => .non
  | _, _, .bl b, _ => .bl b
  | _, _, .int i, _ => .int i
  | _, _, .str x _, _ => .str _
  | _, _, .tup q r, f => .tup q.sq (RelDs.dp r f)
  | _, _, .lst q r, f => .lst q.sq (RelDs.dp r f)
  | _, _, .ro q r, f => .lst q.sq (RelDs.dp r f)
  | _, _, .cell _, f => nomatch (show false = true from f)
theorem RelDs.dp : ∀ {ds : List D} {vs : List V}, RelDs K B m H ds vs → D.frees ds = true → DpAll K H vs (toPys ds)
  | _, _, .nil, _ => .nil
  | _, _, .cons r s, f => .cons (RelD.dp r (Bool.and_eq_true_iff.mp f).1) (RelDs.dp s (Bool.and_eq_true_iff.mp f).2)
end
end
theorem SO_beq (x y : List Nat) : (SO x == SO y) = (x == y) := by
  rw [Bool.eq_iff_iff, beq_iff_eq, beq_iff_eq]
  exact ⟨SO_inj, fun e => by rw [e]⟩
theorem beqI_l (a : Bool) (j : Int) : ((if a then 1 else 0) == j) = beqI a j := rfl
mutual
theorem eqv_py : ∀ a b : D, a.free = true → b.free = true → PyData.eqv (toPy a) (toPy b) = D.eqv a b
  | .non, b, _, f => by cases b <;> first | rfl | cases f
  | .bl a, b, _, f => by cases b <;> first | rfl | cases f
  | .int i, b, _, f => by
    cases b with
    | bl c => show (i == (if c then 1 else 0)) = beqI c i; unfold beqI; exact Bool.beq_comm
    | cell n => cases f
    | _ => rfl
  | .str x, b, _, f => by
    cases b with
    | str y => exact SO_beq x y
    | cell n => cases f
    | _ => rfl
  | .tup xs, b, g, f => by
    cases b with
    | tup ys => exact eqvs_py xs ys g f
    | cell n => cases f
    | _ => rfl
  | .lst xs, b, g, f => by
    cases b with
    | lst ys => exact eqvs_py xs ys g f
    | ro ys => exact eqvs_py xs ys g f
    | cell n => cases f
    | _ => rfl
  | .ro xs, b, g, f => by
    cases b with
    | lst ys => exact eqvs_py xs ys g f
    | ro ys => exact eqvs_py xs ys g f
    | cell n => cases f
    | _ => rfl
  | .cell n, _, g, _ => nomatch (show false = true from g)
theorem eqvs_py : ∀ xs ys : List D, D.frees xs = true → D.frees ys = true → PyData.eqvAll (toPys xs) (toPys ys) = D.eqvs xs ys
  | [], [], _, _ => rfl
  | [], _ :: _, _, _ => rfl
  | _ :: _, [], _, _ => rfl
  | x :: xs, y :: ys, g, f => by
    have g2 := Bool.and_eq_true_iff.mp g
    have f2 := Bool.and_eq_true_iff.mp f
    show (PyData.eqv (toPy x) (toPy y) && PyData.eqvAll (toPys xs) (toPys ys)) = (D.eqv x y && D.eqvs xs ys)
    rw [eqv_py x y g2.1 f2.1, eqvs_py xs ys g2.2 f2.2]
end
mutual
theorem depth_py : ∀ a : D, (toPy a).depth = D.depth a
  | .non => rfl | .bl _ => rfl | .int _ => rfl | .str _ => rfl | .cell _ => rfl
  | .tup xs => by show PyData.depthAll (toPys xs) + 1 = _; rw [depths_py xs]; rfl
  | .lst xs => by show PyData.depthAll (toPys xs) + 1 = _; rw [depths_py xs]; rfl
  | .ro xs => by show PyData.depthAll (toPys xs) + 1 = _; rw [depths_py xs]; rfl
theorem depths_py : ∀ xs : List D, PyData.depthAll (toPys xs) = D.depths xs
  | [] => rfl
  | x :: xs => by show max (toPy x).depth (PyData.depthAll (toPys xs)) = _; rw [depth_py x, depths_py xs]; rfl
end
section
variable {K : Fg} {B m : List Addr} {H : Hp}
theorem strOk_of {x : List Nat} (h : okS x = true) : PyData.strOk (SO x) = true := by
  unfold PyData.strOk
  rw [Array.all_eq_true']
  intro c hc
  have h2 := List.all_eq_true.mp h c (by simpa [SO] using hc)
  exact h2
mutual
theorem lay_py : ∀ {a : D} {v : V}, RelD K B m H a v → (toPy a).canLay0 = true
  | _, _, .non => rfl
  | _, _, .bl _ => rfl
  | _, _, .int _ => rfl
  | _, _, .str _ h => strOk_of h
  | _, _, .cell _ => rfl
  | _, _, .tup _ r => lays_py r
  | _, _, .lst _ r => lays_py r
  | _, _, .ro _ r => lays_py r
theorem lays_py : ∀ {xs : List D} {vs : List V}, RelDs K B m H xs vs → PyData.canLayAll0 (toPys xs) = true
  | _, _, .nil => rfl
  | _, _, .cons r s => by show (PyData.canLay0 (toPy _) && PyData.canLayAll0 (toPys _)) = true; rw [lay_py r, lays_py s]; rfl
end
theorem shaped_py {a : D} {v : V} (r : RelD K B m H a v) (h : D.depth a ≤ 64) : SeqAt.shaped (toPy a) = true := by
  unfold SeqAt.shaped
  rw [lay_py r, depth_py, decide_eq_true h]
  rfl
theorem shaped_pys {xs : List D} {vs : List V} (r : RelDs K B m H xs vs) (h : D.depths xs ≤ 63) : SeqAt.shaped (.list (toPys xs)) = true := by
  unfold SeqAt.shaped
  rw [show PyData.canLay0 (.list (toPys xs)) = true from lays_py r, show PyData.depth (.list (toPys xs)) = PyData.depthAll (toPys xs) + 1 from rfl, depths_py, decide_eq_true (show D.depths xs + 1 ≤ 64 by omega)]
  rfl
end
theorem mem_py {x : D} (fx : x.free = true) : ∀ ys : List D, D.frees ys = true → ((toPys ys).any fun z => PyData.eqv z (toPy x)) = memD x ys
  | [], _ => rfl
  | y :: ys, f => by
    have f2 := Bool.and_eq_true_iff.mp f
    show (PyData.eqv (toPy y) (toPy x) || (toPys ys).any fun z => PyData.eqv z (toPy x)) = (D.eqv y x || memD x ys)
    rw [eqv_py y x f2.1 fx, mem_py fx ys f2.2]
/-! ### by values -/
def rCmp (K : Fg) (o : Co) : R2 := fun x y H Q => ∃ B m S a b t, At K B m S H ∧ RelD K B m H a x ∧ RelD K B m H b y ∧ cmpD S o a b = some t ∧ Q (.bl t) H
def coOf : Co → CmpOp
  | .eq => .Eq | .ne => .NotEq | .lt => .Lt | .le => .LtE | .gt => .Gt | .ge => .GtE | .isIn => .In | .notIn => .NotIn
section
variable {X : Cx}
theorem RelD.data {K : Fg} {B m : List Addr} {H : Hp} {S : Store} (t : At K B m S H) {d a : D} {v : V} (r : RelD K B m H d v) (e : dataOf S d = some a) (f : a.free = true) : Dp K H v (toPy a) ∧ (D.depth a ≤ 60 → SeqAt.shaped (toPy a) = true) := by
  cases d with
  | cell n =>
    have e2 : (lstOf S (.cell n)).map D.lst = some a := e
    cases q : lstOf S (.cell n) with
    | none => rw [q] at e2; cases e2
    | some xs =>
      rw [q] at e2
      cases e2
      obtain ⟨p, vs, rfl, hs, rs⟩ := r.lst_of t q
      exact ⟨.lst hs (rs.dp f), fun z => shaped_pys rs (by have : D.depths xs + 1 ≤ 60 := z; omega)⟩
  | _ => cases e; exact ⟨r.dp f, fun z => shaped_py r (by omega)⟩
theorem eqD_cases {S : Store} {a b : D} {t : Bool} (h : eqD S a b = some t) : ∃ c d, dataOf S a = some c ∧ dataOf S b = some d ∧ c.free = true ∧ d.free = true ∧ D.depth c ≤ 60 ∧ D.depth d ≤ 60 ∧ t = D.eqv c d := by
  unfold eqD at h
  split at h
  · split at h
    · rename_i c
      cases h
      simp only [Bool.and_eq_true, decide_eq_true_eq] at c
      exact ⟨_, _, by assumption, by assumption, c.1.1.1, c.1.1.2, c.1.2, c.2, rfl⟩
    · cases h
  · cases h
theorem op_cmpEq (hu : X.A.units + 64 < cLine) : OpR X (compareOp .Eq) (rCmp X.K .eq) := by
  refine OpR.imp' (op_eqD hu) ?_
  rintro x y H Q ⟨B, m, S, a, b, t, t0, ra, rb, e, q⟩
  obtain ⟨c, d, e1, e2, f1, f2, d1, d2, rfl⟩ := eqD_cases e
  refine ⟨toPy c, toPy d, (ra.data t0 e1 f1).1, (rb.data t0 e2 f2).1, (ra.data t0 e1 f1).2 d1, (rb.data t0 e2 f2).2 d2, ?_⟩
  rw [eqv_py c d f1 f2]
  exact q
theorem map_not {o : Option Bool} {t : Bool} (h : o.map (!·) = some t) : ∃ s, o = some s ∧ t = !s := by
  cases o with
  | none => cases h
  | some s => cases h; exact ⟨s, rfl, rfl⟩
theorem op_cmpNe (hu : X.A.units + 64 < cLine) : OpR X (compareOp .NotEq) (rCmp X.K .ne) := by
  refine OpR.imp' (op_neD hu) ?_
  rintro x y H Q ⟨B, m, S, a, b, t, t0, ra, rb, e, q⟩
  obtain ⟨s, e0, rfl⟩ := map_not e
  obtain ⟨c, d, e1, e2, f1, f2, d1, d2, rfl⟩ := eqD_cases e0
  refine ⟨toPy c, toPy d, (ra.data t0 e1 f1).1, (rb.data t0 e2 f2).1, (ra.data t0 e1 f1).2 d1, (rb.data t0 e2 f2).2 d2, ?_⟩
  rw [eqv_py c d f1 f2]
  exact q
theorem op_cmpI {o : Co} {f : Value → Value → Sem Value} {g : Int → Int → Bool} (hr : OpR X f (rI0 fun i j => .bl (g i j))) (hc : ∀ S a b, cmpD S o a b = ltD g a b) : OpR X f (rCmp X.K o) := by
  refine OpR.imp' hr ?_
  rintro x y H Q ⟨B, m, S, a, b, t, t0, ra, rb, e, q⟩
  rw [hc] at e
  unfold ltD at e
  split at e
  · cases e
    exact ⟨_, _, ra.int_of, rb.int_of, q⟩
  · cases e
theorem flat_V {K : Fg} {B m : List Addr} {H : Hp} {d : D} {v : V} (r : RelD K B m H d v) (f : d.flat = true) : flatV v = true := by
  cases r <;> first | rfl | exact nomatch f
theorem flats_V {K : Fg} {B m : List Addr} {H : Hp} : ∀ {ds : List D} {vs : List V}, RelDs K B m H ds vs → ds.all D.flat = true → vs.all flatV = true
  | _, _, .nil, _ => rfl
  | _, _, .cons r s, f => by
    have f2 := Bool.and_eq_true_iff.mp f
    show (flatV _ && List.all _ flatV) = true
    rw [flat_V r f2.1, flats_V s f2.2]
    rfl
theorem eqV_flat {K : Fg} {B m : List Addr} {H : Hp} {d e : D} {v u : V} (r : RelD K B m H d v) (q : RelD K B m H e u) (f : d.flat = true) (g : e.flat = true) : eqV v u = D.eqv d e := by
  cases r with
  | tup _ _ => exact absurd f Bool.false_ne_true
  | lst _ _ => exact absurd f Bool.false_ne_true
  | ro _ _ => exact absurd f Bool.false_ne_true
  | cell _ => exact absurd f Bool.false_ne_true
  | non => cases q <;> rfl
  | bl a => cases q <;> rfl
  | int i => cases q <;> first | rfl | (show (i == _) = beqI _ i; unfold beqI; exact Bool.beq_comm)
  | str x h => cases q <;> first | rfl | exact SO_beq _ _
theorem inV_flat {K : Fg} {B m : List Addr} {H : Hp} {x : D} {v : V} (q : RelD K B m H x v) (g : x.flat = true) : ∀ {ds : List D} {vs : List V}, RelDs K B m H ds vs → ds.all D.flat = true → inV v vs = memD x ds
  | _, _, .nil, _ => rfl
  | _, _, .cons r s, f => by
    have f2 := Bool.and_eq_true_iff.mp f
    show (eqV _ _ || inV v _) = (D.eqv _ _ || memD x _)
    rw [eqV_flat r q f2.1 g, inV_flat q g s f2.2]
theorem inD_cases {S : Store} {a b : D} {t : Bool} (h : inD S a b = some t) : (∃ c y, a = .str [c] ∧ b = .str y ∧ t = y.contains c) ∨ (∃ ys, b = .tup ys ∧ a.flat = true ∧ ys.all D.flat = true ∧ t = memD a ys) ∨
    (∃ ys, lstOf S b = some ys ∧ a.free = true ∧ D.frees ys = true ∧ D.depth a ≤ 60 ∧ D.depths ys ≤ 60 ∧ t = memD a ys) := by
  unfold inD at h
  split at h
  · split at h
    · cases h; exact .inl ⟨_, _, rfl, rfl, rfl⟩
    · cases h
  · split at h
    · rename_i c
      cases h
      simp only [Bool.and_eq_true] at c
      exact .inr (.inl ⟨_, rfl, c.1, c.2, rfl⟩)
    · cases h
  · split at h
    · split at h
      · rename_i c
        cases h
        simp only [Bool.and_eq_true, decide_eq_true_eq] at c
        exact .inr (.inr ⟨_, by assumption, c.1.1.1, c.1.1.2, c.1.2, c.2, rfl⟩)
      · cases h
    · cases h
theorem one_in (c : Nat) (y : List Nat) : (!(Builtin.Str.occurrences (SO y) (SO [c]) 0 (SO y).length 1).isEmpty) = y.contains c := by
  rw [show (Builtin.Str.occurrences (SO y) (SO [c]) 0 (SO y).length 1).isEmpty = !decide (c ∈ (SO y).cps.toList) from empty_one (SO y) c, Bool.not_not]
  simp [SO]
theorem op_cmpIn (hu : X.A.units + 65 < cLine) : OpR X (compareOp .In) (rCmp X.K .isIn) := by
  have h1 : OpR X (compareOp .In) _ := OpR.or op_in_str (OpR.or op_in_seq (op_inD hu))
  refine OpR.imp' h1 ?_
  rintro x y H Q ⟨B, m, S, a, b, t, t0, ra, rb, e, q⟩
  rcases inD_cases e with ⟨c, z, rfl, rfl, rfl⟩ | ⟨ys, rfl, f1, f2, rfl⟩ | ⟨ys, e1, f1, f2, d1, d2, rfl⟩
  · refine .inl ⟨_, _, ra.str_of, rb.str_of, ?_⟩
    rw [one_in]
    exact q
  · obtain ⟨p, vs, rfl, hs, rs⟩ := rb.tup_of
    refine .inr (.inl ⟨p, vs, rfl, .inr hs, flat_V ra f1, flats_V rs f2, ?_⟩)
    rw [if_neg Bool.false_ne_true, inV_flat ra f1 rs f2]
    exact q
  · obtain ⟨p, vs, rfl, hs, rs⟩ := rb.lst_of t0 e1
    refine .inr (.inr ⟨toPy a, toPys ys, ra.dp f1, .lst hs (rs.dp f2), shaped_py ra (by omega), shaped_pys rs (by omega), ?_⟩)
    rw [mem_py f1 ys f2]
    exact q
theorem op_cmpNotIn (hu : X.A.units + 65 < cLine) : OpR X (compareOp .NotIn) (rCmp X.K .notIn) := by
  have h1 : OpR X (compareOp .NotIn) _ := OpR.or op_notin_str (OpR.or op_notIn_seq (op_notInD hu))
  refine OpR.imp' h1 ?_
  rintro x y H Q ⟨B, m, S, a, b, t, t0, ra, rb, e, q⟩
  obtain ⟨s, e0, rfl⟩ := map_not e
  rcases inD_cases e0 with ⟨c, z, rfl, rfl, rfl⟩ | ⟨ys, rfl, f1, f2, rfl⟩ | ⟨ys, e1, f1, f2, d1, d2, rfl⟩
  · refine .inl ⟨_, _, ra.str_of, rb.str_of, ?_⟩
    rw [one_in]
    exact q
  · obtain ⟨p, vs, rfl, hs, rs⟩ := rb.tup_of
    refine .inr (.inl ⟨p, vs, rfl, .inr hs, flat_V ra f1, flats_V rs f2, ?_⟩)
    rw [if_pos rfl, inV_flat ra f1 rs f2]
    exact q
  · obtain ⟨p, vs, rfl, hs, rs⟩ := rb.lst_of t0 e1
    refine .inr (.inr ⟨toPy a, toPys ys, ra.dp f1, .lst hs (rs.dp f2), shaped_py ra (by omega), shaped_pys rs (by omega), ?_⟩)
    rw [mem_py f1 ys f2]
    exact q
theorem coOp (hu : X.A.units + 65 < cLine) : (o : Co) → OpR X (compareOp (coOf o)) (rCmp X.K o)
  | .eq => op_cmpEq (by omega) | .ne => op_cmpNe (by omega) | .lt => op_cmpI op_lt fun _ _ _ => rfl | .le => op_cmpI op_le fun _ _ _ => rfl
  | .gt => op_cmpI op_gt fun _ _ _ => rfl | .ge => op_cmpI op_ge fun _ _ _ => rfl | .isIn => op_cmpIn hu | .notIn => op_cmpNotIn hu
end
end Fb
set_option Elab.async false
set_option linter.all false
set_option maxRecDepth 100000
set_option maxHeartbeats 2000000
/-! Fb5: truth, subscripts, slices, built-ins, methods by values. -/
namespace Fb
open PySem PySem.Spec PyProof.Rows L2
section
variable {K : Fg} {B m : List Addr} {H H0 : Hp} {S : Store}
theorem seq_isEmpty {ds : List D} {vs : List V} (r : RelDs K B m H ds vs) : ds.isEmpty = vs.isEmpty := by cases r <;> rfl
theorem RelD.truth (t : At K B m S H) {d : D} {v : V} {b : Bool} (r : RelD K B m H d v) (e : truthD S d = some b) : TruV K v H b := by
  have seq : ∀ xs, seqOf S d = some xs → (some !xs.isEmpty) = some b → TruV K v H b := fun xs e1 e2 => by
    obtain ⟨a, vs, rfl, hs, rs⟩ := r.seq_of t e1
    cases e2
    rcases hs with hs | hs
    · exact .inl ⟨vs, hs, by rw [seq_isEmpty rs]⟩
    · exact .inr (.inl ⟨vs, hs, by rw [seq_isEmpty rs]⟩)
  cases d with
  | non => cases r; cases e; rfl
  | bl c => cases r; cases e; rfl
  | int i => cases r; cases e; rfl
  | str x =>
    cases r
    have e : (if x.length ≤ SL then some (!x.isEmpty) else none) = some b := e
    split at e
    · cases e
      refine ⟨by rw [SO_len, ← SL_eq]; assumption, ?_⟩
      rw [SO_len]
      cases x with
      | nil => rfl
      | cons c r => simp; omega
    · cases e
  | tup xs => exact seq xs rfl e
  | lst xs => exact seq xs rfl e
  | ro xs => exact seq xs rfl e
  | cell n =>
    have e : (seqOf S (.cell n)).map (fun xs => !xs.isEmpty) = some b := e
    cases q : seqOf S (.cell n) with
    | none => rw [q] at e; cases e
    | some xs => rw [q] at e; exact seq xs q e
theorem ixL_at {α : Type} (xs : List α) (i : Int) : ixL xs i = atI xs i := by
  unfold ixL atI ixN
  by_cases h : i < 0
  · rw [if_pos h, if_neg (show ¬ 0 ≤ i by omega)]
    by_cases h2 : i + xs.length < 0
    · rw [if_pos h2, if_neg (show ¬ -(xs.length : Int) ≤ i by omega)]; rfl
    · rw [if_neg h2, if_pos (show -(xs.length : Int) ≤ i by omega)]; rfl
  · rw [if_neg h, if_pos (show 0 ≤ i by omega)]
    by_cases h2 : i < xs.length
    · rw [if_pos h2]; rfl
    · rw [if_neg h2, List.getElem?_eq_none (by omega)]; rfl
theorem atI_rel {ds : List D} {vs : List V} {i : Int} {d : D} (r : RelDs K B m H ds vs) (e : ixL ds i = some d) : ∃ v, atI vs i = some v ∧ RelD K B m H d v := by
  rw [ixL_at] at e
  unfold atI at *
  rw [← r.len]
  cases q : ixN ds.length i with
  | none => rw [q] at e; cases e
  | some j =>
    rw [q] at e
    obtain ⟨v, h1, h2⟩ := r.get (i := j) e
    exact ⟨v, h1, h2⟩
theorem cut1_eq (n d : Nat) (o : Option Int) : cut1 n o d = HT.sIx n d o := by cases o <;> rfl
theorem cutL_V {ds : List D} {vs : List V} (r : RelDs K B m H ds vs) (lo hi : Option Int) : RelDs K B m H (cutL ds lo hi) (cutV vs lo hi) := by
  unfold cutL cutV
  rw [cut1_eq, cut1_eq, r.len]
  exact (r.drop _).take _
end
/-! ### subscripts -/
def rIdx (K : Fg) : R2 := fun x y H Q => ∃ B m S a b d, At K B m S H ∧ RelD K B m H a x ∧ RelD K B m H b y ∧ (∃ S', idxM a b S = .ok d S') ∧ ∀ v, RelD K B m H d v → Q v H
section
variable {X : Cx}
theorem idx_cases {S S' : Store} {a b d : D} (h : idxM a b S = .ok d S') : S' = S ∧ ((∃ z i c, a = .str z ∧ b = .int i ∧ z.length ≤ SL ∧ ixL z i = some c ∧ d = .str [c]) ∨ ∃ xs i, seqOf S a = some xs ∧ b = .int i ∧ ixL xs i = some d) := by
  unfold idxM at h
  split at h
  · split at h
    · cases e : ixL _ _ with
      | none => rw [e] at h; cases h
      | some c => rw [e] at h; cases h; exact ⟨rfl, .inl ⟨_, _, c, rfl, rfl, by assumption, e, rfl⟩⟩
    · cases h
  · split at h
    · cases e : ixL _ _ with
      | none => rw [e] at h; cases h
      | some c => rw [e] at h; cases h; exact ⟨rfl, .inr ⟨_, _, by assumption, rfl, e⟩⟩
    · cases h
  · cases h
theorem op_idx : IxR X (rIdx X.K) := by
  have h1 : IxR X (rIx X.K) := ix_seq
  intro value slice pins s σ H x y v u Q I rx ry h hs
  refine h1 value slice pins s σ H x y v u Q I rx ry ?_ hs
  obtain ⟨B, m, S, a, b, d, t, ra, rb, ⟨S', e⟩, q⟩ := h
  obtain ⟨rfl, e0⟩ := idx_cases e
  clear e
  rcases e0 with ⟨z, i, c, rfl, rfl, hz, e, rfl⟩ | ⟨xs, i, e1, rfl, e2⟩
  · refine .inr (.inr ⟨SO z, i, c, ra.str_of, rb.int_of, by rw [SO_len, ← SL_eq]; exact hz, ?_, ?_⟩)
    · show atI z.toArray.toList i = some c
      rw [← ixL_at]
      exact e
    · refine q _ (.str _ ?_)
      refine okS_sub ra.str_ok fun k hk => ?_
      rw [List.mem_singleton.mp hk]
      rw [ixL_at] at e
      unfold atI at e
      cases q2 : ixN z.length i with
      | none => rw [q2] at e; cases e
      | some j => rw [q2] at e; exact List.mem_of_getElem? e
  · obtain ⟨p, vs, rfl, hq, rs⟩ := ra.seq_of t e1
    obtain ⟨v2, h2, r2⟩ := atI_rel rs e2
    rcases hq with hq | hq
    · exact .inl ⟨p, vs, i, v2, rfl, rb.int_of, hq, h2, q _ r2⟩
    · exact .inr (.inl ⟨p, vs, i, v2, rfl, rb.int_of, hq, h2, q _ r2⟩)
/-! ### slices -/
def rCut (K : Fg) : V → Option Int → Option Int → Hp → VK → Prop := fun x lo hi H Q => ∃ B m S a H0 d, At K B m S H ∧ RelD K B m H a x ∧ (∀ p, H p = none → H0 p = none) ∧
  cutD S a lo hi = some d ∧ ∃ Z W, FinG K Z B m H W (.ok d S) (PD K B H0 true Q)
theorem cutS_SO (z : List Nat) (lo hi : Option Int) : cutS (SO z) lo hi = SO (cutL z lo hi) := by
  unfold cutS cutL
  rw [SO_len, cut1_eq, cut1_eq]
theorem cutL_mem {α : Type} {xs : List α} {lo hi : Option Int} {c : α} (h : c ∈ cutL xs lo hi) : c ∈ xs := List.mem_of_mem_drop (List.mem_of_mem_take h)
theorem SlR.imp' {r r' : V → Option Int → Option Int → Hp → VK → Prop} (h : SlR X r) (i : ∀ x lo hi H Q, r' x lo hi H Q → r x lo hi H Q) : SlR X r' :=
  fun pins s σ H x v vl vu lo hi sl Q I rx hs pl pu q => h pins s σ H x v vl vu lo hi sl Q I rx hs pl pu (i _ _ _ _ _ q)
theorem cutD_cases {S : Store} {a d : D} {lo hi : Option Int} (h : cutD S a lo hi = some d) : (∃ z, a = .str z ∧ z.length ≤ SL ∧ d = .str (cutL z lo hi)) ∨ (∃ xs, a = .tup xs ∧ d = .tup (cutL xs lo hi)) ∨ (∃ xs, lstOf S a = some xs ∧ d = .lst (cutL xs lo hi)) := by
  unfold cutD at h
  split at h
  · split at h
    · cases h; exact .inl ⟨_, rfl, by assumption, rfl⟩
    · cases h
  · cases h; exact .inr (.inl ⟨_, rfl, rfl⟩)
  · cases e : lstOf S a with
    | none => rw [e] at h; cases h
    | some xs => rw [e] at h; cases h; exact .inr (.inr ⟨xs, rfl, rfl⟩)
theorem op_cut : SlR X (rCut X.K) := by
  have h1 : SlR X _ := SlR.or sl_str (SlR.or sl_tupA sl_list)
  refine SlR.imp' h1 ?_
  rintro x lo hi H Q ⟨B, m, S, a, H0, d, t, ra, hn, e, Z, W, h⟩
  rcases cutD_cases e with ⟨z, rfl, hz, rfl⟩ | ⟨xs, rfl, rfl⟩ | ⟨xs, e1, rfl⟩
  · refine .inl ⟨SO z, ra.str_of, by rw [SO_len, ← SL_eq]; exact hz, ?_⟩
    rw [cutS_SO]
    exact fin_plain t h (.str _ (okS_sub ra.str_ok fun c hc => cutL_mem hc)) fun _ e => nomatch e
  · obtain ⟨p, vs, rfl, hq, rs⟩ := ra.tup_of
    refine .inr (.inl ⟨p, vs, rfl, hq, fun e => ?_, fun _ p hp => fin_tup t h hp (cutL_V rs lo hi)⟩)
    have e0 : cutL xs lo hi = xs := by
      unfold cutL
      rw [cut1_eq, cut1_eq, rs.len, e.1, e.2, List.drop_zero, Nat.sub_zero, ← rs.len, List.take_length]
    rw [e0] at h
    exact fin_plain t h ra fun _ e => nomatch e
  · obtain ⟨p, vs, rfl, hq, rs⟩ := ra.lst_of t e1
    exact .inr (.inr ⟨p, vs, rfl, hq, fun p hp => fin_lst t hn h hp (cutL_V rs lo hi)⟩)

/-! ### built-ins -/
/-- a call of a built-in by values -/
def rBlt (K : Fg) (b : Bt) : List V → Hp → VK → Prop := fun xs H Q => ∃ B m S as H0 d, At K B m S H ∧ RelDs K B m H as xs ∧ (∀ p, H p = none → H0 p = none) ∧ bltD S b as = some d ∧ ∃ Z W, FinG K Z B m H W (.ok d S) (PD K B H0 true Q)
theorem CallR.imp' {f : Value} {r r' : List V → Hp → VK → Prop} (h : CallR X f r) (i : ∀ xs H Q, r' xs H Q → r xs H Q) : CallR X f r' :=
  fun pins s σ H xs us Q I rx q => h pins s σ H xs us Q I rx (i _ _ _ q)
theorem RelDs.one {K : Fg} {B m : List Addr} {H : Hp} {d : D} {vs : List V} (r : RelDs K B m H [d] vs) : ∃ v, vs = [v] ∧ RelD K B m H d v := by
  cases r with
  | cons r s => cases s; exact ⟨_, rfl, r⟩
theorem RelDs.two {K : Fg} {B m : List Addr} {H : Hp} {d e : D} {vs : List V} (r : RelDs K B m H [d, e] vs) : ∃ v u, vs = [v, u] ∧ RelD K B m H d v ∧ RelD K B m H e u := by
  cases r with
  | cons r s =>
    obtain ⟨u, rfl, q⟩ := s.one
    exact ⟨_, u, rfl, r, q⟩
theorem blt_len : CallR X (.builtin "len") (rBlt X.K .len) := by
  refine CallR.imp' call_len ?_
  rintro xs H Q ⟨B, m, S, as, H0, d, t, r, hn, e, Z, W, h⟩
  have seq : ∀ x ys, as = [x] → seqOf S x = some ys → d = .int ys.length → ∃ x n, xs = [x] ∧ LenV X.K x H n ∧ Q (.int n) H := by
    rintro x ys rfl e1 rfl
    obtain ⟨v, rfl, rv⟩ := r.one
    obtain ⟨p, vs, rfl, hq, rs⟩ := rv.seq_of t e1
    refine ⟨_, ys.length, rfl, hq.imp (fun q => ⟨vs, q, rs.len⟩) (fun q => ⟨vs, q, rs.len⟩), fin_plain t h (.int _) fun _ e => nomatch e⟩
  unfold bltD at e
  split at e <;> try contradiction
  · split at e
    · cases e
      obtain ⟨v, rfl, rv⟩ := r.one
      refine ⟨_, _, rfl, ?_, fin_plain t h (.int _) fun _ e => nomatch e⟩
      rw [rv.str_of]
      exact ⟨by rw [SO_len, ← SL_eq]; assumption, (SO_len _).symm⟩
    · cases e
  · cases q : seqOf S _ with
    | none => rw [q] at e; cases e
    | some ys => rw [q] at e; cases e; exact seq _ ys rfl q rfl
theorem digV_fold : ∀ (l : List Nat) (a : Nat), digV a l = l.foldl (fun acc c => acc * 10 + (c - 48)) a
  | [], _ => rfl
  | c :: r, a => digV_fold r _
theorem digs_all {l : List Nat} (h : l.all isDig = true) : NumText.AllDigits l := fun c hc => by
  have z := List.all_eq_true.mp h c hc
  unfold isDig at z
  simp only [Bool.and_eq_true, decide_eq_true_eq] at z
  exact z
theorem intOf_text {a : List Nat} {n : Int} (h : intOf a = some n) : PySem.intText? (SO a) = some n ∧ (SO a).length ≤ 640 := by
  unfold intOf at h
  split at h
  · cases h
  · rename_i r
    split at h
    · rename_i c
      simp only [Bool.and_eq_true, Bool.not_eq_true', decide_eq_true_eq, List.isEmpty_eq_false_iff] at c
      cases h
      refine ⟨?_, by rw [SO_len, List.length_cons]; omega⟩
      have := PySem.intText_neg (x := SO (45 :: r)) (cs := r) (by simp [SO]) (digs_all c.1.1) c.1.2 (by rw [SO_len, List.length_cons]; omega)
      rw [this]
      show some (-((r.foldl _ 0 : Nat) : Int)) = _
      rw [digV_fold]
    · cases h
  · rename_i hne _
    split at h
    · rename_i c
      simp only [Bool.and_eq_true, decide_eq_true_eq] at c
      cases h
      refine ⟨?_, by rw [SO_len]; omega⟩
      have := PySem.intText_digits (x := SO a) (by simpa [SO] using digs_all c.1) (by simpa [SO] using hne) (by rw [SO_len]; omega)
      rw [this]
      show some ((((SO a).cps.toList).foldl _ 0 : Nat) : Int) = _
      rw [digV_fold]
    · cases h
theorem blt_int : CallR X (.type "int") (rBlt X.K .int) := by
  refine CallR.imp' (CallR.or call_int1 call_int_str) ?_
  rintro xs H Q ⟨B, m, S, as, H0, d, t, r, hn, e, Z, W, h⟩
  unfold bltD at e
  split at e <;> try contradiction
  · cases e
    obtain ⟨v, rfl, rv⟩ := r.one
    exact .inl (.inl ⟨_, by rw [rv.int_of], fin_plain t h (.int _) fun _ e => nomatch e⟩)
  · cases e
    obtain ⟨v, rfl, rv⟩ := r.one
    exact .inl (.inr ⟨_, by rw [rv.bl_of], fin_plain t h (.int _) fun _ e => nomatch e⟩)
  · rename_i a _
    cases q : intOf a with
    | none => rw [q] at e; cases e
    | some n =>
      rw [q] at e
      cases e
      obtain ⟨v, rfl, rv⟩ := r.one
      obtain ⟨h1, h2⟩ := intOf_text q
      exact .inr ⟨_, n, by rw [rv.str_of], h1, h2, fin_plain t h (.int _) fun _ e => nomatch e⟩
theorem blt_abs : CallR X (.builtin "abs") (rBlt X.K .abs) := by
  refine CallR.imp' call_abs ?_
  rintro xs H Q ⟨B, m, S, as, H0, d, t, r, hn, e, Z, W, h⟩
  unfold bltD at e
  split at e <;> try contradiction
  cases e
  obtain ⟨v, rfl, rv⟩ := r.one
  exact ⟨_, by rw [rv.int_of], fin_plain t h (.int _) fun _ e => nomatch e⟩
theorem blt_min (hc : X.calm = true) : CallR X (.builtin "min") (rBlt X.K .min) := by
  refine CallR.imp' (call_min2 hc) ?_
  rintro xs H Q ⟨B, m, S, as, H0, d, t, r, hn, e, Z, W, h⟩
  unfold bltD at e
  split at e <;> try contradiction
  cases e
  obtain ⟨v, u, rfl, rv, ru⟩ := r.two
  exact ⟨_, _, by rw [rv.int_of, ru.int_of], fin_plain t h (.int _) fun _ e => nomatch e⟩
theorem blt_max (hc : X.calm = true) : CallR X (.builtin "max") (rBlt X.K .max) := by
  refine CallR.imp' (call_max2 hc) ?_
  rintro xs H Q ⟨B, m, S, as, H0, d, t, r, hn, e, Z, W, h⟩
  unfold bltD at e
  split at e <;> try contradiction
  cases e
  obtain ⟨v, u, rfl, rv, ru⟩ := r.two
  exact ⟨_, _, by rw [rv.int_of, ru.int_of], fin_plain t h (.int _) fun _ e => nomatch e⟩
theorem seqOf_cases {S : Store} {d : D} {xs : List D} (h : seqOf S d = some xs) : d = .tup xs ∨ lstOf S d = some xs := by
  cases d <;> first | (cases h; exact .inl rfl) | exact .inr h
theorem blt_tuple : CallR X (.type "tuple") (rBlt X.K .tuple) := by
  refine CallR.imp' call_tuple_of ?_
  rintro xs H Q ⟨B, m, S, as, H0, d, t, r, hn, e, Z, W, h⟩
  unfold bltD at e
  split at e <;> try contradiction
  obtain ⟨v, rfl, rv⟩ := r.one
  cases q : seqOf S _ with
  | none => rw [q] at e; cases e
  | some ys =>
    rw [q] at e
    cases e
    rcases seqOf_cases q with rfl | q
    · obtain ⟨p, vs, rfl, hq, rs⟩ := rv.tup_of
      exact ⟨p, vs, rfl, .inr ⟨hq, fin_plain t h rv fun _ e => nomatch e⟩⟩
    · obtain ⟨p, vs, rfl, hq, rs⟩ := rv.lst_of t q
      exact ⟨p, vs, rfl, .inl ⟨hq, fun l hl => fin_tup t h hl rs⟩⟩
theorem blt_list : CallR X (.type "list") (rBlt X.K .list) := by
  refine CallR.imp' call_list_of ?_
  rintro xs H Q ⟨B, m, S, as, H0, d, t, r, hn, e, Z, W, h⟩
  unfold bltD at e
  split at e <;> try contradiction
  obtain ⟨v, rfl, rv⟩ := r.one
  cases q : seqOf S _ with
  | none => rw [q] at e; cases e
  | some ys =>
    rw [q] at e
    cases e
    obtain ⟨p, vs, rfl, hq, rs⟩ := rv.seq_of t q
    exact ⟨p, vs, rfl, hq, fun l hl => fin_lst t hn h hl rs⟩
theorem bools_V {K : Fg} {B m : List Addr} {H : Hp} : ∀ {ds : List D} {vs : List V} {bs : List Bool}, RelDs K B m H ds vs → boolsOf ds = some bs → vs = bs.map V.bl
  | _, _, _, .nil, e => by cases e; rfl
  | d :: ds, _, bs, .cons r s, e => by
    cases d with
    | bl b =>
      have e : (boolsOf ds).map (b :: ·) = some bs := e
      cases q : boolsOf ds with
      | none => rw [q] at e; cases e
      | some cs => rw [q] at e; cases e; rw [bools_V s q, r.bl_of]; rfl
    | _ => cases e
theorem ints_V {K : Fg} {B m : List Addr} {H : Hp} : ∀ {ds : List D} {vs : List V} {bs : List Int}, RelDs K B m H ds vs → intsOf ds = some bs → vs = bs.map V.int
  | _, _, _, .nil, e => by cases e; rfl
  | d :: ds, _, bs, .cons r s, e => by
    cases d with
    | int b =>
      have e : (intsOf ds).map (b :: ·) = some bs := e
      cases q : intsOf ds with
      | none => rw [q] at e; cases e
      | some cs => rw [q] at e; cases e; rw [ints_V s q, r.int_of]; rfl
    | _ => cases e
theorem strs_V {K : Fg} {B m : List Addr} {H : Hp} : ∀ {ds : List D} {vs : List V} {bs : List (List Nat)}, RelDs K B m H ds vs → strsOf ds = some bs → vs = (bs.map SO).map V.str ∧ ∀ z ∈ bs, okS z = true
  | _, _, _, .nil, e => by cases e; exact ⟨rfl, fun _ h => by cases h⟩
  | d :: ds, _, bs, .cons r s, e => by
    cases d with
    | str b =>
      have e : (strsOf ds).map (b :: ·) = some bs := e
      cases q : strsOf ds with
      | none => rw [q] at e; cases e
      | some cs =>
        rw [q] at e
        cases e
        obtain ⟨e1, e2⟩ := strs_V s q
        refine ⟨by rw [e1, r.str_of]; rfl, fun z hz => ?_⟩
        rcases List.mem_cons.mp hz with e3 | e3
        · rw [e3]; exact r.str_ok
        · exact e2 z e3
    | _ => cases e
theorem blt_all (hc : X.calm = true) : CallR X (.builtin "all") (rBlt X.K .all) := by
  refine CallR.imp' (cr_all hc) ?_
  rintro xs H Q ⟨B, m, S, as, H0, d, t, r, hn, e, Z, W, h⟩
  unfold bltD at e
  split at e <;> try contradiction
  obtain ⟨v, rfl, rv⟩ := r.one
  split at e
  · rename_i ys q
    cases q2 : boolsOf ys with
    | none => rw [q2] at e; cases e
    | some bs =>
      rw [q2] at e
      cases e
      obtain ⟨p, vs, rfl, hq, rs⟩ := rv.lst_of t q
      rw [bools_V rs q2] at hq
      exact ⟨p, bs, rfl, hq, fin_plain t h (.bl _) fun _ e => nomatch e⟩
  · cases e
theorem blt_any (hc : X.calm = true) : CallR X (.builtin "any") (rBlt X.K .any) := by
  refine CallR.imp' (cr_any hc) ?_
  rintro xs H Q ⟨B, m, S, as, H0, d, t, r, hn, e, Z, W, h⟩
  unfold bltD at e
  split at e <;> try contradiction
  obtain ⟨v, rfl, rv⟩ := r.one
  split at e
  · rename_i ys q
    cases q2 : boolsOf ys with
    | none => rw [q2] at e; cases e
    | some bs =>
      rw [q2] at e
      cases e
      obtain ⟨p, vs, rfl, hq, rs⟩ := rv.lst_of t q
      rw [bools_V rs q2] at hq
      exact ⟨p, bs, rfl, hq, fin_plain t h (.bl _) fun _ e => nomatch e⟩
  · cases e
theorem blt_sum (hc : X.calm = true) : CallR X (.builtin "sum") (rBlt X.K .sum) := by
  refine CallR.imp' (cr_sum hc) ?_
  rintro xs H Q ⟨B, m, S, as, H0, d, t, r, hn, e, Z, W, h⟩
  unfold bltD at e
  split at e <;> try contradiction
  obtain ⟨v, rfl, rv⟩ := r.one
  split at e
  · rename_i ys q
    cases q2 : intsOf ys with
    | none => rw [q2] at e; cases e
    | some bs =>
      rw [q2] at e
      cases e
      obtain ⟨p, vs, rfl, hq, rs⟩ := rv.lst_of t q
      rw [ints_V rs q2] at hq
      exact ⟨p, bs, rfl, hq, fin_plain t h (.int _) fun _ e => nomatch e⟩
  · cases e
end
end Fb
set_option Elab.async false
set_option linter.all false
set_option maxRecDepth 100000
set_option maxHeartbeats 1000000
/-! Fbt: methods of texts over lists of signs. -/
namespace Fb
open PySem PySem.Spec PyProof.Rows L2
theorem tl_SO (x : List Nat) : TL.tl (SO x) = x := by simp [TL.tl, SO]
theorem SO_tl' (x : Str) : SO (TL.tl x) = x := TL.mk_tl x
theorem spl_one (c : Nat) : ∀ (l acc : List Nat), TL.spl [c] 0 acc l = splitD c acc l
  | [], acc => by cases acc <;> rfl
  | x :: r, acc => by
    by_cases h : x = c
    · subst h
      rw [TL.spl_hit (by simp [TL.pre])]
      show acc :: TL.spl [x] 0 [] r = _
      rw [spl_one x r []]
      simp [splitD]
    · rw [TL.spl_miss (by simp [TL.pre, h]), spl_one c r]
      simp [splitD, h]
theorem split_SO {x : List Nat} {c : Nat} (hc : c < 256) : Txt.split (SO x) (SO [c]) = (splitD c [] x).map SO := by
  have h := TL.split_spl (SO x) (SO [c]) (by rw [tl_SO]; simp) (TL.kind_ok (by simp [SO, hc]))
  rw [tl_SO, tl_SO, spl_one] at h
  apply TL.map_tl_inj
  rw [h, List.map_map]
  conv => lhs; rw [← List.map_id (splitD c [] x)]
  exact List.map_congr_left fun z _ => (tl_SO z).symm
theorem starts_SO (x y : List Nat) : Txt.startswith (SO x) (SO y) = (x.take y.length == y) := by
  unfold Txt.startswith
  rw [StrLaws.subAt_eq, SO_len, SO_len]
  show (decide (0 + y.length ≤ x.length) && ((x.drop 0).take y.length == y)) = _
  rw [List.drop_zero]
  by_cases h : y.length ≤ x.length
  · rw [decide_eq_true (by omega), Bool.true_and]
  · have h2 : (x.take y.length == y) = false := by
      rw [beq_eq_false_iff_ne]
      intro e
      have := congrArg List.length e
      rw [List.length_take] at this
      omega
    rw [h2, Bool.and_false]
theorem sub_one (x : List Nat) (c i : Nat) : Builtin.Str.subAt (SO x) (SO [c]) i = decide (x[i]? = some c) := by
  rw [StrLaws.subAt_eq]
  show ((x.drop i).take 1 == [c]) = _
  cases h : x[i]? with
  | none =>
    rw [List.getElem?_eq_none_iff] at h
    rw [List.drop_eq_nil_of_le h]; rfl
  | some d =>
    obtain ⟨hl, e⟩ := List.getElem?_eq_some_iff.mp h
    rw [List.drop_eq_getElem_cons hl, e, Bool.eq_iff_iff]
    simp
theorem occ_count (x : List Nat) (c lim : Nat) : ∀ (k i : Nat) (st : Array Nat × Nat), st.2 ≤ i → st.1.size + k ≤ lim → i + k = x.length + 1 →
    (forIn (List.range' i k) st (StrLaws.occBody (SO x) (SO [c]) x.length lim)).run.1.size = st.1.size + countD c (x.drop i)
  | 0, i, st, _, _, h => by
    rw [List.range'_zero, List.forIn_nil, List.drop_eq_nil_of_le (by omega)]
    rfl
  | k + 1, i, st, h1, h2, h3 => by
    rw [List.range'_succ, List.forIn_cons]
    unfold StrLaws.occBody
    rw [sub_one]
    by_cases hi : i < x.length
    · have e : x[i]? = some x[i] := List.getElem?_eq_getElem hi
      have ed : x.drop i = x[i] :: x.drop (i + 1) := List.drop_eq_getElem_cons hi
      by_cases hc : x[i] = c
      · rw [if_pos ⟨⟨⟨by omega, h1⟩, by show i + 1 ≤ x.length; omega⟩, by rw [e, hc]; simp⟩]
        have q := occ_count x c lim k (i + 1) (st.1.push i, i + 1) (Nat.le_refl _) (by rw [Array.size_push]; omega) (by omega)
        rw [Array.size_push] at q
        refine Eq.trans q ?_
        rw [ed]
        show _ = _ + ((if x[i] = c then 1 else 0) + _)
        rw [if_pos hc]; omega
      · rw [if_neg (fun z => hc (by have := z.2; rw [e] at this; simpa using this))]
        have q := occ_count x c lim k (i + 1) st (by omega) (by omega) (by omega)
        refine Eq.trans q ?_
        rw [ed]
        show _ = _ + ((if x[i] = c then 1 else 0) + _)
        rw [if_neg hc]; omega
    · rw [if_neg (fun z => by have := z.1.2; change i + 1 ≤ x.length at this; omega)]
      have q := occ_count x c lim k (i + 1) st (by omega) (by omega) (by omega)
      refine Eq.trans q ?_
      rw [List.drop_eq_nil_of_le (show x.length ≤ i by omega), List.drop_eq_nil_of_le (show x.length ≤ i + 1 by omega)]
theorem count_SO (x : List Nat) (c : Nat) : Txt.count (SO x) (SO [c]) = (countD c x : Int) := by
  unfold Txt.count
  rw [StrLaws.occ_eq, SO_len]
  have h := occ_count x c (x.length + 1) (x.length + 1) 0 (#[], 0) (Nat.le_refl _) (by simp) (by omega)
  rw [List.drop_zero] at h
  have h2 : (forIn (List.range' 0 (x.length + 1 - 0)) ((#[], 0) : Array Nat × Nat) (StrLaws.occBody (SO x) (SO [c]) x.length (x.length + 1))).run.1.toList.length = countD c x := by
    rw [Array.length_toList, Nat.sub_zero]
    refine h.trans ?_
    simp
  exact congrArg Int.ofNat h2
theorem flat_one (f : Nat → Nat) : ∀ x : List Nat, ((x.map fun c => #[f c]).toArray).flatten.toList = x.map f
  | [] => rfl
  | c :: r => by
    have h := flat_one f r
    simp only [List.map_cons]
    rw [Array.toList_flatten] at h ⊢
    simp only [List.map_toArray, List.map_cons, List.flatten_cons] at h ⊢
    simpa using h
theorem up_one : ∀ c, c < 128 → Unicode.upperOf c = [upC c] := by decide +kernel
theorem upper_SO {x : List Nat} (h : x.all (fun c => decide (c < 128)) = true) : Txt.upper (SO x) = SO (x.map upC) := by
  unfold Txt.upper placed
  refine Str.ext' ?_
  have e : (SO x).cps.mapIdx (fun _ c => (Unicode.upperOf c).toArray) = (x.map fun c => #[upC c]).toArray := by
    apply Array.ext'
    simp only [Array.toList_mapIdx]
    show x.mapIdx (fun _ c => (Unicode.upperOf c).toArray) = x.map fun c => #[upC c]
    rw [List.mapIdx_eq_zipIdx_map]
    have : ∀ (k : Nat) (l : List Nat), (∀ c ∈ l, c < 128) → (l.zipIdx k).map (fun p => (Unicode.upperOf p.1).toArray) = l.map fun c => #[upC c] := by
      intro k l
      induction l generalizing k with
      | nil => intro _; rfl
      | cons c r ih =>
        intro hl
        rw [List.zipIdx_cons, List.map_cons, List.map_cons, ih (k + 1) fun c hc => hl c (List.mem_cons_of_mem _ hc), up_one c (hl c List.mem_cons_self)]
    exact this 0 x fun c hc => of_decide_eq_true (List.all_eq_true.mp h c hc)
  apply Array.ext'
  show (Array.flatten _).toList = _
  rw [e, flat_one]
end Fb
set_option Elab.async false
set_option linter.all false
set_option maxRecDepth 100000
set_option maxHeartbeats 2000000
/-! Fb5b: str(), isinstance, methods of lists and texts by values. -/
namespace Fb
open PySem PySem.Spec PyProof.Rows L2 TL
theorem SO_tl (x : Str) : SO (tl x) = x := mk_tl x
theorem repr_neg (n : Nat) : toString (Int.negSucc n) = "-" ++ toString (n + 1) := rfl
theorem int_text (i : Int) : Str.ofString (toString i) = SO (intText i) := by
  rw [← SO_tl (Str.ofString (toString i))]
  refine congrArg SO ?_
  cases i with
  | ofNat n =>
    rw [show tl (Str.ofString (toString (Int.ofNat n))) = numL n from tl_num n]
    rfl
  | negSucc n =>
    rw [repr_neg, tl_ofString, String.toList_append, List.map_append]
    have e : (toString (n + 1)).toList.map Char.toNat = numL (n + 1) := by
      have h := tl_num (n + 1)
      rw [tl_ofString] at h
      exact h
    rw [e]
    unfold intText
    rw [if_pos (Int.negSucc_lt_zero n)]
    have e2 : List.map Char.toNat "-".toList = [45] := by decide
    rw [e2]
    rfl
theorem digits_ok (n : Nat) : okS (numL n) = true := List.all_eq_true.mpr fun c hc => by
  have h := numL_digits n
  have h2 : 48 ≤ c ∧ c ≤ 57 := by
    by_cases h3 : c < 48 ∨ 57 < c
    · exact absurd hc (numL_free h3)
    · omega
  exact decide_eq_true (by omega)
theorem intText_ok (i : Int) : okS (intText i) = true := by
  unfold intText
  split
  · show okS ([45] ++ digitsOf i.natAbs) = true
    exact okS_app rfl (digits_ok i.natAbs)
  · exact digits_ok i.natAbs
section
variable {X : Cx}
theorem blt_str : CallR X (.type "str") (rBlt X.K .str) := by
  have h1 : CallR X (.type "str") _ := CallR.or call_str_int SkE.call_str_str
  refine CallR.imp' h1 ?_
  rintro xs H Q ⟨B, m, S, as, H0, d, t, r, hn, e, Z, W, h⟩
  unfold bltD at e
  split at e <;> try contradiction
  · split at e
    · cases e
      obtain ⟨v, rfl, rv⟩ := r.one
      refine .inl ⟨_, by rw [rv.int_of], by assumption, ?_⟩
      rw [int_text]
      exact fin_plain t h (.str _ (intText_ok _)) fun _ e => nomatch e
    · cases e
  · cases e
    obtain ⟨v, rfl, rv⟩ := r.one
    exact .inr ⟨_, by rw [rv.str_of], by rw [← rv.str_of]; exact fin_plain t h rv fun _ e => nomatch e⟩
end
/-! ### isinstance -/
def tyN : D → String
  | .non => "NoneType" | .bl _ => "bool" | .int _ => "int" | .str _ => "str" | .tup _ => "tuple" | .lst _ => "list" | .ro _ => "list" | .cell _ => "list"
def tyS : Ty → String
  | .str => "str" | .int => "int" | .bool => "bool" | .tup => "tuple" | .lst => "list"
def D.isT : D → Ty → Bool
  | .str _, .str => true
  | .int _, .int => true
  | .bl _, .int => true
  | .bl _, .bool => true
  | .tup _, .tup => true
  | .lst _, .lst => true
  | .ro _, .lst => true
  | .cell _, .lst => true
  | _, _ => false
section
variable {K : Fg} {B m : List Addr} {H : Hp} {S : Store}
theorem RelD.tyx (t : At K B m S H) {d : D} {v : V} (r : RelD K B m H d v) : TyX K H v (.type (tyN d)) := by
  cases r with
  | non => exact .base .non
  | bl b => exact .base (.bl b)
  | int i => exact .base (.int i)
  | str x h => exact .base (.str _)
  | tup q _ =>
    rcases q with ⟨h | ⟨o, h⟩, _⟩ | ⟨o, its, n, h, c, _⟩
    · exact .base (.tup h)
    · exact .fTuple h
    · exact .kTuple h c
  | lst q _ => exact .base (.lst q.1)
  | ro q _ =>
    rcases q with ⟨h | ⟨o, h⟩, _⟩ | ⟨o, its, n, h, c, _⟩
    · exact .base (.lst h)
    · exact .base (.frz h)
    · exact .kList h c
  | cell e =>
    obtain ⟨vs, h⟩ := t.mlive (List.mem_of_getElem? e)
    exact .base (.lst h)
theorem isT_isTy (t : At K B m S H) {d : D} {v : V} (r : RelD K B m H d v) (y : Ty) : D.isTy S d y = D.isT d y := by
  cases r with
  | @cell n a e =>
    cases y <;> first | rfl | skip
    have hn : n < S.length := by rw [t.len]; exact (List.getElem?_eq_some_iff.mp e).1
    show (ownOf S (.cell n)).isSome = true
    show (match S[n]? with
      | some (.lst xs) => some xs
      | none => none).isSome = true
    rw [List.getElem?_eq_getElem hn]
    cases S[n] with
    | lst xs => rfl
  | _ => cases y <;> rfl
end
theorem kit_eq (K : Fg) (d : D) (y : Ty) : PySem.W.kitOne K (.type (tyN d)) (.type (tyS y)) = some (D.isT d y) := by
  cases d <;> cases y <;> first | rfl | kernel_rfl
theorem kit_any (K : Fg) (d : D) : ∀ ys : List Ty, PySem.W.kitAny K (.type (tyN d)) (ys.map fun y => .type (tyS y)) = some (ys.any (D.isT d))
  | [] => rfl
  | y :: ys => by
    rw [List.map_cons, List.any_cons]
    unfold PySem.W.kitAny
    rw [kit_eq]
    cases D.isT d y with
    | true => rfl
    | false => exact kit_any K d ys

section
variable {X : Cx}
/-- isinstance(x, T) -/
theorem isi_one : CallR X (.builtin "isinstance") (fun xs H Q => ∃ B m S a v y, At X.K B m S H ∧ RelD X.K B m H a v ∧ xs = [v, .ty (tyS y)] ∧ Q (.bl (D.isTy S a y)) H) := by
  refine CallR.imp' call_isi ?_
  rintro xs H Q ⟨B, m, S, a, v, y, t, r, rfl, q⟩
  rw [isT_isTy t r] at q
  exact ⟨v, _, _, _, _, rfl, .ty _, r.tyx t, kit_eq _ _ _, q⟩
theorem paired_ty : ∀ ys : List Ty, Paired ClsV (ys.map fun y => V.ty (tyS y)) (ys.map fun y => Value.type (tyS y))
  | [] => .nil
  | y :: ys => .cons (.ty _) (paired_ty ys)
theorem isi_any : CallR X (.builtin "isinstance") (fun xs H Q => ∃ B m S a v p, ∃ ys : List Ty, At X.K B m S H ∧ RelD X.K B m H a v ∧ xs = [v, .ref p] ∧ H p = some (.tup (ys.map fun y => V.ty (tyS y))) ∧ Q (.bl (ys.any (D.isTy S a))) H) := by
  refine CallR.imp' call_isiT ?_
  rintro xs H Q ⟨B, m, S, a, v, p, ys, t, r, rfl, hp, q⟩
  have e : ys.any (D.isTy S a) = ys.any (D.isT a) := by
    congr 1
    funext y
    exact isT_isTy t r y
  rw [e] at q
  exact ⟨v, p, _, _, _, _, rfl, hp, paired_ty ys, r.tyx t, kit_any _ _ _, q⟩
/-! ### methods -/
def mtT : Mt → String
  | .append => "list" | .pop => "list" | .popAt => "list" | .extend => "list" | .index => "list" | _ => "str"
def mtN : Mt → Str
  | .append => "append" | .pop => "pop" | .popAt => "pop" | .extend => "extend" | .join => "join" | .split => "split" | .startswith => "startswith" | .upper => "upper" | .index => "index" | .count => "count"
/-- methods that hand back a new list -/
def frM : Mt → Bool
  | .split => true
  | _ => false
/-- a method by values -/
def rMth (K : Fg) (mt : Mt) : V → List V → Hp → VK → Prop := fun x xs H Q => ∃ B m S a as H0 d S', At K B m S H ∧ RelD K B m H a x ∧ RelDs K B m H as xs ∧ (∀ p, H p = none → H0 p = none) ∧
  mthD S mt a as = some (d, S') ∧ ∃ Z W, FinG K Z B m H W (.ok d S') (PD K B H0 (frM mt) Q)
theorem MtR.imp' {id : String} {r r' : V → List V → Hp → VK → Prop} (h : MtR X id r) (i : ∀ x xs H Q, r' x xs H Q → r x xs H Q) : MtR X id r' :=
  fun pins s σ H x xs v us Q I rx rv q => h pins s σ H x xs v us Q I rx rv (i _ _ _ _ q)
theorem MtM.imp' {id : String} {r r' : V → List V → Hp → VK → Prop} (h : MtM X id r) (i : ∀ x xs H Q, r' x xs H Q → r x xs H Q) : MtR X id r' :=
  fun pins s σ H x xs v us Q I rx rv q => h pins s σ H x xs v us Q I rx rv (i _ _ _ _ q)
theorem cell_at {K : Fg} {B m : List Addr} {H : Hp} {S : Store} {n : Nat} {ys : List D} {p : Addr} (t : At K B m S H) (e : S[n]? = some (.lst ys)) (hp : m[n]? = some p) : ∃ vs, H p = some (.lst vs) ∧ RelDs K B m H ys vs := t.cells n _ p e hp
theorem mt_append' : MtR X "list.append" (rMth X.K .append) := by
  refine MtM.imp' mt_append ?_
  rintro x xs H Q ⟨B, m, S, a, as, H0, d, S', t, ra, rs, hn, e, Z, W, h⟩
  unfold mthD at e
  split at e <;> try contradiction
  obtain ⟨p, rfl, hp⟩ := ra.cell_of
  obtain ⟨y, rfl, ry⟩ := rs.one
  split at e
  · split at e
    · rename_i q hz
      cases e
      obtain ⟨vs, h1, r1⟩ := cell_at t q hp
      exact ⟨p, vs, y, rfl, rfl, h1, by rw [← r1.len, ← SL_eq]; exact hz, fin_put t hp (r1.app (.cons ry .nil)) h .non (fun e => nomatch e)⟩
    · cases e
  · cases e
theorem mt_extend' : MtR X "list.extend" (rMth X.K .extend) := by
  refine MtM.imp' mt_extend ?_
  rintro x xs H Q ⟨B, m, S, a, as, H0, d, S', t, ra, rs, hn, e, Z, W, h⟩
  unfold mthD at e
  split at e <;> try contradiction
  obtain ⟨p, rfl, hp⟩ := ra.cell_of
  obtain ⟨y, rfl, ry⟩ := rs.one
  split at e
  · split at e
    · rename_i q1 q2 hz
      cases e
      obtain ⟨vs, h1, r1⟩ := cell_at t q1 hp
      obtain ⟨b, us, rfl, h2, r2⟩ := ry.own_of t q2
      exact ⟨p, b, vs, us, rfl, rfl, h1, h2, by rw [← r1.len, ← r2.len, ← SL_eq]; exact hz, fin_put t hp (r1.app r2) h .non (fun e => nomatch e)⟩
    · cases e
  · cases e
theorem mt_pop' : MtR X "list.pop" (rMth X.K .pop) := by
  refine MtM.imp' mt_pop ?_
  rintro x xs H Q ⟨B, m, S, a, as, H0, d, S', t, ra, rs, hn, e, Z, W, h⟩
  unfold mthD at e
  split at e <;> try contradiction
  obtain ⟨p, rfl, hp⟩ := ra.cell_of
  cases rs
  split at e
  · rename_i ys q
    cases q2 : ys[ys.length - 1]? with
    | none => rw [q2] at e; cases e
    | some y =>
      rw [q2] at e
      cases e
      obtain ⟨vs, h1, r1⟩ := cell_at t q hp
      obtain ⟨v, h2, r2⟩ := r1.get q2
      exact ⟨p, vs, v, rfl, rfl, h1, by rw [← r1.len]; exact h2, fin_put t hp r1.dropLast h r2 (fun e => nomatch e)⟩
  · cases e
theorem mt_popAt' : MtR X "list.pop" (rMth X.K .popAt) := by
  refine MtM.imp' mt_popAt ?_
  rintro x xs H Q ⟨B, m, S, a, as, H0, d, S', t, ra, rs, hn, e, Z, W, h⟩
  unfold mthD at e
  split at e <;> try contradiction
  obtain ⟨p, rfl, hp⟩ := ra.cell_of
  obtain ⟨y, rfl, ry⟩ := rs.one
  split at e
  · rename_i ys q
    split at e
    · rename_i hz
      cases q2 : ys[Int.toNat _]? with
      | none => rw [q2] at e; cases e
      | some y =>
        rw [q2] at e
        cases e
        obtain ⟨vs, h1, r1⟩ := cell_at t q hp
        obtain ⟨v, h2, r2⟩ := r1.get q2
        have hl := r1.len
        have hs : SL = 16777216 := rfl
        refine ⟨p, vs, _, _, v, rfl, by rw [ry.int_of], h1, by omega, by omega, ?_, h2, fin_put t hp (r1.erase _) h r2 (fun e => nomatch e)⟩
        exact (ixN_seq (by unfold ixN; rw [if_pos hz.1, if_pos (by omega)])).1
    · cases e
  · cases e
theorem join_SO (s : List Nat) (zs : List (List Nat)) : Txt.join (SO s) (zs.map SO) = SO (joinD s zs) := by
  rw [join_eq, ← SO_tl (Str.join (SO s) (zs.map SO)), tl_join]
  refine congrArg SO ?_
  have e : (zs.map SO).map tl = zs := by
    rw [List.map_map]
    exact (List.map_congr_left (fun z _ => rfl)).trans (List.map_id zs)
  rw [e]
  show joinL s zs = joinD s zs
  clear e
  induction zs with
  | nil => rfl
  | cons z r ih =>
    cases r with
    | nil => rfl
    | cons y r' =>
      show z ++ (s ++ joinL s (y :: r')) = z ++ s ++ joinD s (y :: r')
      rw [ih, List.append_assoc]
theorem join_ok {s : List Nat} (hs : okS s = true) : ∀ zs : List (List Nat), (∀ z ∈ zs, okS z = true) → okS (joinD s zs) = true
  | [], _ => rfl
  | [z], h => h z List.mem_cons_self
  | z :: y :: r, h => okS_app (okS_app (h z List.mem_cons_self) hs) (join_ok hs (y :: r) fun w hw => h w (List.mem_cons_of_mem _ hw))
theorem mt_join' : MtR X "str.join" (rMth X.K .join) := by
  refine MtR.imp' mt_join ?_
  rintro x xs H Q ⟨B, m, S, a, as, H0, d, S', t, ra, rs, hn, e, Z, W, h⟩
  unfold mthD at e
  split at e <;> try contradiction
  obtain ⟨y, rfl, ry⟩ := rs.one
  split at e
  · rename_i ys q
    split at e
    · rename_i zs q2
      split at e
      · rename_i hz
        cases e
        obtain ⟨p, vs, rfl, hq, r1⟩ := ry.seq_of t q
        obtain ⟨e1, e2⟩ := strs_V r1 q2
        rw [e1] at hq
        refine ⟨_, p, zs.map SO, ra.str_of, rfl, hq, ?_, ?_⟩
        · rw [SO_len, List.length_map, List.map_map]
          have e3 : zs.map ((fun z : Str => z.length) ∘ SO) = zs.map (·.length) := List.map_congr_left fun z _ => SO_len z
          rw [e3]
          exact hz
        · rw [join_SO]
          exact fin_plain t h (.str _ (join_ok ra.str_ok zs e2)) fun _ e => nomatch e
      · cases e
    · cases e
  · cases e
theorem splitD_ok {c : Nat} : ∀ {x acc : List Nat}, okS x = true → okS acc = true → ∀ z ∈ splitD c acc x, okS z = true
  | [], acc, _, ha, z, hz => by
    rw [List.mem_singleton.mp hz]; exact ha
  | a :: r, acc, hx, ha, z, hz => by
    have h2 : okS [a] = true ∧ okS r = true := by
      unfold okS at *
      rw [List.all_cons] at hx
      have := Bool.and_eq_true_iff.mp hx
      exact ⟨by simp [this.1], this.2⟩
    unfold splitD at hz
    split at hz
    · rcases List.mem_cons.mp hz with rfl | hz
      · exact ha
      · exact splitD_ok (x := r) (acc := []) h2.2 rfl z hz
    · exact splitD_ok (x := r) (acc := acc ++ [a]) h2.2 (okS_app ha h2.1) z hz
theorem strs_rel {K : Fg} {B m : List Addr} {H : Hp} : ∀ {zs : List (List Nat)}, (∀ z ∈ zs, okS z = true) → RelDs K B m H (zs.map .str) ((zs.map SO).map V.str)
  | [], _ => .nil
  | z :: r, h => .cons (.str z (h z List.mem_cons_self)) (strs_rel fun y hy => h y (List.mem_cons_of_mem _ hy))
theorem mt_split' : MtR X "str.split" (rMth X.K .split) := by
  refine MtR.imp' mt_split ?_
  rintro x xs H Q ⟨B, m, S, a, as, H0, d, S', t, ra, rs, hn, e, Z, W, h⟩
  unfold mthD at e
  split at e <;> try contradiction
  obtain ⟨y, rfl, ry⟩ := rs.one
  split at e
  · rename_i hz
    cases e
    refine ⟨_, _, ra.str_of, by rw [ry.str_of], rfl, by rw [SO_len, ← SL_eq]; exact hz.1, ?_⟩
    rw [split_SO hz.2]
    exact fun p hp => fin_lst t hn h hp (strs_rel (splitD_ok ra.str_ok rfl))
  · cases e
theorem mt_starts' : MtR X "str.startswith" (rMth X.K .startswith) := by
  refine MtR.imp' mt_startswith ?_
  rintro x xs H Q ⟨B, m, S, a, as, H0, d, S', t, ra, rs, hn, e, Z, W, h⟩
  unfold mthD at e
  split at e <;> try contradiction
  obtain ⟨y, rfl, ry⟩ := rs.one
  cases e
  refine ⟨_, _, ra.str_of, by rw [ry.str_of], ?_⟩
  rw [starts_SO]
  exact fin_plain t h (.bl _) fun _ e => nomatch e
theorem mt_count' : MtR X "str.count" (rMth X.K .count) := by
  refine MtR.imp' mt_count ?_
  rintro x xs H Q ⟨B, m, S, a, as, H0, d, S', t, ra, rs, hn, e, Z, W, h⟩
  unfold mthD at e
  split at e <;> try contradiction
  obtain ⟨y, rfl, ry⟩ := rs.one
  cases e
  refine ⟨_, _, ra.str_of, by rw [ry.str_of], ?_⟩
  rw [count_SO]
  exact fin_plain t h (.int _) fun _ e => nomatch e
theorem up_ok {x : List Nat} (h : x.all (fun c => decide (c < 128)) = true) : okS (x.map upC) = true := List.all_eq_true.mpr fun c hc => by
  obtain ⟨d, hd, rfl⟩ := List.mem_map.mp hc
  have := of_decide_eq_true (List.all_eq_true.mp h d hd)
  unfold upC
  split <;> exact decide_eq_true (by omega)
theorem mt_upper' : MtR X "str.upper" (rMth X.K .upper) := by
  refine MtR.imp' mt_upper ?_
  rintro x xs H Q ⟨B, m, S, a, as, H0, d, S', t, ra, rs, hn, e, Z, W, h⟩
  unfold mthD at e
  split at e <;> try contradiction
  cases rs
  split at e
  · rename_i hz
    cases e
    refine ⟨_, ra.str_of, rfl, by rw [SO_len]; omega, ?_⟩
    rw [upper_SO hz.2]
    exact fin_plain t h (.str _ (up_ok hz.2)) fun _ e => nomatch e
  · cases e
theorem index_V {K : Fg} {B m : List Addr} {H : Hp} {x : D} {v : V} (q : RelD K B m H x v) (g : x.flat = true) : ∀ {ds : List D} {vs : List V} {i k : Nat}, RelDs K B m H ds vs → ds.all D.flat = true → indexD x i ds = some k →
    i ≤ k ∧ (∃ z, vs[k - i]? = some z ∧ eqV z v = true) ∧ ∀ (j : Nat) (z : V), j < k - i → vs[j]? = some z → eqV z v = false
  | [], _, i, k, _, _, e => by cases e
  | d :: ds, _, i, k, .cons r1 rs, f, e => by
    rw [List.all_cons] at f
    obtain ⟨f1, f2⟩ := Bool.and_eq_true_iff.mp f
    have he := eqV_flat r1 q f1 g
    unfold indexD at e
    split at e
    · rename_i c
      cases e
      refine ⟨Nat.le_refl _, ⟨_, by rw [Nat.sub_self]; rfl, he.trans c⟩, fun j z hj => by omega⟩
    · rename_i c
      obtain ⟨h1, ⟨z, h2, h3⟩, h4⟩ := index_V q g rs f2 e
      refine ⟨by omega, ⟨z, ?_, h3⟩, fun j z hj hz => ?_⟩
      · rw [show k - i = (k - (i + 1)) + 1 by omega, List.getElem?_cons_succ]; exact h2
      · cases j with
        | zero => cases hz; rw [he]; simpa using c
        | succ j => exact h4 j z (by omega) (by simpa using hz)
theorem mt_index' : MtR X "list.index" (rMth X.K .index) := by
  refine MtR.imp' mt_index ?_
  rintro x xs H Q ⟨B, m, S, a, as, H0, d, S', t, ra, rs, hn, e, Z, W, h⟩
  have e : ∃ y ys, as = [y] ∧ lstOf S a = some ys ∧ y.flat = true ∧ ys.all D.flat = true ∧ ∃ i, indexD y 0 ys = some i ∧ d = .int (i : Nat) ∧ S' = S := by
    unfold mthD at e
    split at e <;> try contradiction
    split at e
    · rename_i ys q
      split at e
      · rename_i c
        obtain ⟨c1, c2⟩ := Bool.and_eq_true_iff.mp c
        cases q2 : indexD _ 0 ys with
        | none => rw [q2] at e; cases e
        | some i => rw [q2] at e; cases e; exact ⟨_, ys, rfl, q, c1, c2, i, q2, rfl, rfl⟩
      · cases e
    · cases e
  obtain ⟨y, ys, rfl, q, c1, c2, i, q2, rfl, rfl⟩ := e
  obtain ⟨u, rfl, ry⟩ := rs.one
  obtain ⟨p, vs, rfl, hq, r1⟩ := ra.lst_of t q
  obtain ⟨_, ⟨z, h2, h3⟩, h4⟩ := index_V ry c1 r1 c2 q2
  exact ⟨p, vs, u, i, z, rfl, rfl, hq, flat_V ry c1, flats_V r1 c2, h2, h3, h4, fin_plain t h (.int _) fun _ e => nomatch e⟩
end
end Fb
set_option Elab.async false
set_option linter.all false
set_option maxRecDepth 100000
set_option maxHeartbeats 2000000
/-! Fb6: the evaluator's expressions against the layer's, construct by construct. -/
namespace Fb
open PySem PySem.Spec PyProof.Rows L2
/-- expressions whose list, if it is one, was just made -/
def isFresh : IE → Bool
  | .lst _ => true
  | .comp .. => true
  | .bin .. => true
  | .blt b _ => true
  | .sli .. => true
  | .rev _ => true
  | .srt _ => true
  | .stp .. => true
  | .lzip .. => true
  | .mth m _ _ => frM m
  | _ => false
def Te (K : Fg) (Z : Xt) (C : Cf) (W : WX) (e : IE) : TE := fun σ H Q => ∃ B m S δ, At K B m S H ∧ RelE K B m H δ σ ∧ FinG K Z B m H (fun c d h => W c d σ h) (evE C e δ S) (PD K B H (isFresh e) Q)
def PB (Q : Bool → Hp → Prop) (b : Bool) (S' : Store) (m' : List Addr) (H' : Hp) : Prop := Q b H'
def Tb (K : Fg) (Z : Xt) (C : Cf) (W : WX) (e : IE) : TT := fun σ H Q => ∃ B m S δ, At K B m S H ∧ RelE K B m H δ σ ∧ FinG K Z B m H (fun c d h => W c d σ h) (evT C e δ S) (PB Q)
def PAs (K : Fg) (B : List Addr) (Q : List V → Hp → Prop) (ds : List D) (S' : Store) (m' : List Addr) (H' : Hp) : Prop := ∀ vs, RelDs K B m' H' ds vs → Q vs H'
def Ta (K : Fg) (Z : Xt) (C : Cf) (W : WX) (e : IE) : TA := fun σ H Q => ∃ B m S δ, At K B m S H ∧ RelE K B m H δ σ ∧ FinG K Z B m H (fun c d h => W c d σ h) (evA C e δ S) (PAs K B Q)
theorem _root_.L2.PE.imp' {X : Cx} {e : Expr} {t t' : TE} (h : PE X e t) (i : ∀ σ H Q, t' σ H Q → t σ H Q) : PE X e t' := ⟨fun pins s σ H Q I q => h.run pins s σ H Q I (i _ _ _ q)⟩
theorem _root_.L2.PT.imp' {X : Cx} {e : Expr} {t t' : TT} (h : PT X e t) (i : ∀ σ H Q, t' σ H Q → t σ H Q) : PT X e t' := ⟨fun pins s σ H Q I q => h.run pins s σ H Q I (i _ _ _ q)⟩
theorem _root_.L2.PW.imp' {X : Cx} {e : Expr} {t t' : TT} (h : PW X e t) (i : ∀ σ H Q, t' σ H Q → t σ H Q) : PW X e t' := ⟨fun w pins s σ H Q I q => h.run w pins s σ H Q I (i _ _ _ q)⟩
theorem _root_.L2.PA.imp' {X : Cx} {es : List Expr} {t t' : TA} (h : PA X es t) (i : ∀ σ H Q, t' σ H Q → t σ H Q) : PA X es t' := ⟨fun p pins s σ H Q I q => h.run p pins s σ H Q I (i _ _ _ q)⟩
/-- where one stands between two parts: from (m, H), the whole's start, to (m0, H0) -/
structure Mid (K : Fg) (B m m0 : List Addr) (S S0 : Store) (H H0 : Hp) (δ : Ev) (σ : L2.St) : Prop where
  t : At K B m S H
  t0 : At K B m0 S0 H0
  le : Le m m0 H H0
  e : RelE K B m0 H0 δ σ
section
variable {K : Fg} {Z : Xt} {C : Cf} {W : WX} {B m m0 m1 : List Addr} {S S0 S1 : Store} {H H0 H1 : Hp} {δ : Ev} {σ : L2.St} {β : Type} {P : β → Store → List Addr → Hp → Prop}
theorem Mid.start (t : At K B m S H) (e : RelE K B m H δ σ) : Mid K B m m S S H H δ σ := ⟨t, t, Le.refl, e⟩
theorem Mid.go (J : Mid K B m m0 S S0 H H0 δ σ) (l : Le m0 m1 H0 H1) (t1 : At K B m1 S1 H1) : Mid K B m m1 S S1 H H1 δ σ := ⟨J.t, t1, Le.trans J.t J.t0 J.le l, J.e.tr (l.tr J.t0)⟩
theorem Mid.none (J : Mid K B m m0 S S0 H H0 δ σ) {a : Addr} (h : H0 a = none) : H a = none := by
  cases q : H a with
  | none => rfl
  | some o => exact absurd h (J.le.live J.t0 (by rw [q]; exact fun z => by cases z))
theorem Mid.val (J : Mid K B m m0 S S0 H H0 δ σ) (l : Le m0 m1 H0 H1) {d : D} {v : V} (r : RelD K B m0 H0 d v) : RelD K B m1 H1 d v := r.tr (l.tr J.t0)
theorem Mid.vals (J : Mid K B m m0 S S0 H H0 δ σ) (l : Le m0 m1 H0 H1) {d : List D} {v : List V} (r : RelDs K B m0 H0 d v) : RelDs K B m1 H1 d v := r.tr (l.tr J.t0)
/-- the answer of a part, in what it is a part of -/
theorem Mid.part {α : Type} (J : Mid K B m m0 S S0 H H0 δ σ) {V : XK} {f : M α} {g : α → M β} (h : FinG K Z B m H V (M.bind f g S0) P) {R : α → Store → List Addr → Hp → Prop}
    (k : ∀ a S1 m1 H1, Le m0 m1 H0 H1 → At K B m1 S1 H1 → FinG K Z B m H V (g a S1) P → R a S1 m1 H1) : FinG K Z B m0 H0 V (f S0) R := by
  unfold M.bind at h
  cases e : f S0 with
  | ok a S1 =>
    rw [e] at h
    exact fun m1 H1 l t1 => k a S1 m1 H1 l t1 h
  | exc c as S1 =>
    rw [e] at h
    exact fun cls dd m1 H1 l t1 x => h cls dd m1 H1 (Le.trans J.t J.t0 J.le l) t1 x
  | bad => rw [e] at h; exact h
theorem Mid.stepE (J : Mid K B m m0 S S0 H H0 δ σ) {a : IE} {g : D → M β} (h : FinG K Z B m H (fun c d h => W c d σ h) (M.bind (evE C a δ) g S0) P) {R : VK}
    (k : ∀ v d S1 m1 H1, Le m0 m1 H0 H1 → Mid K B m m1 S S1 H H1 δ σ → RelD K B m1 H1 d v → (isFresh a = true → Fresh K B m1 S1 H0 H1 d v) → FinG K Z B m H (fun c d h => W c d σ h) (g d S1) P → R v H1) : Te K Z C W a σ H0 R :=
  ⟨B, m0, S0, δ, J.t0, J.e, J.part h fun d S1 m1 H1 l t1 h1 v r fr => k v d S1 m1 H1 l (J.go l t1) r fr h1⟩
theorem Mid.stepT (J : Mid K B m m0 S S0 H H0 δ σ) {a : IE} {g : Bool → M β} (h : FinG K Z B m H (fun c d h => W c d σ h) (M.bind (evT C a δ) g S0) P) {R : Bool → Hp → Prop}
    (k : ∀ b S1 m1 H1, Le m0 m1 H0 H1 → Mid K B m m1 S S1 H H1 δ σ → FinG K Z B m H (fun c d h => W c d σ h) (g b S1) P → R b H1) : Tb K Z C W a σ H0 R :=
  ⟨B, m0, S0, δ, J.t0, J.e, J.part h fun b S1 m1 H1 l t1 h1 => k b S1 m1 H1 l (J.go l t1) h1⟩
theorem Mid.stepA (J : Mid K B m m0 S S0 H H0 δ σ) {a : IE} {g : List D → M β} (h : FinG K Z B m H (fun c d h => W c d σ h) (M.bind (evA C a δ) g S0) P) {R : List V → Hp → Prop}
    (k : ∀ vs ds S1 m1 H1, Le m0 m1 H0 H1 → Mid K B m m1 S S1 H H1 δ σ → RelDs K B m1 H1 ds vs → FinG K Z B m H (fun c d h => W c d σ h) (g ds S1) P → R vs H1) : Ta K Z C W a σ H0 R :=
  ⟨B, m0, S0, δ, J.t0, J.e, J.part h fun ds S1 m1 H1 l t1 h1 vs r => k vs ds S1 m1 H1 l (J.go l t1) r h1⟩
/-- a part that is the whole's end -/
theorem Mid.tailE (J : Mid K B m m0 S S0 H H0 δ σ) {a : IE} {fr : Bool} {Q : VK} (hf : isFresh a = true ∨ fr = false) (h : FinG K Z B m H (fun c d h => W c d σ h) (evE C a δ S0) (PD K B H fr Q)) : Te K Z C W a σ H0 Q := by
  refine ⟨B, m0, S0, δ, J.t0, J.e, (h.rebase J.t J.t0 J.le).imp fun d S' m' H' q v r f => q v r fun f2 => ?_⟩
  rcases hf with hf | hf
  · refine ⟨fun xs e => ?_⟩
    obtain ⟨a1, vs, H2, h1, h2, h3⟩ := (f hf).of xs e
    exact ⟨a1, vs, H2, h1, J.none h2, h3⟩
  · rw [hf] at f2; cases f2
theorem Mid.tailT (J : Mid K B m m0 S S0 H H0 δ σ) {a : IE} {Q : Bool → Hp → Prop} (h : FinG K Z B m H (fun c d h => W c d σ h) (evT C a δ S0) (PB Q)) : Tb K Z C W a σ H0 Q :=
  ⟨B, m0, S0, δ, J.t0, J.e, h.rebase J.t J.t0 J.le⟩
/-- at the place where one stands -/
theorem Mid.here {α : Type} {V : XK} {r : Res α} {P : α → Store → List Addr → Hp → Prop} (J : Mid K B m m0 S S0 H H0 δ σ) (h : FinG K Z B m H V r P) : FinG K Z B m0 H0 V r P := h.rebase J.t J.t0 J.le
theorem Mid.plain {d : D} {v : V} {fr : Bool} {V : XK} {Q : VK} (J : Mid K B m m0 S S0 H H0 δ σ) (h : FinG K Z B m H V (.ok d S0) (PD K B H fr Q)) (r : RelD K B m0 H0 d v) (n : ∀ xs, d ≠ .lst xs) : Q v H0 := fin_plain J.t0 (J.here h) r n
end
section
variable {X : Cx} {K : Fg} {Z : Xt} {C : Cf} {W : WX} {a b c : Expr} {ia ib ic : IE} {pos : Pos}
theorem s_int {i : Int} {j : Nat} : PE X (.Constant (.int i) j pos) (Te K Z C W (.lit (.int i))) := pe_int.imp' fun σ H Q ⟨B, m, S, δ, t, e, h⟩ => (Mid.start t e).plain h (.int i) fun _ e => nomatch e
theorem s_bool {i : Bool} {j : Nat} : PE X (.Constant (.bool i) j pos) (Te K Z C W (.lit (.bl i))) := pe_bl.imp' fun σ H Q ⟨B, m, S, δ, t, e, h⟩ => (Mid.start t e).plain h (.bl i) fun _ e => nomatch e
theorem s_none {j : Nat} : PE X (.Constant .none j pos) (Te K Z C W (.lit .non)) := pe_non.imp' fun σ H Q ⟨B, m, S, δ, t, e, h⟩ => (Mid.start t e).plain h .non fun _ e => nomatch e
theorem s_str {x : List Nat} {j : Nat} (hx : okS x = true) : PE X (.Constant (.str (SO x)) j pos) (Te K Z C W (.lit (.str x))) := pe_str.imp' fun σ H Q ⟨B, m, S, δ, t, e, h⟩ => (Mid.start t e).plain h (.str x hx) fun _ e => nomatch e
theorem FinG.ret {K : Fg} {Z : Xt} {B m : List Addr} {H : Hp} {V : XK} {α : Type} {a : α} {S : Store} {P : α → Store → List Addr → Hp → Prop} (h : FinG K Z B m H V (M.ret a S) P) : FinG K Z B m H V (.ok a S) P := h
theorem s_var {i : Nat} {x : Str} (hN : X.N[i]? = some x) (hv : Vis X.env.scope x) (hd : (x == ("__debug__" : Str)) = false) (hcd : (x == ("__classdict__" : Str)) = false) : PE X (.Name x pos) (Te K Z C W (.var i)) :=
  (pe_var hN hv hd hcd).imp' fun σ H Q ⟨B, m, S, δ, t, e, h⟩ => by
    obtain ⟨d, h1, h2⟩ := FinG.opt (show FinG K Z B m H _ (M.opt (δ[i]?.join) S) _ from h)
    obtain ⟨v, hv, r⟩ := e.2 i d (join_some h1)
    exact ⟨v, hv, h2.now t v r fun f => nomatch (show false = true from f)⟩
theorem s_glo {y : List Nat} {x : Str} {d : D} {v : V} {u : Value} (hg : Gl X x) (hm : X.mg x = some u) (r : RelV v u) (q : ∀ B m H, (∀ a ∈ m, H a ≠ none) → RelD K B m H d v) (hd : (x == ("__debug__" : Str)) = false) : PE X (.Name x pos) (Te K Z C W (.glo y d)) :=
  (pe_glob hg hm r hd).imp' fun σ H Q ⟨B, m, S, δ, t, e, h⟩ => (FinG.ret h).now t v (q B m H fun a ha => by obtain ⟨vs, z⟩ := t.mlive ha; rw [z]; exact fun w => by cases w) fun f => nomatch (show false = true from f)
theorem s_bin {o : Bo} (ha : PE X a (Te X.K Z C W ia)) (hb : PE X b (Te X.K Z C W ib)) : PE X (.BinOp a (boOf o) b pos) (Te X.K Z C W (.bin o ia ib)) :=
  (pe_op (boOp o) ha hb).imp' fun σ H Q ⟨B, m, S, δ, t, e, h⟩ => by
    refine (Mid.start t e).stepE h fun v d S1 m1 H1 l1 M1 r1 _ h1 => ?_
    refine M1.stepE h1 fun u d2 S2 m2 H2 l2 M2 r2 _ h2 => ?_
    obtain ⟨d3, e3, h3⟩ := FinG.opt (show FinG X.K Z B m H _ (M.opt (binD S2 o d d2) S2) _ from h2)
    exact ⟨B, m2, S2, d, d2, H, d3, M2.t0, M1.val l2 r1, r2, fun p hp => M2.none hp, e3, Z, _, M2.here h3⟩
theorem s_neg (ha : PE X a (Te X.K Z C W ia)) : PE X (.UnaryOp .USub a pos) (Te X.K Z C W (.neg ia)) :=
  (pe_un un_neg ha).imp' fun σ H Q ⟨B, m, S, δ, t, e, h⟩ => by
    refine (Mid.start t e).stepE h fun v d S1 m1 H1 l1 M1 r1 _ h1 => ?_
    cases d with
    | int i => exact ⟨i, r1.int_of, M1.plain h1 (.int _) fun _ e => nomatch e⟩
    | _ => exact False.elim h1
theorem truth_part {K : Fg} {B m m0 : List Addr} {S S0 : Store} {H H0 : Hp} {δ : Ev} {σ : L2.St} {β : Type} {P : β → Store → List Addr → Hp → Prop} {V' : XK} {d : D} {g : Bool → M β} (J : Mid K B m m0 S S0 H H0 δ σ) (h : FinG K Z B m H V' (M.bind (truthM d) g S0) P) :
    ∃ b, truthD S0 d = some b ∧ FinG K Z B m H V' (g b S0) P := by
  unfold M.bind truthM at h
  cases e : truthD S0 d with
  | none => rw [e] at h; exact False.elim h
  | some b => rw [e] at h; exact ⟨b, rfl, h⟩
theorem bind_bind {α β γ : Type} (f : M α) (g : α → M β) (k : β → M γ) (S : Store) : M.bind (M.bind f g) k S = M.bind f (fun a => M.bind (g a) k) S := by
  unfold M.bind
  cases f S <;> rfl
theorem bind_ret {α β : Type} (a : α) (g : α → M β) (S : Store) : M.bind (M.ret a) g S = g a S := rfl
theorem s_not (ha : PE X a (Te X.K Z C W ia)) : PE X (.UnaryOp .Not a pos) (Te X.K Z C W (.not ia)) :=
  (pe_notT ha).imp' fun σ H Q ⟨B, m, S, δ, t, e, h⟩ => by
    have h : FinG X.K Z B m H _ (M.bind (M.bind (evE C ia δ) truthM) (fun b => M.ret (D.bl !b)) S) (PD X.K B H _ Q) := h
    rw [bind_bind] at h
    refine (Mid.start t e).stepE h fun v d S1 m1 H1 l1 M1 r1 _ h1 => ?_
    obtain ⟨b, e1, h2⟩ := truth_part M1 h1
    exact ⟨b, r1.truth M1.t0 e1, M1.plain h2 (.bl _) fun _ e => nomatch e⟩
theorem s_and {rest : List Expr} (ha : PE X a (Te X.K Z C W ia)) (hb : PE X (.BoolOp .And (b :: rest) pos) (Te X.K Z C W ib)) : PE X (.BoolOp .And (a :: b :: rest) pos) (Te X.K Z C W (.and ia ib)) :=
  (pe_andT ha hb).imp' fun σ H Q ⟨B, m, S, δ, t, e, h⟩ => by
    refine (Mid.start t e).stepE h fun v d S1 m1 H1 l1 M1 r1 _ h1 => ?_
    obtain ⟨k, e1, h2⟩ := truth_part M1 h1
    refine ⟨k, r1.truth M1.t0 e1, ?_⟩
    cases k with
    | true => exact M1.tailE (.inr rfl) h2
    | false => exact (FinG.ret (M1.here h2)).now M1.t0 v r1 fun f => nomatch (show false = true from f)
theorem s_or {rest : List Expr} (ha : PE X a (Te X.K Z C W ia)) (hb : PE X (.BoolOp .Or (b :: rest) pos) (Te X.K Z C W ib)) : PE X (.BoolOp .Or (a :: b :: rest) pos) (Te X.K Z C W (.or ia ib)) :=
  (pe_orT ha hb).imp' fun σ H Q ⟨B, m, S, δ, t, e, h⟩ => by
    refine (Mid.start t e).stepE h fun v d S1 m1 H1 l1 M1 r1 _ h1 => ?_
    obtain ⟨k, e1, h2⟩ := truth_part M1 h1
    refine ⟨k, r1.truth M1.t0 e1, ?_⟩
    cases k with
    | false => exact M1.tailE (.inr rfl) h2
    | true => exact (FinG.ret (M1.here h2)).now M1.t0 v r1 fun f => nomatch (show false = true from f)
theorem s_ite (hc : PT X c (Tb X.K Z C W ic)) (ha : PE X a (Te X.K Z C W ia)) (hb : PE X b (Te X.K Z C W ib)) : PE X (.IfExp c a b pos) (Te X.K Z C W (.ite ic ia ib)) :=
  (pe_ifExp hc ha hb).imp' fun σ H Q ⟨B, m, S, δ, t, e, h⟩ => by
    refine (Mid.start t e).stepT (show FinG X.K Z B m H _ (M.bind (evT C ic δ) (fun t => if t then evE C ia δ else evE C ib δ) S) _ from h) fun k S1 m1 H1 l1 M1 h1 => ?_
    cases k with
    | true => exact M1.tailE (.inr rfl) h1
    | false => exact M1.tailE (.inr rfl) h1
theorem s_cmp {o : Co} (hu : X.A.units + 65 < cLine) (ha : PE X a (Te X.K Z C W ia)) (hb : PE X b (Te X.K Z C W ib)) (hm : behindInMarks (coOf o) b = false) : PE X (.Compare a [coOf o] [b] pos) (Te X.K Z C W (.cmp o ia ib)) :=
  (pe_cmpR (coOp hu o) ha hb hm).imp' fun σ H Q ⟨B, m, S, δ, t, e, h⟩ => by
    refine (Mid.start t e).stepE h fun v d S1 m1 H1 l1 M1 r1 _ h1 => ?_
    refine M1.stepE h1 fun u d2 S2 m2 H2 l2 M2 r2 _ h2 => ?_
    unfold M.bind cmpM at h2
    cases q : cmpD S2 o d d2 with
    | none => rw [q] at h2; exact False.elim h2
    | some z =>
      rw [q] at h2
      exact ⟨B, m2, S2, d, d2, z, M2.t0, M1.val l2 r1, r2, q, M2.plain h2 (.bl z) fun _ e => nomatch e⟩
theorem s_chn {o o' : Co} (hu : X.A.units + 65 < cLine) (ha : PE X a (Te X.K Z C W ia)) (hb : PE X b (Te X.K Z C W ib)) (hc : PE X c (Te X.K Z C W ic)) (hm : lastMarks [coOf o, coOf o'] [b, c] = false) :
    PE X (.Compare a [coOf o, coOf o'] [b, c] pos) (Te X.K Z C W (.chn o o' ia ib ic)) :=
  (pe_chain (coOp hu o) (coOp hu o') ha hb hc hm).imp' fun σ H Q ⟨B, m, S, δ, t, e, h⟩ => by
    refine (Mid.start t e).stepE h fun v d S1 m1 H1 l1 M1 r1 _ h1 => ?_
    refine M1.stepE h1 fun u d2 S2 m2 H2 l2 M2 r2 _ h2 => ?_
    unfold M.bind cmpM at h2
    cases q : cmpD S2 o d d2 with
    | none => rw [q] at h2; exact False.elim h2
    | some z =>
      rw [q] at h2
      refine ⟨B, m2, S2, d, d2, z, M2.t0, M1.val l2 r1, r2, q, z, rfl, ?_⟩
      cases z with
      | false => exact M2.plain h2 (.bl false) fun _ e => nomatch e
      | true =>
        rw [if_pos rfl]
        have h2 : FinG X.K Z B m H (fun c d h => W c d σ h) (M.bind (evE C ic δ) (fun z => M.bind (cmpM o' d2 z) fun t' => M.ret (.bl t')) S2) (PD X.K B H _ Q) := h2
        refine M2.stepE h2 fun x3 d3 S3 m3 H3 l3 M3 r3 _ h3 => ?_
        unfold M.bind cmpM at h3
        cases q3 : cmpD S3 o' d2 d3 with
        | none => rw [q3] at h3; exact False.elim h3
        | some z3 =>
          rw [q3] at h3
          exact ⟨B, m3, S3, d2, d3, z3, M3.t0, M2.val l3 r2, r3, q3, M3.plain h3 (.bl z3) fun _ e => nomatch e⟩
end
end Fb
set_option Elab.async false
set_option linter.all false
set_option maxRecDepth 100000
set_option maxHeartbeats 1000000
/-! Fbs: x[lo::k], x[::-1] of lists. -/
namespace Fb
open PySem PySem.Spec PyProof.Rows L2
theorem stepL_skip {α : Type} (k : Nat) : ∀ (j : Nat) (l : List α), stepL k j l = stepL k 0 (l.drop j)
  | 0, l => by rw [List.drop_zero]
  | j + 1, [] => rfl
  | j + 1, x :: r => by
    show stepL k j r = _
    rw [stepL_skip k j r, List.drop_succ_cons]
theorem stepL_cons {α : Type} (k : Nat) (x : α) (r : List α) : stepL k 0 (x :: r) = x :: stepL k 0 (r.drop (k - 1)) := by
  show x :: stepL k (k - 1) r = _
  rw [stepL_skip]
theorem stepL_nil {α : Type} (k j : Nat) : stepL k j ([] : List α) = [] := by cases j <;> rfl
theorem pick_step {α : Type} (xs : List α) {k : Nat} (hk : 1 ≤ k) : ∀ (c a : Nat), xs.length ≤ a + k * c → (c = 0 ∨ a + k * (c - 1) < xs.length) → ((List.range c).map fun i => a + k * i).filterMap (xs[·]?) = stepL k 0 (xs.drop a)
  | 0, a, h, _ => by
    rw [List.drop_eq_nil_of_le (by omega)]
    rfl
  | c + 1, a, h1, h2 => by
    have h2 : a + k * c < xs.length := h2.elim (fun z => nomatch z) fun z => z
    have ha : a < xs.length := Nat.lt_of_le_of_lt (Nat.le_add_right _ _) h2
    rw [List.range_succ_eq_map, List.map_cons, List.filterMap_cons, Nat.mul_zero, Nat.add_zero, List.getElem?_eq_getElem ha]
    have ed : xs.drop a = xs[a] :: xs.drop (a + 1) := List.drop_eq_getElem_cons ha
    rw [ed, stepL_cons, List.drop_drop, show a + 1 + (k - 1) = a + k by omega]
    have ih := pick_step xs hk c (a + k) (by rw [Nat.mul_succ] at h1; omega) (by
      cases c with
      | zero => exact .inl rfl
      | succ c => refine .inr ?_; rw [Nat.mul_succ] at h2; simp; omega)
    rw [← ih, List.map_map]
    have ef : ((fun i => a + k * i) ∘ Nat.succ) = fun i => a + k + k * i := by
      funext i
      show a + k * (i + 1) = a + k + k * i
      rw [Nat.mul_succ]; omega
    rw [ef]
def loO (lo : Nat) (b : Bool) : Option Int := if b then some (lo : Int) else none
theorem slicePick_step (items : Array Value) {lo k : Nat} {b : Bool} (hk : 1 ≤ k) (hb : b = false → lo = 0) : (slicePick items (loO lo b) none (some (k : Int))).toList = stepL k 0 (items.toList.drop lo) := by
  have hk0 : (k : Int) > 0 := by omega
  have e : sliceBounds (loO lo b) none (some (k : Int)) items.size = (((min lo items.size : Nat) : Int), (items.size : Int), (k : Int)) := by
    unfold loO
    cases b with
    | true =>
      simp only [sliceBounds, Option.getD_some, if_true]
      have h1 : ¬ ((lo : Int) < 0) := by omega
      simp only [h1, if_false, hk0, if_true]
      congr 1
      first | omega | (push_cast; omega)
    | false =>
      have := hb rfl
      subst this
      simp only [sliceBounds, Option.getD_some, Bool.false_eq_true, if_false, hk0, if_true]
      first | done | (congr 1; done) | (congr 1; omega) | simp

  unfold slicePick
  rw [e]
  show ((sliceRange ((min lo items.size : Nat) : Int) (items.size : Int) (k : Int)).filterMap (items[·]?)).toArray.toList = _
  have hd : stepL k 0 (items.toList.drop lo) = stepL k 0 (items.toList.drop (min lo items.size)) := by
    by_cases h : lo ≤ items.size
    · rw [Nat.min_eq_left h]
    · rw [List.drop_eq_nil_of_le (by rw [Array.length_toList]; omega), List.drop_eq_nil_of_le (by rw [Array.length_toList]; omega)]
  rw [hd]
  have hm : min lo items.size ≤ items.size := Nat.min_le_right _ _
  generalize min lo items.size = a at hm ⊢
  unfold sliceRange
  simp only [hk0, if_true]
  have key : ∀ c : Nat, items.size ≤ a + k * c → (c = 0 ∨ a + k * (c - 1) < items.size) → (((List.range c).map fun (i : Nat) => ((a : Int) + (k : Int) * (i : Int)).toNat).filterMap (items[·]?)) = stepL k 0 (items.toList.drop a) := fun c h1 h2 => by
    rw [← pick_step items.toList hk c a (by rw [Array.length_toList]; exact h1) (by rw [Array.length_toList]; exact h2)]
    have e1 : ((List.range c).map fun (i : Nat) => ((a : Int) + (k : Int) * (i : Int)).toNat) = (List.range c).map fun i => a + k * i := List.map_congr_left fun i _ => by
      rw [show (a : Int) + (k : Int) * (i : Int) = ((a + k * i : Nat) : Int) by push_cast; rfl, Int.toNat_natCast]
    rw [e1]
    congr 1
    funext j
    exact Array.getElem?_toList.symm
  by_cases h : a < items.size
  · rw [if_pos (by omega)]
    generalize hq : ((items.size : Int) - (a : Int) + (k : Int) - 1) / (k : Int) = q
    have d1 := Int.mul_ediv_add_emod ((items.size : Int) - (a : Int) + (k : Int) - 1) (k : Int)
    have d2 := Int.emod_nonneg ((items.size : Int) - (a : Int) + (k : Int) - 1) (show (k : Int) ≠ 0 by omega)
    have d3 := Int.emod_lt_of_pos ((items.size : Int) - (a : Int) + (k : Int) - 1) hk0
    rw [hq] at d1
    have q0 : 0 < q := by
      rcases Int.lt_or_le 0 q with h | h
      · exact h
      · have : (k : Int) * q ≤ 0 := Int.mul_nonpos_of_nonneg_of_nonpos (by omega) h
        omega
    obtain ⟨c, rfl⟩ : ∃ c : Nat, q = (c : Int) := ⟨q.toNat, by omega⟩
    rw [Int.toNat_natCast]
    have hc : 0 < c := by omega
    refine key c ?_ (.inr ?_)
    · have : (items.size : Int) ≤ a + k * c := by omega
      exact_mod_cast this
    · have e2 : (k : Int) * (c : Int) = (k : Int) * ((c - 1 : Nat) : Int) + k := by
        rw [show (c : Int) = ((c - 1 : Nat) : Int) + 1 by omega, Int.mul_add, Int.mul_one]
      have : (a : Int) + k * ((c - 1 : Nat) : Int) < items.size := by omega
      exact_mod_cast this
  · rw [if_neg (by omega)]
    exact key 0 (by omega) (.inl rfl)
theorem RelDs.step {K : Fg} {B m : List Addr} {H : Hp} (k : Nat) : ∀ {ds : List D} {vs : List V} (j : Nat), RelDs K B m H ds vs → RelDs K B m H (stepL k j ds) (stepL k j vs)
  | _, _, j, .nil => by rw [stepL_nil, stepL_nil]; exact .nil
  | _, _, 0, .cons r s => .cons r (s.step k (k - 1))
  | _, _, j + 1, .cons _ s => s.step k j
theorem vals_step (k : Nat) : ∀ {vs : List V} {us : List Value} (j : Nat), Vals vs us → Vals (stepL k j vs) (stepL k j us)
  | _, _, j, .nil => by rw [stepL_nil, stepL_nil]; exact .nil
  | _, _, 0, .cons r s => .cons r (vals_step k (k - 1) s)
  | _, _, j + 1, .cons _ s => vals_step k j s
theorem step_len {α : Type} (k : Nat) : ∀ (j : Nat) (l : List α), (stepL k j l).length ≤ l.length
  | j, [] => by rw [stepL_nil]; exact Nat.le_refl _
  | 0, x :: r => by have := step_len k (k - 1) r; show _ + 1 ≤ _ + 1; omega
  | j + 1, x :: r => by have := step_len k j r; show (stepL k j r).length ≤ _ + 1; omega
/-- x[lo::k], lo written or not -/
def loE (lo : Nat) (p : Pos) (j : Nat) : Bool → Option Expr
  | true => some (.Constant (.int lo) j p)
  | false => none
def tStp (K : PySem.W.Frag) (lo k : Nat) (te : TE) : TE := fun σ H Q => te σ H fun x H1 => ∃ a xs, x = .ref a ∧ SqL K H1 a xs ∧ ∀ p, H1 p = none → Q (.ref p) (upd H1 p (.lst (stepL k 0 (xs.drop lo))))
section
variable {X : Cx}
theorem pe_stp {e : Expr} {te : TE} {j i lo k : Nat} {b : Bool} {p1 p2 p3 pos : Pos} (hk : 1 ≤ k) (hb : b = false → lo = 0) (he : PE X e te) : PE X (.Subscript e (.Slice (loE lo p1 j b) none (some (.Constant (.int k) i p2)) p3) pos) (tStp X.K lo k te) := by
  refine ⟨fun pins s σ H Q I h => ?_⟩
  refine Subscript_ (thn (he.run pins s σ H _ I h) fun v s1 ⟨x, H1, I1, r1, q1⟩ => ?_)
  obtain ⟨a, xs, ex, hx, q⟩ := q1
  subst ex
  cases r1
  have hlo : wpAny (model X.prog X.w) X.A (evalPart (loE lo p1 j b) X.env) (fun vl s2 => ∃ o H2, Inv X pins σ H2 s2 ∧ IsPart vl o ∧ o = loO lo b ∧ H2 = H1) X.xe s1 := by
    cases b with
    | true => exact (po_some pe_int : PO X (some (.Constant (.int (lo : Int)) j p1)) (tPart (tC (.int lo)))).run pins s1 σ H1 (fun o H2 => o = loO lo true ∧ H2 = H1) I1 ⟨_, rfl, rfl, rfl⟩
    | false => exact po_none.run pins s1 σ H1 (fun o H2 => o = loO lo false ∧ H2 = H1) I1 ⟨rfl, rfl⟩
  have hst : PO X (some (.Constant (.int (k : Int)) i p2)) (tPart (tC (.int k))) := po_some pe_int
  refine wpAny_Slice (thn hlo fun vl s2 ⟨l, H2, I2, pl, el, e2⟩ => ?_)
  subst el e2
  refine thn (po_none.run pins s2 σ H2 (fun o H3 => o = none ∧ H3 = H2) I2 ⟨rfl, rfl⟩) fun vu s3 ⟨u, H3, I3, pu, eu, e3⟩ => ?_
  subst eu e3
  refine thn (hst.run pins s3 σ H3 (fun o H4 => o = some (k : Int) ∧ H4 = H3) I3 ⟨_, rfl, rfl, rfl⟩) fun vs s4 ⟨o, H4, I4, ps, eo, e4⟩ => ?_
  subst eo e4
  have I5 : Inv X pins σ H4 { s4 with heap := s4.heap.push { cls := .type "slice", data := .fields #[vl, vu, vs] } } := I4.kept (t' := s4.toks) fun b ob q => Heap.get?_push_of_some _ q
  obtain ⟨its, r, ht, hz⟩ := I5.list hx
  have hlen := r.length
  show wpAny (model X.prog X.w) X.A (subscriptTail e (.Slice (loE lo p1 j b) none (some (.Constant (.int k) i p2)) p3) (.ref a) (.ref s4.heap.objs.size)) (EP X pins σ Q) X.xe { s4 with heap := s4.heap.push { cls := .type "slice", data := .fields #[vl, vu, vs] } }
  refine tail_any (ops := [.ref a, .ref s4.heap.objs.size]) ht.isList.typeIs (PySem.slot_list_getitem.lookup) ?_ (by with_unfolding_all rfl)
  refine wpAny_getItem_list_slice ht.isList (Heap.IsSliceOf.new _ vl vu vs) pl pu ps (by simp; omega) ?_ (by rw [List.size_toArray]; omega)
  have hp := slicePick_step its.toArray (lo := lo) hk hb
  generalize slicePick its.toArray (loO lo b) none (some (k : Int)) = pk at hp ⊢
  have rs : Vals (stepL k 0 (xs.drop lo)) pk.toList := by
    rw [hp]
    exact vals_step k 0 (r.drop lo)
  refine ⟨.ref _, _, I5.laid (t' := s4.toks) (o := .lst (stepL k 0 (xs.drop lo))) (fun b ob q => Heap.get?_push_of_some _ q) (Nat.le_refl _) ?_, rfl, q _ (I5.hok.fresh (Nat.le_refl _))⟩
  exact ⟨by have := step_len k 0 (xs.drop lo); rw [List.length_drop] at this; omega, _, 0, rs, Heap.get?_push_size _ rfl⟩
variable {Z : Xt} {C : Cf} {W : WX} {e : Expr} {ie : IE}
theorem s_stp {j i lo k : Nat} {b : Bool} {p1 p2 p3 pos : Pos} (hk : 1 ≤ k) (hb : b = false → lo = 0) (he : PE X e (Te X.K Z C W ie)) : PE X (.Subscript e (.Slice (loE lo p1 j b) none (some (.Constant (.int k) i p2)) p3) pos) (Te X.K Z C W (.stp ie lo k)) :=
  (pe_stp hk hb he).imp' fun σ H Q ⟨B, m, S, δ, t, e, h⟩ => (Mid.start t e).stepE h fun v d S1 m1 H1 l1 M1 r1 _ h1 => by
    have h1 : FinG X.K Z B m H (fun c d h => W c d σ h) (M.opt (stpD S1 d lo k) S1) (PD X.K B H true Q) := h1
    obtain ⟨d2, e2, h2⟩ := h1.opt
    unfold stpD at e2
    cases q : lstOf S1 d with
    | none => rw [q] at e2; cases e2
    | some xs =>
      rw [q] at e2
      cases e2
      obtain ⟨a, vs, rfl, hq, rs⟩ := r1.lst_of M1.t0 q
      exact ⟨a, vs, rfl, hq, fun p hp => fin_lst M1.t0 (fun _ z => M1.none z) (M1.here h2) hp (RelDs.step k 0 (rs.drop lo))⟩
/-- x[::-1] of a list -/
def isLst : IE → Bool := fun _ => true
theorem s_rev {i : Nat} {p1 p2 p3 pos : Pos} (he : PE X e (Te X.K Z C W ie)) : PE X (.Subscript e (.Slice none none (some (.UnaryOp .USub (.Constant (.int 1) i p1) p2)) p3) pos) (Te X.K Z C W (.rev ie)) :=
  (pe_rev2 he).imp' fun σ H Q ⟨B, m, S, δ, t, e, h⟩ => (Mid.start t e).stepE h fun v d S1 m1 H1 l1 M1 r1 _ h1 => by
    have h1 : FinG X.K Z B m H (fun c d h => W c d σ h) (M.opt (revD S1 d) S1) (PD X.K B H true Q) := h1
    obtain ⟨d2, e2, h2⟩ := h1.opt
    unfold revD at e2
    split at e2
    · rename_i xs
      cases e2
      cases r1 with
      | tup q rs => exact ⟨_, _, rfl, .inr ⟨q.sq, fun p hp => fin_tup M1.t0 (M1.here h2) hp rs.rev⟩⟩
    · cases q : lstOf S1 d with
      | none => rw [q] at e2; cases e2
      | some xs =>
        rw [q] at e2
        cases e2
        obtain ⟨a, vs, rfl, hq, rs⟩ := r1.lst_of M1.t0 q
        exact ⟨a, vs, rfl, .inl ⟨hq, fun p hp => fin_lst M1.t0 (fun _ z => M1.none z) (M1.here h2) hp rs.rev⟩⟩
end
end Fb
set_option Elab.async false
set_option linter.all false
set_option maxRecDepth 100000
set_option maxHeartbeats 2000000
/-! Fb7: argument lists, displays, subscripts, slices, calls. -/
namespace Fb
open PySem PySem.Spec PyProof.Rows L2
def notStar : Expr → Bool
  | .Starred _ _ => false
  | _ => true
theorem star_cons {e : Expr} {es : List Expr} {env : Env} (h : notStar e = true) : starEach (e :: es) env = (false, eval e env) :: starEach es env := by
  cases e <;> first | rfl | exact absurd h Bool.false_ne_true
def noStars (es : List Expr) : Bool := es.all notStar
theorem plain_args {pos : Pos} {env : Env} : ∀ {es : List Expr}, noStars es = true → (backTo pos (starEach es env)).any (·.1) = false
  | [], _ => rfl
  | e :: es, h => by
    have h2 := Bool.and_eq_true_iff.mp (show (notStar e && es.all notStar) = true from h)
    rw [star_cons h2.1]
    have ih := plain_args (pos := pos) (env := env) (es := es) h2.2
    cases es with
    | nil => rfl
    | cons a r =>
      have h3 := Bool.and_eq_true_iff.mp (show (notStar a && r.all notStar) = true from h2.2)
      rw [star_cons h3.1] at ih ⊢
      exact ih
section
variable {X : Cx} {Z : Xt} {C : Cf} {W : WX} {a b c e : Expr} {es : List Expr} {ia ib ic ie ies : IE} {pos : Pos}
theorem s_nil : PA X [] (Ta X.K Z C W .nil) := pa_nil.imp' fun σ H Q ⟨B, m, S, δ, t, e, h⟩ => (FinG.ret h).now t [] .nil
theorem s_cons (hs : notStar e = true) (ha : PE X e (Te X.K Z C W ie)) (hr : PA X es (Ta X.K Z C W ies)) : PA X (e :: es) (Ta X.K Z C W (.cons ie ies)) :=
  (pa_cons ha hr (star_cons hs)).imp' fun σ H Q ⟨B, m, S, δ, t, e, h⟩ => by
    refine (Mid.start t e).stepE h fun v d S1 m1 H1 l1 M1 r1 _ h1 => ?_
    refine M1.stepA h1 fun vs ds S2 m2 H2 l2 M2 r2 h2 => ?_
    exact (FinG.ret (M2.here h2)).now M2.t0 (v :: vs) (.cons (M1.val l2 r1) r2)
theorem s_tup {k : Nat} (ha : PA X es (Ta X.K Z C W ies)) : PE X (.Tuple es k pos) (Te X.K Z C W (.tup ies)) :=
  (pe_tup ha).imp' fun σ H Q ⟨B, m, S, δ, t, e, h⟩ => by
    refine (Mid.start t e).stepA h fun vs ds S1 m1 H1 l1 M1 r1 h1 => ?_
    by_cases hz : ds.length ≤ SL
    · rw [if_pos hz] at h1
      exact ⟨by rw [← r1.len, ← SL_eq]; exact hz, fun p hp => fin_tup M1.t0 (M1.here (FinG.ret h1)) hp r1⟩
    · rw [if_neg hz] at h1; exact False.elim h1
theorem s_lst (ha : PA X es (Ta X.K Z C W ies)) : PE X (.List es pos) (Te X.K Z C W (.lst ies)) :=
  (pe_lst ha).imp' fun σ H Q ⟨B, m, S, δ, t, e, h⟩ => by
    refine (Mid.start t e).stepA h fun vs ds S1 m1 H1 l1 M1 r1 h1 => ?_
    by_cases hz : ds.length ≤ SL
    · rw [if_pos hz] at h1
      exact ⟨by rw [← r1.len, ← SL_eq]; exact hz, fun p hp => fin_lst M1.t0 (fun a ha => M1.none ha) (M1.here (FinG.ret h1)) hp r1⟩
    · rw [if_neg hz] at h1; exact False.elim h1
theorem s_idx (hb : PlainIx b) (ha : PE X a (Te X.K Z C W ia)) (hi : PE X b (Te X.K Z C W ib)) : PE X (.Subscript a b pos) (Te X.K Z C W (.idx ia ib)) :=
  (pe_ix op_idx ha hi hb).imp' fun σ H Q ⟨B, m, S, δ, t, e, h⟩ => by
    refine (Mid.start t e).stepE h fun v d S1 m1 H1 l1 M1 r1 _ h1 => ?_
    refine M1.stepE h1 fun u d2 S2 m2 H2 l2 M2 r2 _ h2 => ?_
    cases q : idxM d d2 S2 with
    | bad => rw [q] at h2; exact False.elim h2
    | exc cc as S3 => unfold idxM at q; split at q <;> (try split at q) <;> (try (unfold M.opt at q; split at q)) <;> cases q
    | ok d3 S3 =>
      rw [q] at h2
      obtain ⟨e3, _⟩ := idx_cases q
      subst e3
      exact ⟨B, m2, _, d, d2, d3, M2.t0, M1.val l2 r1, r2, ⟨_, q⟩, fun v3 r3 => (M2.here h2).now M2.t0 v3 r3 fun f => nomatch (show false = true from f)⟩
/-- a slice's part -/
def PP (Q : Option Int → Hp → Prop) (o : Option Int) (S' : Store) (m' : List Addr) (H' : Hp) : Prop := Q o H'
def Tp (K : Fg) (Z : Xt) (C : Cf) (W : WX) (e : IE) : TO := fun σ H Q => ∃ B m S δ, At K B m S H ∧ RelE K B m H δ σ ∧ FinG K Z B m H (fun c d h => W c d σ h) (evP C e δ S) (PP Q)
theorem _root_.L2.PO.imp' {o : Option Expr} {t t' : TO} (h : PO X o t) (i : ∀ σ H Q, t' σ H Q → t σ H Q) : PO X o t' := ⟨fun pins s σ H Q I q => h.run pins s σ H Q I (i _ _ _ q)⟩
theorem s_pnone : PO X none (Tp X.K Z C W .nil) := po_none.imp' fun σ H Q ⟨B, m, S, δ, t, e, h⟩ => (FinG.ret h).now t
theorem s_psome {r : IE} (ha : PE X e (Te X.K Z C W ie)) : PO X (some e) (Tp X.K Z C W (.cons ie r)) :=
  (po_some ha).imp' fun σ H Q ⟨B, m, S, δ, t, e, h⟩ => by
    refine (Mid.start t e).stepE h fun v d S1 m1 H1 l1 M1 r1 _ h1 => ?_
    cases d with
    | int i => exact ⟨i, r1.int_of, (FinG.ret (M1.here h1)).now M1.t0⟩
    | _ => exact False.elim h1
theorem Mid.stepP {K : Fg} {B m m0 : List Addr} {S S0 : Store} {H H0 : Hp} {δ : Ev} {σ : L2.St} {β : Type} {P : β → Store → List Addr → Hp → Prop} (J : Mid K B m m0 S S0 H H0 δ σ) {a : IE} {g : Option Int → M β}
    (h : FinG K Z B m H (fun c d h => W c d σ h) (M.bind (evP C a δ) g S0) P) {R : Option Int → Hp → Prop}
    (k : ∀ o S1 m1 H1, Le m0 m1 H0 H1 → Mid K B m m1 S S1 H H1 δ σ → FinG K Z B m H (fun c d h => W c d σ h) (g o S1) P → R o H1) : Tp K Z C W a σ H0 R :=
  ⟨B, m0, S0, δ, J.t0, J.e, J.part h fun o S1 m1 H1 l t1 h1 => k o S1 m1 H1 l (J.go l t1) h1⟩
theorem s_sli {lo hi : Option Expr} {il ih : IE} {p2 : Pos} (ha : PE X a (Te X.K Z C W ia)) (hl : PO X lo (Tp X.K Z C W il)) (hh : PO X hi (Tp X.K Z C W ih)) : PE X (.Subscript a (.Slice lo hi none p2) pos) (Te X.K Z C W (.sli ia il ih)) :=
  (pe_slice op_cut ha hl hh).imp' fun σ H Q ⟨B, m, S, δ, t, e, h⟩ => by
    refine (Mid.start t e).stepE h fun v d S1 m1 H1 l1 M1 r1 _ h1 => ?_
    refine M1.stepP h1 fun lo S2 m2 H2 l2 M2 h2 => ?_
    refine M2.stepP h2 fun hi S3 m3 H3 l3 M3 h3 => ?_
    obtain ⟨d3, e3, h4⟩ := FinG.opt (show FinG X.K Z B m H _ (M.opt (cutD S3 d lo hi) S3) _ from h3)
    exact ⟨B, m3, S3, d, H, d3, M3.t0, M2.val l3 (M1.val l2 r1), fun p hp => M3.none hp, e3, Z, _, M3.here h4⟩
/-- a def's promise, as the evaluator tells it -/
def spF (K : Fg) (Z : Xt) (f : List D → M D) : Sp := fun vs H Q E => ∃ B m S ds, At K B m S H ∧ RelDs K B m H ds vs ∧ FinG K Z B m H E (f ds S) fun d S' m' H' => ∀ v, RelD K B m' H' d v → Q v H'
theorem call_step {f : Nat} {σ : L2.St} {H : Hp} {Q : VK} (h : Te X.K Z C W (.call f ies) σ H Q) : tCallSD (spF X.K Z (C.call f)) [] (fun σ cls d H => W cls d σ H) (Ta X.K Z C W ies) σ H Q := by
  obtain ⟨B, m, S, δ, t, e, h⟩ := h
  refine (Mid.start t e).stepA h fun vs ds S1 m1 H1 l1 M1 r1 h1 => ?_
  rw [List.append_nil]
  exact ⟨B, m1, S1, ds, M1.t0, r1, (M1.here h1).imp fun d S' m' H' q v r => q v r fun f => nomatch (show false = true from f)⟩
theorem s_call {f : Nat} {x : Str} {p : Pos} {k : Nat} {fa : Addr} {fd : FuncData} {ps : List Str} (F : FnOk X.prog X.w X.K X.mg X.base (L2.CX X.prog X.w) k fa fd ps (spF X.K Z (C.call f))) (hr : Room k X.A) (hg : Gl X x) (hm : X.mg x = some (.ref fa))
    (hk : PySem.W.keepIn X.K (.ref fa) = true) (hb : Binds X.K fd ps []) (hx : ∀ σ, PassesAt (L2.CX X.prog X.w) X σ (fun cls d H => W cls d σ H)) (ha : PA X (e :: es) (Ta X.K Z C W ies)) (hdb : (x == ("__debug__" : Str)) = false)
    (hs : noStars (e :: es) = true) : PE X (.Call (.Name x p) (e :: es) [] pos) (Te X.K Z C W (.call f ies)) := by
  have h2 := Bool.and_eq_true_iff.mp (show (notStar e && es.all notStar) = true from hs)
  exact (pe_callSD F hr hg hm hk hb .nil hx ha hdb (star_cons h2.1) (plain_args h2.2)).imp' fun σ H Q h => call_step h
theorem s_call0 {f : Nat} {x : Str} {p : Pos} {k : Nat} {fa : Addr} {fd : FuncData} {ps : List Str} (F : FnOk X.prog X.w X.K X.mg X.base (L2.CX X.prog X.w) k fa fd ps (spF X.K Z (C.call f))) (hr : Room k X.A) (hg : Gl X x) (hm : X.mg x = some (.ref fa))
    (hk : PySem.W.keepIn X.K (.ref fa) = true) (hb : Binds X.K fd ps []) (hx : ∀ σ, PassesAt (L2.CX X.prog X.w) X σ (fun cls d H => W cls d σ H)) (hdb : (x == ("__debug__" : Str)) = false) :
    PE X (.Call (.Name x p) [] [] pos) (Te X.K Z C W (.call f .nil)) := by
  refine ⟨fun pins s σ H Q J h => wpAny_Call_Name_kw (ld_glob J hg hm ?_ hdb)⟩
  obtain ⟨B, m, S, δ, t, e, h⟩ := h
  have h : FinG X.K Z B m H _ (C.call f [] S) _ := h
  refine PySem.W.callWith_K0 J.kIn hk (run_fnSD (us := []) (vs := []) (E := fun σ cls d H => W cls d σ H) F hr hb .nil (hx σ) J .nil ?_)
  exact ⟨B, m, S, [], t, .nil, h.imp fun d S' m' H' q v r => q v r fun f => nomatch (show false = true from f)⟩
/-! ### built-ins by name -/
def bltN : Bt → Str
  | .len => "len" | .int => "int" | .str => "str" | .tuple => "tuple" | .list => "list" | .min => "min" | .max => "max" | .abs => "abs" | .all => "all" | .any => "any" | .sum => "sum"
theorem blt_step {bt : Bt} {σ : L2.St} {H : Hp} {Q : VK} (h : Te X.K Z C W (.blt bt ies) σ H Q) : tCB (rBlt X.K bt) (Ta X.K Z C W ies) σ H Q := by
  obtain ⟨B, m, S, δ, t, e, h⟩ := h
  refine (Mid.start t e).stepA h fun vs ds S1 m1 H1 l1 M1 r1 h1 => ?_
  obtain ⟨d3, e3, h3⟩ := FinG.opt (show FinG X.K Z B m H _ (M.opt (bltD S1 bt ds) S1) _ from h1)
  exact ⟨B, m1, S1, ds, H, d3, M1.t0, r1, fun p hp => M1.none hp, e3, Z, _, M1.here h3⟩
theorem s_blt (bt : Bt) {p : Pos} (hc : X.calm = true) (hg : Gl X (bltN bt)) (hm : X.mg (bltN bt) = none) (ha : PA X (e :: es) (Ta X.K Z C W ies)) (hs : noStars (e :: es) = true) : PE X (.Call (.Name (bltN bt) p) (e :: es) [] pos) (Te X.K Z C W (.blt bt ies)) := by
  have h2 := Bool.and_eq_true_iff.mp (show (notStar e && es.all notStar) = true from hs)
  have s1 := star_cons (env := X.env) (es := es) h2.1
  have s2 := plain_args (pos := pos) (env := X.env) h2.2
  cases bt with
  | len => exact (pe_callB blt_len hg hm PySem.boot_len ha (by decide) (by decide) s1 s2).imp' fun σ H Q h => blt_step h
  | int => exact (pe_callTy blt_int hg hm PyProof.Rows.boot_int ha (by decide) (by decide) s1 s2).imp' fun σ H Q h => blt_step h
  | str => exact (pe_callTy blt_str hg hm PyProof.Rows.boot_str ha (by decide) (by decide) s1 s2).imp' fun σ H Q h => blt_step h
  | tuple => exact (pe_callTy blt_tuple hg hm PyProof.Rows.boot_tuple ha (by decide) (by decide) s1 s2).imp' fun σ H Q h => blt_step h
  | list => exact (pe_callTy blt_list hg hm PyProof.Rows.boot_list ha (by decide) (by decide) s1 s2).imp' fun σ H Q h => blt_step h
  | min => exact (pe_callB (blt_min hc) hg hm PyProof.Rows.boot_min ha (by decide) (by decide) s1 s2).imp' fun σ H Q h => blt_step h
  | max => exact (pe_callB (blt_max hc) hg hm PyProof.Rows.boot_max ha (by decide) (by decide) s1 s2).imp' fun σ H Q h => blt_step h
  | abs => exact (pe_callB blt_abs hg hm (by decide +kernel) ha (by decide) (by decide) s1 s2).imp' fun σ H Q h => blt_step h
  | all => exact (pe_callB (blt_all hc) hg hm PyProof.Rows.boot_all ha (by decide) (by decide) s1 s2).imp' fun σ H Q h => blt_step h
  | any => exact (pe_callB (blt_any hc) hg hm PyProof.Rows.boot_any ha (by decide) (by decide) s1 s2).imp' fun σ H Q h => blt_step h
  | sum => exact (pe_callB (blt_sum hc) hg hm PyProof.Rows.boot_sum ha (by decide) (by decide) s1 s2).imp' fun σ H Q h => blt_step h
end
end Fb
set_option Elab.async false
set_option linter.all false
set_option maxRecDepth 100000
set_option maxHeartbeats 1000000
/-! Fbk: calls with defaults, with keywords. -/
namespace Fb
open PySem PySem.Spec PyProof.Rows L2
section
variable {X : Cx} {Z : Xt} {C : Cf} {W : WX} {e : Expr} {es : List Expr} {ie ies : IE} {pos : Pos}
/-! ### defaults, keywords -/
/-- constants of the text that are no objects -/
def flatV' : D → Option V
  | .non => some .non
  | .bl b => some (.bl b)
  | .int i => some (.int i)
  | .str x => if okS x then some (.str (SO x)) else none
  | _ => none
theorem flatV_rel {K : Fg} {B m : List Addr} {H : Hp} {d : D} {v : V} (h : flatV' d = some v) : RelD K B m H d v := by
  unfold flatV' at h
  split at h
  · cases h; exact .non
  · cases h; exact .bl _
  · cases h; exact .int _
  · split at h
    · cases h; exact .str _ (by assumption)
    · cases h
  · cases h
inductive FlatVs : List D → List V → Prop
  | nil : FlatVs [] []
  | cons {d : D} {v : V} {ds : List D} {vs : List V} : flatV' d = some v → FlatVs ds vs → FlatVs (d :: ds) (v :: vs)
theorem FlatVs.rel {K : Fg} {B m : List Addr} {H : Hp} : ∀ {ds : List D} {vs : List V}, FlatVs ds vs → RelDs K B m H ds vs
  | _, _, .nil => .nil
  | _, _, .cons h r => .cons (flatV_rel h) r.rel
theorem s_calld {f : Nat} {x : Str} {p : Pos} {k : Nat} {fa : Addr} {fd : FuncData} {ps : List Str} {ds : List D} {dvs : List V} {dus : List Value} (F : FnOk X.prog X.w X.K X.mg X.base (L2.CX X.prog X.w) k fa fd ps (spF X.K Z (C.call f))) (hr : Room k X.A) (hg : Gl X x) (hm : X.mg x = some (.ref fa))
    (hk : PySem.W.keepIn X.K (.ref fa) = true) (hb : Binds X.K fd ps dus) (hd : Vals dvs dus) (hv : FlatVs ds dvs) (hx : ∀ σ, PassesAt (L2.CX X.prog X.w) X σ (fun cls d H => W cls d σ H)) (ha : PA X (e :: es) (Ta X.K Z C W ies)) (hdb : (x == ("__debug__" : Str)) = false)
    (hs : noStars (e :: es) = true) : PE X (.Call (.Name x p) (e :: es) [] pos) (Te X.K Z C W (.calld f ies ds)) := by
  have h2 := Bool.and_eq_true_iff.mp (show (notStar e && es.all notStar) = true from hs)
  refine (pe_callSD F hr hg hm hk hb hd hx ha hdb (star_cons h2.1) (plain_args h2.2)).imp' fun σ H Q ⟨B, m, S, δ, t, e, h⟩ => ?_
  refine (Mid.start t e).stepA h fun vs xs S1 m1 H1 l1 M1 r1 h1 => ?_
  exact ⟨B, m1, S1, xs ++ ds, M1.t0, r1.app hv.rel, (M1.here h1).imp fun d S' m' H' q v r => q v r fun f => nomatch (show false = true from f)⟩
/-- keywords: perm puts the positional and the keywords' values in the parameters' order -/
def KBn (K : Fg) (fd : FuncData) (ps ks : List Str) (n : Nat) (perm : List Nat) : Prop :=
  ∀ (s : Shared) (us ws zs : List Value), K.In s.heap → us.length = n → ws.length = ks.length → pickL perm (us ++ ws) = some zs → BindsTo s fd ⟨us, ks.zip ws⟩ (ps.zip zs)
theorem pickL_rel {K : Fg} {B m : List Addr} {H : Hp} {ds : List D} {vs : List V} (r : RelDs K B m H ds vs) : ∀ {perm : List Nat} {ds' : List D}, pickL perm ds = some ds' → ∃ vs', pickL perm vs = some vs' ∧ RelDs K B m H ds' vs'
  | [], _, h => by cases h; exact ⟨[], rfl, .nil⟩
  | i :: is, ds', h => by
    unfold pickL at h
    cases h1 : ds[i]? with
    | none => rw [h1] at h; cases h
    | some x =>
      cases h2 : pickL is ds with
      | none => rw [h1, h2] at h; cases h
      | some xs =>
        rw [h1, h2] at h
        cases h
        obtain ⟨v, e1, r1⟩ := r.get h1
        obtain ⟨ws, e2, r2⟩ := pickL_rel r h2
        exact ⟨v :: ws, by unfold pickL; rw [e1, e2], .cons r1 r2⟩
theorem pickL_vals {vs : List V} {us : List Value} (r : Vals vs us) : ∀ {perm : List Nat} {vs' : List V}, pickL perm vs = some vs' → ∃ us', pickL perm us = some us' ∧ Vals vs' us'
  | [], _, h => by cases h; exact ⟨[], rfl, .nil⟩
  | i :: is, vs', h => by
    unfold pickL at h
    cases h1 : vs[i]? with
    | none => rw [h1] at h; cases h
    | some x =>
      cases h2 : pickL is vs with
      | none => rw [h1, h2] at h; cases h
      | some xs =>
        rw [h1, h2] at h
        cases h
        obtain ⟨v, e1, r1⟩ := r.get h1
        obtain ⟨ws, e2, r2⟩ := pickL_vals r h2
        exact ⟨v :: ws, by unfold pickL; rw [e1, e2], .cons r1 r2⟩
theorem run_fnKSD {E : L2.St → XK} {pins : List (Addr × Obj)} {σ : L2.St} {H : Hp} {s : Shared} {Q : VK} {fa : Addr} {fd : FuncData} {ps ks : List Str} {k n : Nat} {sp : Sp} {perm : List Nat} {us ws : List Value} {vs zs ys : List V} (F : FnOk X.prog X.w X.K X.mg X.base (L2.CX X.prog X.w) k fa fd ps sp) (hr : Room k X.A) (hb : KBn X.K fd ps ks n perm)
    (hx : PassesAt (L2.CX X.prog X.w) X σ (E σ)) (I : Inv X pins σ H s) (r : Vals vs us) (rz : Vals zs ws) (hn : us.length = n) (hz : ws.length = ks.length) (hp : pickL perm (vs ++ zs) = some ys) (h : sp ys H Q (E σ)) : wpAny (model X.prog X.w) X.A (call (.ref fa) us (ks.zip ws)) (EP X pins σ Q) X.xe s := by
  obtain ⟨qs, e1, r2⟩ := pickL_vals (r.append rz) hp
  have hl : qs.length = ps.length := by rw [← r2.length]; exact F.len _ _ _ _ h
  refine wpAny_call (codeAny_mono (F.run X.A X.stack s H ⟨us, ks.zip ws⟩ qs ys Q (E σ) hr I.env0 (hb s us ws qs I.kIn hn hz e1) r2 h) fun r s' hq => ?_)
  cases r with
  | error e => exact hx pins H s e s' I hq
  | ok fl =>
    cases fl with
    | ret u => exact I.after hq
    | next => exact False.elim hq
    | brk => exact False.elim hq
    | cont => exact False.elim hq
theorem _root_.L2.PK.imp' {X : Cx} {es : List Keyword} {t t' : TA} (h : PK X es t) (i : ∀ σ H Q, t' σ H Q → t σ H Q) : PK X es t' := ⟨fun p pins s σ H Q I q => h.run p pins s σ H Q I (i _ _ _ q)⟩
theorem s_knil : PK X [] (Ta X.K Z C W .nil) := pk_nil.imp' fun σ H Q ⟨B, m, S, δ, t, e, h⟩ => (FinG.ret h).now t [] .nil
theorem s_kcons {nm : Option Str} {kpos : Pos} {kws : List Keyword} (ha : PE X e (Te X.K Z C W ie)) (hr : PK X kws (Ta X.K Z C W ies)) : PK X (⟨nm, e, kpos⟩ :: kws) (Ta X.K Z C W (.cons ie ies)) :=
  (pk_cons ha hr).imp' fun σ H Q ⟨B, m, S, δ, t, e, h⟩ => (Mid.start t e).stepE h fun v d S1 m1 H1 l1 M1 r1 _ h1 => M1.stepA h1 fun vs ds S2 m2 H2 l2 M2 r2 h2 => (M2.here (FinG.ret h2)).now M2.t0 _ (.cons (M1.val l2 r1) r2)
/-- the names of keywords, if all have one -/
def kwNames : List Keyword → Option (List Str)
  | [] => some []
  | ⟨some x, _, _⟩ :: r => (kwNames r).map (x :: ·)
  | _ => none
theorem kw_eval {pos : Pos} {env : Env} : ∀ {l : List Keyword} {ks : List Str}, kwNames l = some ks → (backToKw pos (keywordEach l env)).all (·.1.isSome) = true ∧ (backToKw pos (keywordEach l env)).filterMap (·.1) = ks ∧ (backToKw pos (keywordEach l env)).any (·.1.isNone) = false
  | [], ks, h => by cases h; exact ⟨rfl, rfl, rfl⟩
  | ⟨none, e, p⟩ :: r, ks, h => by cases h
  | ⟨some x, e, p⟩ :: r, ks, h => by
    have h : (kwNames r).map (x :: ·) = some ks := h
    cases q : kwNames r with
    | none => rw [q] at h; cases h
    | some ks' =>
      rw [q] at h
      cases h
      obtain ⟨h1, h2, h3⟩ := kw_eval (pos := pos) (env := env) q
      refine ⟨?_, ?_, ?_⟩
      · show (true && (backToKw pos (keywordEach r env)).all (·.1.isSome)) = true
        rw [h1]; rfl
      · show x :: (backToKw pos (keywordEach r env)).filterMap (·.1) = x :: ks'
        rw [h2]
      · show (false || (backToKw pos (keywordEach r env)).any (·.1.isNone)) = false
        rw [h3]; rfl
section
variable {f n m k : Nat} {x : Str} {p : Pos} {fa : Addr} {fd : FuncData} {ps ks : List Str} {perm : List Nat} {ia ik : IE} {kws : List Keyword}
theorem callk_step {σ : L2.St} {H : Hp} {Q : VK} (h : Te X.K Z C W (.callk f n m ia ik perm) σ H Q) : Ta X.K Z C W ia σ H fun vs H1 => Ta X.K Z C W ik σ H1 fun ws H2 => vs.length = n ∧ ws.length = m ∧ ∃ ys, pickL perm (vs ++ ws) = some ys ∧ spF X.K Z (C.call f) ys H2 Q fun cls d H => W cls d σ H := by
  obtain ⟨B, mm, S, δ, t, e, h⟩ := h
  refine (Mid.start t e).stepA h fun vs ds S1 m1 H1 l1 M1 r1 h1 => M1.stepA h1 fun ws ds2 S2 m2 H2 l2 M2 r2 h2 => ?_
  by_cases c : ds.length = n ∧ ds2.length = m
  · rw [if_pos c] at h2
    cases q : pickL perm (ds ++ ds2) with
    | none => rw [q] at h2; exact False.elim h2
    | some zs =>
      rw [q] at h2
      obtain ⟨ys, e1, r3⟩ := pickL_rel ((M1.vals l2 r1).app r2) q
      refine ⟨by rw [← r1.len]; exact c.1, by rw [← r2.len]; exact c.2, ys, e1, B, m2, S2, zs, M2.t0, r3, ?_⟩
      exact (M2.here h2).imp fun d S' m' H' q v r => q v r fun f => nomatch (show false = true from f)
  · rw [if_neg c] at h2; exact False.elim h2
theorem s_callk (F : FnOk X.prog X.w X.K X.mg X.base (L2.CX X.prog X.w) k fa fd ps (spF X.K Z (C.call f))) (hr : Room k X.A) (hg : Gl X x) (hm : X.mg x = some (.ref fa))
    (hk : PySem.W.keepIn X.K (.ref fa) = true) (hb : KBn X.K fd ps ks n perm) (hx : ∀ σ, PassesAt (L2.CX X.prog X.w) X σ (fun cls d H => W cls d σ H)) (ha : PA X (e :: es) (Ta X.K Z C W ia)) (hkw : PK X kws (Ta X.K Z C W ik)) (hks : kwNames kws = some ks) (hn : ks.length = m) (hdb : (x == ("__debug__" : Str)) = false)
    (hs : noStars (e :: es) = true) : PE X (.Call (.Name x p) (e :: es) kws pos) (Te X.K Z C W (.callk f n m ia ik perm)) := by
  obtain ⟨k1, k2, k3⟩ := kw_eval (pos := pos) (env := X.env) hks
  have h2 := Bool.and_eq_true_iff.mp (show (notStar e && es.all notStar) = true from hs)
  refine ⟨fun pins s σ H Q I h => ?_⟩
  refine wpAny_Call_Name_kw (ld_glob I hg hm ?_ hdb)
  refine PySem.W.callWith_KW (h₀ := X.base) I.ok.mod.kin hk k1 (thn (ha.run pos pins s σ H _ I (callk_step h)) fun us s1 ⟨vs, H1, I1, r, q⟩ => ?_) (by rw [plain_args hs, k3]; rfl) (star_cons h2.1)
  refine thn (hkw.run pos pins s1 σ H1 _ I1 q) fun ws s2 ⟨zs, H2, I2, rz, l1, l2, ys, e1, q2⟩ => ⟨I2.kIn, ?_⟩
  rw [k2]
  exact run_fnKSD (us := us) (E := fun σ cls d H => W cls d σ H) F hr hb (hx σ) I2 r rz (by rw [← Paired.length r]; exact l1) (by rw [← Paired.length rz, hn]; exact l2) e1 q2
theorem s_callk0 (F : FnOk X.prog X.w X.K X.mg X.base (L2.CX X.prog X.w) k fa fd ps (spF X.K Z (C.call f))) (hr : Room k X.A) (hg : Gl X x) (hm : X.mg x = some (.ref fa))
    (hk : PySem.W.keepIn X.K (.ref fa) = true) (hb : KBn X.K fd ps ks n perm) (hx : ∀ σ, PassesAt (L2.CX X.prog X.w) X σ (fun cls d H => W cls d σ H)) (hkw : PK X kws (Ta X.K Z C W ik)) (hks : kwNames kws = some ks) (hn : ks.length = m) (hdb : (x == ("__debug__" : Str)) = false) :
    PE X (.Call (.Name x p) [] kws pos) (Te X.K Z C W (.callk f n m .nil ik perm)) := by
  obtain ⟨k1, k2, k3⟩ := kw_eval (pos := pos) (env := X.env) hks
  refine ⟨fun pins s σ H Q I h => ?_⟩
  refine wpAny_Call_Name_kw (ld_glob I hg hm ?_ hdb)
  obtain ⟨B, mm, S, δ, t, e, h⟩ := callk_step h
  have q := (FinG.ret (show FinG X.K Z B mm H _ (M.ret [] S) _ from h)).now t [] .nil
  refine PySem.W.callWith_KW0 (h₀ := X.base) I.ok.mod.kin hk k1 ?_ (by rw [k3]; rfl)
  refine thn (hkw.run pos pins s σ H _ I q) fun ws s2 ⟨zs, H2, I2, rz, l1, l2, ys, e1, q2⟩ => ⟨I2.kIn, ?_⟩
  rw [k2]
  exact run_fnKSD (us := []) (vs := []) (E := fun σ cls d H => W cls d σ H) F hr hb (hx σ) I2 .nil rz l1 (by rw [← Paired.length rz, hn]; exact l2) e1 q2
end
end
end Fb
set_option Elab.async false
set_option linter.all false
set_option maxRecDepth 100000
set_option maxHeartbeats 2000000
/-! Fb8: isinstance, methods, fresh cells, tests, targets, what is walked. -/
namespace Fb
open PySem PySem.Spec PyProof.Rows L2
section
variable {X : Cx} {Z : Xt} {C : Cf} {W : WX} {a b c e : Expr} {es : List Expr} {ia ib ic ie ies : IE} {pos : Pos}
/-! ### isinstance -/
theorem boot_ty (y : Ty) : bootBuiltins (Str.ofString (tyS y)) = some (.type (tyS y)) := by cases y <;> decide +kernel
theorem s_isi1 {y : Ty} {p p2 : Pos} (hg : Gl X "isinstance") (hm : X.mg "isinstance" = none) (hg2 : Gl X (Str.ofString (tyS y))) (hm2 : X.mg (Str.ofString (tyS y)) = none) (ha : PE X a (Te X.K Z C W ia)) (hs : notStar a = true) :
    PE X (.Call (.Name "isinstance" p) [a, .Name (Str.ofString (tyS y)) p2] [] pos) (Te X.K Z C W (.isi ia [y])) := by
  have e1 : PE X (.Name (Str.ofString (tyS y)) p2) (tC (.ty (tyS y))) := pe_bltn hg2 hm2 (boot_ty y) rfl (by cases y <;> decide) (by cases y <;> decide)
  refine (pe_callB isi_one hg hm PyProof.Rows.boot_isinstance (pa_cons ha (pa_cons e1 pa_nil) (star_cons hs)) (by decide) (by decide) (star_cons hs) rfl).imp' fun σ H Q ⟨B, m, S, δ, t, e, h⟩ => ?_
  refine (Mid.start t e).stepE h fun v d S1 m1 H1 l1 M1 r1 _ h1 => ?_
  have h2 : FinG X.K Z B m H (fun c d h => W c d σ h) (.ok (.bl ([y].any (D.isTy S1 d))) S1) (PD X.K B H _ Q) := h1
  rw [show [y].any (D.isTy S1 d) = D.isTy S1 d y by simp] at h2
  exact ⟨B, m1, S1, d, v, y, M1.t0, r1, rfl, M1.plain h2 (.bl _) fun _ e => nomatch e⟩
/-- the names of the types, one behind another -/
def tyNames : List (Ty × Pos) → List Expr
  | [] => []
  | (y, p) :: r => .Name (Str.ofString (tyS y)) p :: tyNames r
theorem pa_tys : ∀ ys : List (Ty × Pos), (∀ q ∈ ys, Gl X (Str.ofString (tyS q.1)) ∧ X.mg (Str.ofString (tyS q.1)) = none) → PA X (tyNames ys) (fun _ H Q => Q (ys.map fun q => V.ty (tyS q.1)) H)
  | [], _ => pa_nil
  | (y, p) :: r, h => by
    obtain ⟨h1, h2⟩ := h (y, p) List.mem_cons_self
    have e1 : PE X (.Name (Str.ofString (tyS y)) p) (tC (.ty (tyS y))) := pe_bltn h1 h2 (boot_ty y) rfl (by cases y <;> decide) (by cases y <;> decide)
    exact pa_cons e1 (pa_tys r fun q hq => h q (List.mem_cons_of_mem _ hq)) (star_cons rfl)
theorem s_isiN {ys : List (Ty × Pos)} {k : Nat} {p p2 : Pos} (hg : Gl X "isinstance") (hm : X.mg "isinstance" = none) (hq : ∀ q ∈ ys, Gl X (Str.ofString (tyS q.1)) ∧ X.mg (Str.ofString (tyS q.1)) = none) (hl : ys.length ≤ 100)
    (ha : PE X a (Te X.K Z C W ia)) (hs : notStar a = true) : PE X (.Call (.Name "isinstance" p) [a, .Tuple (tyNames ys) k p2] [] pos) (Te X.K Z C W (.isi ia (ys.map (·.1)))) := by
  refine (pe_callB isi_any hg hm PyProof.Rows.boot_isinstance (pa_cons ha (pa_cons (pe_tup (pa_tys ys hq)) pa_nil) (star_cons hs)) (by decide) (by decide) (star_cons hs) rfl).imp' fun σ H Q ⟨B, m, S, δ, t, e, h⟩ => ?_
  refine (Mid.start t e).stepE h fun v d S1 m1 H1 l1 M1 r1 _ h1 => ?_
  have hle : Le m1 m1 H1 H1 := Le.refl
  refine ⟨by rw [List.length_map, ← SL_eq]; have : SL = 16777216 := rfl; omega, fun q hq => ?_⟩
  have h2 : FinG X.K Z B m H (fun c d h => W c d σ h) (.ok (.bl ((ys.map (·.1)).any (D.isTy S1 d))) S1) (PD X.K B H _ Q) := h1
  have t2 := M1.t0.new (o := .tup (ys.map fun q => V.ty (tyS q.1))) hq
  have l2 := Le.new M1.t0 (o := .tup (ys.map fun q => V.ty (tyS q.1))) hq
  refine ⟨B, m1, S1, d, v, q, ys.map (·.1), t2, r1.tr (l2.tr M1.t0), rfl, ?_, ?_⟩
  · rw [upd_same, List.map_map]; rfl
  · exact (M1.go l2 t2).plain h2 (.bl _) fun _ e => nomatch e
/-! ### methods -/
def baseOk : Expr → Bool
  | .Name _ _ => true
  | .Constant _ _ _ => true
  | .Subscript _ _ _ => true
  | .Attribute _ _ _ => true
  | .BinOp _ _ _ _ => true
  | _ => false
theorem base_eq {o : Expr} {x : Str} {env : Env} (h : baseOk o = true) : attributeBase o x env (eval o env) = eval o env := by
  cases o <;> first | rfl | exact absurd h Bool.false_ne_true
theorem few_ok {es : List Expr} {e : Expr} {env : Env} {pos : Pos} (h : noStars (e :: es) = true) (hl : decide (es.length < 28) = true) :
    ((backTo pos (starEach (e :: es) env)).all (fun x => !x.1) && (backToKw pos (keywordEach [] env)).all (fun x => x.1.isSome) && decide ((e :: es).length + ([] : List Keyword).length + (if ([] : List Keyword).isEmpty then 0 else 1) < 30)) = true := by
  have h1 : (backTo pos (starEach (e :: es) env)).all (fun x => !x.1) = true := by
    have q := plain_args (pos := pos) (env := env) h
    rw [List.any_eq_false] at q
    rw [List.all_eq_true]
    intro x hx
    have := q x hx
    cases hb : x.1 with
    | true => exact absurd hb this
    | false => rfl
  have h3 := of_decide_eq_true hl
  rw [h1]
  show (true && true && decide (es.length + 1 + 0 + 0 < 30)) = true
  rw [decide_eq_true (by omega)]
  rfl
theorem tyV_of {K : Fg} {B m : List Addr} {H : Hp} {S : Store} {mt : Mt} {d : D} {v : V} (t : At K B m S H) (q : RelD K B m H d v) (e : recvOk mt d = true) : tyV K (mtT mt) v H := by
  unfold recvOk at e
  split at e <;> try contradiction
  all_goals first
    | (obtain ⟨a, vs, rfl, h1, _⟩ := q.lst_of t (xs := _) rfl
       exact .inl ⟨rfl, vs, h1⟩)
    | (obtain ⟨p, rfl, hp⟩ := q.cell_of
       obtain ⟨vs, h⟩ := t.mlive (List.mem_of_getElem? hp)
       exact .inl ⟨rfl, vs, SqL.of h⟩)
    | (rw [q.str_of]; rfl)
theorem mth_step {mt : Mt} {σ : L2.St} {H : Hp} {Q : VK} (h : Te X.K Z C W (.mth mt ia ies) σ H Q) : tBM X.K (mtT mt) (rMth X.K mt) (Te X.K Z C W ia) (Ta X.K Z C W ies) σ H Q := by
  obtain ⟨B, m, S, δ, t, e, h⟩ := h
  refine (Mid.start t e).stepE h fun v d S1 m1 H1 l1 M1 r1 _ h1 => ?_
  by_cases hr : recvOk mt d = true
  · rw [if_pos hr] at h1
    refine ⟨tyV_of M1.t0 r1 hr, ?_⟩
    refine M1.stepA h1 fun vs ds S2 m2 H2 l2 M2 r2 h2 => ?_
    cases q : mthD S2 mt d ds with
    | none => rw [q] at h2; exact False.elim h2
    | some r =>
      obtain ⟨d3, S3⟩ := r
      rw [q] at h2
      exact ⟨B, m2, S2, d, ds, H, d3, S3, M2.t0, M1.val l2 r1, r2, fun p hp => M2.none hp, q, Z, _, M2.here h2⟩
  · rw [if_neg hr] at h1; exact False.elim h1
theorem mth_step0 {mt : Mt} {σ : L2.St} {H : Hp} {Q : VK} (h : Te X.K Z C W (.mth mt ia .nil) σ H Q) : tBM0 X.K (mtT mt) (rMth X.K mt) (Te X.K Z C W ia) σ H Q := by
  obtain ⟨B, m, S, δ, t, e, h⟩ := h
  refine (Mid.start t e).stepE h fun v d S1 m1 H1 l1 M1 r1 _ h1 => ?_
  by_cases hr : recvOk mt d = true
  · rw [if_pos hr] at h1
    refine ⟨tyV_of M1.t0 r1 hr, ?_⟩
    have h2 : FinG X.K Z B m H (fun c d h => W c d σ h) (match mthD S1 mt d [] with
      | some (d, S') => .ok d S'
      | none => .bad) (PD X.K B H _ Q) := h1
    cases q : mthD S1 mt d [] with
    | none => rw [q] at h2; exact False.elim h2
    | some r =>
      obtain ⟨d3, S3⟩ := r
      rw [q] at h2
      exact ⟨B, m1, S1, d, [], H, d3, S3, M1.t0, r1, .nil, fun p hp => M1.none hp, q, Z, _, M1.here h2⟩
  · rw [if_neg hr] at h1; exact False.elim h1
/-- which methods are told with arguments, which without -/
def mtArgs : Mt → Bool
  | .append => true | .extend => true | .popAt => true | .join => true | .split => true | .startswith => true | .count => true | .index => true | _ => false
theorem s_mth {mt : Mt} {apos : Pos} (h1 : mtArgs mt = true) (hb : baseOk a = true) (hl : (apos.endLine == pos.line) = true) (hn : decide (es.length < 28) = true) (hs : noStars (e :: es) = true) (ho : PE X a (Te X.K Z C W ia)) (ha : PA X (e :: es) (Ta X.K Z C W ies)) :
    PE X (.Call (.Attribute a (mtN mt) apos) (e :: es) [] pos) (Te X.K Z C W (.mth mt ia ies)) := by
  have h2 := Bool.and_eq_true_iff.mp (show (notStar e && es.all notStar) = true from hs)
  have s1 := star_cons (env := X.env) (es := es) h2.1
  have s2 := plain_args (pos := pos) (env := X.env) h2.2
  cases mt with
  | append => exact (pe_bm PySem.F.plainAttrs_list PySem.F.slot_list_append PySem.F.type_list_append mt_append' ho ha (base_eq hb) (few_ok hs hn) hl s1 s2).imp' fun σ H Q h => mth_step h
  | extend => exact (pe_bm PySem.F.plainAttrs_list PySem.F.slot_list_extend PySem.F.type_list_extend mt_extend' ho ha (base_eq hb) (few_ok hs hn) hl s1 s2).imp' fun σ H Q h => mth_step h
  | popAt => exact (pe_bm PySem.F.plainAttrs_list PySem.F.slot_list_pop PySem.F.type_list_pop mt_popAt' ho ha (base_eq hb) (few_ok hs hn) hl s1 s2).imp' fun σ H Q h => mth_step h
  | split => exact (pe_bm PySem.F.plainAttrs_str PySem.F.slot_str_split PySem.F.type_str_split mt_split' ho ha (base_eq hb) (few_ok hs hn) hl s1 s2).imp' fun σ H Q h => mth_step h
  | startswith => exact (pe_bm PySem.F.plainAttrs_str PySem.F.slot_str_startswith PySem.F.type_str_startswith mt_starts' ho ha (base_eq hb) (few_ok hs hn) hl s1 s2).imp' fun σ H Q h => mth_step h
  | count => exact (pe_bm PySem.F.plainAttrs_str PySem.F.slot_str_count PySem.F.type_str_count mt_count' ho ha (base_eq hb) (few_ok hs hn) hl s1 s2).imp' fun σ H Q h => mth_step h
  | index => exact (pe_bm PySem.F.plainAttrs_list PySem.F.slot_list_index PySem.F.type_list_index mt_index' ho ha (base_eq hb) (few_ok hs hn) hl s1 s2).imp' fun σ H Q h => mth_step h
  | join => exact (pe_bm PySem.F.plainAttrs_str PySem.F.slot_str_join PySem.F.type_str_join mt_join' ho ha (base_eq hb) (few_ok hs hn) hl s1 s2).imp' fun σ H Q h => mth_step h
  | _ => cases h1
def mtArgs0 : Mt → Bool
  | .pop => true | .upper => true | _ => false
theorem s_mth0 {mt : Mt} {apos : Pos} (h1 : mtArgs0 mt = true) (hb : baseOk a = true) (hl : (apos.endLine == pos.line) = true) (ho : PE X a (Te X.K Z C W ia)) :
    PE X (.Call (.Attribute a (mtN mt) apos) [] [] pos) (Te X.K Z C W (.mth mt ia .nil)) := by
  cases mt with
  | upper => exact (pe_bm0 PySem.F.plainAttrs_str PySem.F.slot_str_upper PySem.F.type_str_upper mt_upper' ho (base_eq hb) hl).imp' fun σ H Q h => mth_step0 h
  | pop => exact (pe_bm0 PySem.F.plainAttrs_list PySem.F.slot_list_pop PySem.F.type_list_pop mt_pop' ho (base_eq hb) hl).imp' fun σ H Q h => mth_step0 h
  | _ => cases h1
/-! ### a new list as a cell -/
theorem alloc_step {σ : L2.St} {H : Hp} {Q : VK} (hf : isFresh ia = true) (h : Te X.K Z C W (.alloc ia) σ H Q) : Te X.K Z C W ia σ H Q := by
  obtain ⟨B, m, S, δ, t, e, h⟩ := h
  refine (Mid.start t e).stepE h fun v d S1 m1 H1 l1 M1 r1 fr h1 => ?_
  have plain : (∀ xs, d ≠ .lst xs) → FinG X.K Z B m H (fun c d h => W c d σ h) (.ok d S1) (PD X.K B H false Q) → Q v H1 := fun n h2 => M1.plain h2 r1 n
  cases d with
  | lst xs =>
    obtain ⟨a1, vs, H2, rfl, h2, h3, rfl, t2, rs⟩ := (fr hf).of xs rfl
    have h1 : FinG X.K Z B m H (fun c d h => W c d σ h) (.ok (.cell S1.length) (S1 ++ [.lst xs])) (PD X.K B H false Q) := h1
    obtain ⟨r, er, hr⟩ := l1.pre
    refine h1 (m1 ++ [a1]) (upd H2 a1 (.lst vs)) ⟨⟨r ++ [a1], by rw [er, List.append_assoc], fun x hx => ?_⟩, l1.keep⟩ (t2.grow h3 rs) (.ref a1) (.cell ?_) fun f => nomatch f
    · rcases List.mem_append.mp hx with hx | hx
      · exact hr x hx
      · rw [List.mem_singleton.mp hx]; exact h2
    · rw [t2.len, List.getElem?_append_right (Nat.le_refl _)]
      simp
  | non => exact plain (fun _ e => nomatch e) h1
  | bl b => exact plain (fun _ e => nomatch e) h1
  | int b => exact plain (fun _ e => nomatch e) h1
  | str b => exact plain (fun _ e => nomatch e) h1
  | tup b => exact plain (fun _ e => nomatch e) h1
  | ro b => exact plain (fun _ e => nomatch e) h1
  | cell b => exact plain (fun _ e => nomatch e) h1
theorem s_alloc (hf : isFresh ia = true) (ha : PE X a (Te X.K Z C W ia)) : PE X a (Te X.K Z C W (.alloc ia)) := ha.imp' fun σ H Q h => alloc_step hf h
/-! ### tests -/
theorem s_truth (he : ∀ whole, isTrue a X.env whole = (do let v ← whole; standAt a.pos; holding [v] (truthy v))) (ha : PE X a (Te X.K Z C W ia)) : PT X a (Tb X.K Z C W ia) :=
  (pt_truth ha he).imp' fun σ H Q ⟨B, m, S, δ, t, e, h⟩ => by
    refine (Mid.start t e).stepE (show FinG X.K Z B m H _ (M.bind (evE C ia δ) truthM S) _ from h) fun v d S1 m1 H1 l1 M1 r1 _ h1 => ?_
    obtain ⟨k, e1, h2⟩ := FinG.opt (show FinG X.K Z B m H _ (M.opt (truthD S1 d) S1) _ from h1)
    exact ⟨k, r1.truth M1.t0 e1, (M1.here h2).now M1.t0⟩
theorem truth_bl (b : Bool) (S : Store) : truthM (.bl b) S = .ok b S := rfl
theorem evT_not (C : Cf) (a : IE) (δ : Ev) (S : Store) : evT C (.not a) δ S = M.bind (evT C a δ) (fun b => M.ret !b) S := by
  show M.bind (M.bind (M.bind (evE C a δ) truthM) fun b => M.ret (D.bl !b)) truthM S = M.bind (M.bind (evE C a δ) truthM) (fun b => M.ret !b) S
  rw [bind_bind]
  rfl
theorem evT_cmp (C : Cf) (o : Co) (a b : IE) (δ : Ev) (S : Store) : evT C (.cmp o a b) δ S = M.bind (evE C a δ) (fun x => M.bind (evE C b δ) fun y => cmpM o x y) S := by
  show M.bind (M.bind (evE C a δ) fun x => M.bind (evE C b δ) fun y => M.bind (cmpM o x y) fun t => M.ret (D.bl t)) truthM S = _
  unfold M.bind
  cases evE C a δ S with
  | ok x S1 =>
    simp only
    cases evE C b δ S1 with
    | ok y S2 =>
      simp only
      unfold cmpM M.opt
      cases cmpD S2 o x y <;> rfl
    | exc _ _ _ => rfl
    | bad => rfl
  | exc _ _ _ => rfl
  | bad => rfl
theorem evT_and (C : Cf) (a b : IE) (δ : Ev) (S : Store) : evT C (.and a b) δ S = M.bind (evT C a δ) (fun t => if t then evT C b δ else M.ret false) S := by
  show M.bind (M.bind (evE C a δ) fun x => M.bind (truthM x) fun t => if t then evE C b δ else M.ret x) truthM S = M.bind (M.bind (evE C a δ) truthM) (fun t => if t then evT C b δ else M.ret false) S
  rw [bind_bind, bind_bind]
  unfold M.bind
  cases evE C a δ S with
  | ok x S1 =>
    simp only
    unfold truthM M.opt
    cases q : truthD S1 x with
    | none => rfl
    | some t =>
      cases t with
      | true => rfl
      | false =>
        simp only [Bool.false_eq_true, if_false]
        unfold M.ret
        simp only [q]
  | exc _ _ _ => rfl
  | bad => rfl
theorem evT_or (C : Cf) (a b : IE) (δ : Ev) (S : Store) : evT C (.or a b) δ S = M.bind (evT C a δ) (fun t => if t then M.ret true else evT C b δ) S := by
  show M.bind (M.bind (evE C a δ) fun x => M.bind (truthM x) fun t => if t then M.ret x else evE C b δ) truthM S = M.bind (M.bind (evE C a δ) truthM) (fun t => if t then M.ret true else evT C b δ) S
  rw [bind_bind, bind_bind]
  unfold M.bind
  cases evE C a δ S with
  | ok x S1 =>
    simp only
    unfold truthM M.opt
    cases q : truthD S1 x with
    | none => rfl
    | some t =>
      cases t with
      | false => rfl
      | true =>
        simp only [if_true]
        unfold M.ret
        simp only [q]
  | exc _ _ _ => rfl
  | bad => rfl
theorem t_not (ha : PT X a (Tb X.K Z C W ia)) : PT X (.UnaryOp .Not a pos) (Tb X.K Z C W (.not ia)) :=
  (pt_not ha).imp' fun σ H Q ⟨B, m, S, δ, t, e, h⟩ => by
    rw [evT_not] at h
    refine (Mid.start t e).stepT h fun b S1 m1 H1 l1 M1 h1 => (FinG.ret (M1.here h1)).now M1.t0
theorem t_and {rest : List Expr} (ha : PT X a (Tb X.K Z C W ia)) (hb : PW X (.BoolOp .And (b :: rest) pos) (Tb X.K Z C W ib)) : PW X (.BoolOp .And (a :: b :: rest) pos) (Tb X.K Z C W (.and ia ib)) :=
  (pw_and ha hb).imp' fun σ H Q ⟨B, m, S, δ, t, e, h⟩ => by
    rw [evT_and] at h
    refine (Mid.start t e).stepT h fun k S1 m1 H1 l1 M1 h1 => ?_
    cases k with
    | true => exact M1.tailT h1
    | false => exact (FinG.ret (M1.here h1)).now M1.t0
theorem t_or {rest : List Expr} (ha : PT X a (Tb X.K Z C W ia)) (hb : PW X (.BoolOp .Or (b :: rest) pos) (Tb X.K Z C W ib)) : PW X (.BoolOp .Or (a :: b :: rest) pos) (Tb X.K Z C W (.or ia ib)) :=
  (pw_or ha hb).imp' fun σ H Q ⟨B, m, S, δ, t, e, h⟩ => by
    rw [evT_or] at h
    refine (Mid.start t e).stepT h fun k S1 m1 H1 l1 M1 h1 => ?_
    cases k with
    | false => exact M1.tailT h1
    | true => exact (FinG.ret (M1.here h1)).now M1.t0
theorem t_cmp {o : Co} (hu : X.A.units + 65 < cLine) (ha : PE X a (Te X.K Z C W ia)) (hb : PE X b (Te X.K Z C W ib)) (hm : behindInMarks (coOf o) b = false) : PT X (.Compare a [coOf o] [b] pos) (Tb X.K Z C W (.cmp o ia ib)) :=
  (pt_cmpR (coOp hu o) ha hb hm).imp' fun σ H Q ⟨B, m, S, δ, t, e, h⟩ => by
    rw [evT_cmp] at h
    refine (Mid.start t e).stepE h fun v d S1 m1 H1 l1 M1 r1 _ h1 => ?_
    refine M1.stepE h1 fun u d2 S2 m2 H2 l2 M2 r2 _ h2 => ?_
    obtain ⟨z, q, h3⟩ := FinG.opt (show FinG X.K Z B m H _ (M.opt (cmpD S2 o d d2) S2) _ from h2)
    exact ⟨B, m2, S2, d, d2, z, M2.t0, M1.val l2 r1, r2, q, z, rfl, (M2.here h3).now M2.t0⟩
/-- a comparison of another form, by its value -/
theorem t_val (ha : PE X a (Te X.K Z C W ia)) (hp : ∀ {te : TE}, PE X a te → PT X a (tTest te)) (hb : ∀ δ S d S', evE C ia δ S = .ok d S' → ∃ k, d = .bl k) : PT X a (Tb X.K Z C W ia) :=
  (hp ha).imp' fun σ H Q ⟨B, m, S, δ, t, e, h⟩ => by
    refine ⟨B, m, S, δ, t, e, ?_⟩
    have h : FinG X.K Z B m H (fun c d h => W c d σ h) (M.bind (evE C ia δ) truthM S) (PB Q) := h
    unfold M.bind at h
    cases q : evE C ia δ S with
    | ok d S1 =>
      obtain ⟨k, rfl⟩ := hb _ _ _ _ q
      rw [q] at h
      exact fun m' H' l t' v r _ => ⟨k, r.bl_of, h m' H' l t'⟩
    | exc c as S1 => rw [q] at h; exact h
    | bad => rw [q] at h; exact h
end
end Fb
set_option Elab.async false
set_option linter.all false
set_option maxRecDepth 100000
set_option maxHeartbeats 2000000
/-! Fb9: what is walked, targets, list comprehensions. -/
namespace Fb
open PySem PySem.Spec PyProof.Rows L2
/-- an iterator that yields these data, whatever the heap grows to -/
def JW (K : Fg) (B m : List Addr) (H : Hp) (J : It) (xs : List D) : Prop := ∀ B1 m1 S1 H1, Tr K B m B1 m1 H H1 → At K B1 m1 S1 H1 → ∀ i : Nat,
  (∀ x, xs[i]? = some x → J.go i H1 ∧ ∀ v H2, J.yld i H1 v H2 → Le m1 m1 H1 H2 ∧ At K B1 m1 S1 H2 ∧ RelD K B1 m1 H2 x v) ∧ (xs[i]? = none → J.stop i H1)
def PSrc (K : Fg) (B : List Addr) (R : It → Hp → Prop) (s : Src) (S' : Store) (m' : List Addr) (H' : Hp) : Prop := match s with
  | .xs xs => ∀ J, JW K B m' H' J xs → R J H'
  | .cl n => ∀ a, m'[n]? = some a → R (Itl K a) H'
def Ti (K : Fg) (Z : Xt) (C : Cf) (W : WX) (e : IE) : TI := fun σ H R => ∃ B m S δ, At K B m S H ∧ RelE K B m H δ σ ∧ FinG K Z B m H (fun c d h => W c d σ h) (evI C e δ S) (PSrc K B R)
theorem _root_.L2.PI.imp' {X : Cx} {tg e : Expr} {t t' : TI} (h : PI X tg e t) (i : ∀ σ H R, t' σ H R → t σ H R) : PI X tg e t' := ⟨fun pins s σ H R I q => h.run pins s σ H R I (i _ _ _ q)⟩
theorem _root_.L2.PI.or' {X : Cx} {tg e : Expr} {t t' : TI} (h : PI X tg e t) (h' : PI X tg e t') : PI X tg e (fun σ H R => t σ H R ∨ t' σ H R) := ⟨fun pins s σ H R I q => q.elim (h.run pins s σ H R I) (h'.run pins s σ H R I)⟩
section
variable {K : Fg} {B m : List Addr} {H : Hp}
theorem Tr.sqt {B1 m1 : List Addr} {H1 : Hp} {a : Addr} {vs : List V} (t : Tr K B m B1 m1 H H1) (q : QT K m H a vs) : SqT K H1 a vs := q.imp (fun h => (t.tup _ _ h.1 h.2).1) id
theorem jw_tup {a : Addr} {vs : List V} {xs : List D} (q : QT K m H a vs) (r : RelDs K B m H xs vs) : JW K B m H (Itt K a) xs := fun B1 m1 S1 H1 t t1 i => by
  have hs := t.sqt q
  refine ⟨fun x hx => ?_, fun hn => ?_⟩
  · obtain ⟨v, hv, rv⟩ := r.get hx
    refine ⟨⟨vs, v, hs, hv⟩, fun u H2 hy => ?_⟩
    obtain ⟨rfl, hy⟩ := hy
    have e := hy vs hs
    rw [hv] at e
    cases e
    exact ⟨Le.refl, t1, rv.tr t⟩
  · exact ⟨vs, hs, by rw [← r.len]; exact List.getElem?_eq_none_iff.mp hn⟩
theorem jw_lst {a : Addr} {vs : List V} {xs : List D} (q : ∀ B1 m1 H1, Tr K B m B1 m1 H H1 → SqL K H1 a vs) (r : RelDs K B m H xs vs) : JW K B m H (Itl K a) xs := fun B1 m1 S1 H1 t t1 i => by
  have hs := q _ _ _ t
  refine ⟨fun x hx => ?_, fun hn => ?_⟩
  · obtain ⟨v, hv, rv⟩ := r.get hx
    refine ⟨⟨vs, v, hs, hv⟩, fun u H2 hy => ?_⟩
    obtain ⟨rfl, hy⟩ := hy
    have e := hy vs hs
    rw [hv] at e
    cases e
    exact ⟨Le.refl, t1, rv.tr t⟩
  · exact ⟨vs, hs, by rw [← r.len]; exact List.getElem?_eq_none_iff.mp hn⟩
theorem jw_str {x : List Nat} (hx : okS x = true) : JW K B m H (Its (SO x)) (x.map fun c => .str [c]) := fun B1 m1 S1 H1 t t1 i => by
  have hsz : (SO x).cps.size = x.length := by simp [SO]
  refine ⟨fun d hd => ?_, fun hn => ?_⟩
  · rw [List.getElem?_map] at hd
    cases q : x[i]? with
    | none => rw [q] at hd; cases hd
    | some c =>
      rw [q] at hd
      cases hd
      have hi : i < x.length := (List.getElem?_eq_some_iff.mp q).1
      refine ⟨show i < (SO x).cps.size by rw [hsz]; exact hi, fun v H2 hy => ?_⟩
      obtain ⟨rfl, c2, e2, rfl⟩ := hy
      have e3 : x.toArray[i]? = some c2 := e2
      rw [List.getElem?_toArray, q] at e3
      cases e3
      exact ⟨Le.refl, t1, .str [c] (okS_sub hx fun k hk => by rw [List.mem_singleton.mp hk]; exact List.mem_of_getElem? q)⟩
  · rw [List.getElem?_map, Option.map_eq_none_iff, List.getElem?_eq_none_iff] at hn
    exact show (SO x).cps.size ≤ i by rw [hsz]; exact hn
theorem rng_get (lo : Int) (n i : Nat) : (rngD lo n)[i]? = if i < n then some (.int (lo + i)) else none := by
  unfold rngD
  rw [List.getElem?_map]
  by_cases h : i < n
  · rw [if_pos h, List.getElem?_range h]; rfl
  · rw [if_neg h, List.getElem?_eq_none (by simpa using h)]; rfl
theorem jw_rng (lo : Int) (n : Nat) : JW K B m H (Itr lo n) (rngD lo n) := fun B1 m1 S1 H1 t t1 i => by
  rw [rng_get]
  by_cases h : i < n
  · rw [if_pos h]
    refine ⟨fun x hx => ?_, fun e => nomatch e⟩
    cases hx
    refine ⟨h, fun v H2 hy => ?_⟩
    obtain ⟨rfl, rfl⟩ := hy
    exact ⟨Le.refl, t1, .int _⟩
  · rw [if_neg h]
    exact ⟨fun x hx => (nomatch hx), fun _ => Nat.le_of_not_lt h⟩
/-- a cell walked as it stands -/
theorem jc_at {S : Store} {n : Nat} {a : Addr} {ys : List D} (t : At K B m S H) (ha : m[n]? = some a) (e : lstOf S (.cell n) = some ys) (i : Nat) :
    (∀ x, ys[i]? = some x → (Itl K a).go i H ∧ ∀ v H2, (Itl K a).yld i H v H2 → H2 = H ∧ RelD K B m H x v) ∧ (ys[i]? = none → (Itl K a).stop i H) := by
  obtain ⟨p, vs, e1, hs, r⟩ := RelD.lst_of t (RelD.cell ha) e
  cases e1
  refine ⟨fun x hx => ?_, fun hn => ?_⟩
  · obtain ⟨v, hv, rv⟩ := r.get hx
    refine ⟨⟨vs, v, hs, hv⟩, fun u H2 hy => ?_⟩
    obtain ⟨rfl, hy⟩ := hy
    have e := hy vs hs
    rw [hv] at e
    cases e
    exact ⟨rfl, rv⟩
  · exact ⟨vs, hs, by rw [← r.len]; exact List.getElem?_eq_none_iff.mp hn⟩
end
section
variable {X : Cx} {Z : Xt} {C : Cf} {W : WX} {a b e tg : Expr} {ia ib ie : IE} {pos p : Pos}
theorem i_val (ha : PE X e (Te X.K Z C W ie)) {r : IE} : PI X tg e (Ti X.K Z C W (.cons ie r)) := by
  refine (PI.or' (pi_tup ha) (PI.or' (pi_list ha) (pi_str ha))).imp' fun σ H R ⟨B, m, S, δ, t, e, h⟩ => ?_
  have h : FinG X.K Z B m H (fun c d h => W c d σ h) (M.bind (evE C ie δ) (fun x => M.opt (srcD x)) S) (PSrc X.K B R) := h
  unfold M.bind at h
  cases q : evE C ie δ S with
  | bad => rw [q] at h; exact False.elim h
  | exc c as S1 =>
    rw [q] at h
    exact .inl ⟨B, m, S, δ, t, e, by rw [q]; exact h⟩
  | ok d S1 =>
    rw [q] at h
    cases d with
    | tup xs =>
      refine .inl ⟨B, m, S, δ, t, e, ?_⟩
      rw [q]
      intro m' H' l t' v rv _
      cases rv with
      | tup hq rs => exact ⟨_, rfl, ⟨_, hq.sq⟩, h m' H' l t' _ (jw_tup hq rs)⟩
    | lst xs =>
      refine .inr (.inl ⟨B, m, S, δ, t, e, ?_⟩)
      rw [q]
      intro m' H' l t' v rv _
      cases rv with
      | lst hq rs => exact ⟨_, rfl, ⟨_, hq.sq (K := X.K)⟩, h m' H' l t' _ (jw_lst (fun _ _ _ tr => SqL.of (tr.obj _ _ hq.1 hq.2.1 hq.2.2).1) rs)⟩
    | ro xs =>
      refine .inr (.inl ⟨B, m, S, δ, t, e, ?_⟩)
      rw [q]
      intro m' H' l t' v rv _
      cases rv with
      | ro hq rs => exact ⟨_, rfl, ⟨_, hq.sq⟩, h m' H' l t' _ (jw_lst (fun _ _ _ tr => hq.imp (fun z => (tr.rd z.1 z.2.1 z.2.2).1) id) rs)⟩
    | str x =>
      refine .inr (.inr ⟨B, m, S, δ, t, e, ?_⟩)
      rw [q]
      intro m' H' l t' v rv _
      exact ⟨_, rv.str_of, h m' H' l t' _ (jw_str rv.str_ok)⟩
    | cell n =>
      refine .inr (.inl ⟨B, m, S, δ, t, e, ?_⟩)
      rw [q]
      intro m' H' l t' v rv _
      obtain ⟨a, rfl, ha⟩ := rv.cell_of
      obtain ⟨vs, hv⟩ := t'.mlive (List.mem_of_getElem? ha)
      exact ⟨a, rfl, ⟨vs, SqL.of hv⟩, h m' H' l t' a ha⟩
    | non => exact False.elim h
    | bl _ => exact False.elim h
    | int _ => exact False.elim h
theorem big62_eq : big62 = 2 ^ 62 := by decide
theorem i_rng1 (hg : Gl X "range") (hm : X.mg "range" = none) (hs : notStar a = true) (ha : PE X a (Te X.K Z C W ia)) : PI X tg (.Call (.Name "range" p) [a] [] pos) (Ti X.K Z C W (.rng1 ia)) :=
  (pi_range1 hg hm (pa_cons ha pa_nil (star_cons hs)) (star_cons hs)).imp' fun σ H R ⟨B, m, S, δ, t, e, h⟩ => by
    refine (Mid.start t e).stepE h fun v d S1 m1 H1 l1 M1 r1 _ h1 => ?_
    cases d with
    | int j =>
      have h1 : FinG X.K Z B m H (fun c d h => W c d σ h) ((if -big62 ≤ j ∧ j < big62 then M.ret (.xs (rngD 0 j.toNat)) else M.bad : M Src) S1) (PSrc X.K B R) := h1
      by_cases hz : -big62 ≤ j ∧ j < big62
      · rw [if_pos hz] at h1
        rw [big62_eq] at hz
        exact ⟨j, by rw [r1.int_of], hz.1, hz.2, (FinG.ret (M1.here h1)).now M1.t0 _ (jw_rng 0 j.toNat)⟩
      · rw [if_neg hz] at h1; exact False.elim h1
    | _ => exact False.elim h1
theorem i_rng2 (hg : Gl X "range") (hm : X.mg "range" = none) (hs : notStar a = true) (hs2 : notStar b = true) (ha : PE X a (Te X.K Z C W ia)) (hb : PE X b (Te X.K Z C W ib)) : PI X tg (.Call (.Name "range" p) [a, b] [] pos) (Ti X.K Z C W (.rng2 ia ib)) :=
  (pi_range2 hg hm (pa_cons ha (pa_cons hb pa_nil (star_cons hs2)) (star_cons hs)) (by rw [star_cons hs, star_cons hs2]; rfl) (star_cons hs2)).imp' fun σ H R ⟨B, m, S, δ, t, e, h⟩ => by
    refine (Mid.start t e).stepE h fun v d S1 m1 H1 l1 M1 r1 _ h1 => ?_
    refine M1.stepE h1 fun u d2 S2 m2 H2 l2 M2 r2 _ h2 => ?_
    cases d with
    | int i =>
      cases d2 with
      | int j =>
        have h2 : FinG X.K Z B m H (fun c d h => W c d σ h) ((if -big62 ≤ i ∧ i < big62 ∧ -big62 ≤ j ∧ j < big62 then M.ret (.xs (rngD i (j - i).toNat)) else M.bad : M Src) S2) (PSrc X.K B R) := h2
        by_cases hz : -big62 ≤ i ∧ i < big62 ∧ -big62 ≤ j ∧ j < big62
        · rw [if_pos hz] at h2
          rw [big62_eq] at hz
          exact ⟨i, j, by rw [r1.int_of, r2.int_of], hz, (FinG.ret (M2.here h2)).now M2.t0 _ (jw_rng i (j - i).toNat)⟩
        · rw [if_neg hz] at h2; exact False.elim h2
      | _ => exact False.elim h2
    | _ => exact False.elim h2
/-! ### targets -/
/-- the slots of a target -/
def patS : Pat → List Nat
  | .nm i => [i]
  | .tp is => is
  | .tq ps => patS ps
  | .pn => []
  | .pc p r => patS p ++ patS r
/-- a target's reading: from the evaluator's slots -/
def Tg (K : Fg) (p : Pat) : TG := fun v σ H Q => ∃ B m S δ d δ', At K B m S H ∧ RelE K B m H δ σ ∧ RelD K B m H d v ∧ patE p d S δ = some δ' ∧ ∀ σ', RelE K B m H δ' σ' → wipe σ' (patS p) = wipe σ (patS p) → Q σ' H
/-- .. of several targets -/
def Tgs (K : Fg) (p : Pat) : TGs := fun vs σ H Q => ∃ B m S δ ds δ', At K B m S H ∧ RelE K B m H δ σ ∧ RelDs K B m H ds vs ∧ patL p ds S δ = some δ' ∧ ∀ σ', RelE K B m H δ' σ' → wipe σ' (patS p) = wipe σ (patS p) → Q σ' H
theorem wipe_set {i : Nat} {v : V} : ∀ (vs : List Nat) (σ : L2.St), i ∈ vs → wipe (σ.set i (some v)) vs = wipe σ vs
  | [], _, h => by cases h
  | j :: vs, σ, h => by
    show (wipe (σ.set i (some v)) vs).set j none = (wipe σ vs).set j none
    by_cases hm : i ∈ vs
    · rw [wipe_set vs σ hm]
    · have e : i = j := (List.mem_cons.mp h).resolve_right hm
      subst e
      have comm : ∀ (ws : List Nat) (τ : L2.St), i ∉ ws → wipe (τ.set i (some v)) ws = (wipe τ ws).set i (some v) := by
        intro ws
        induction ws with
        | nil => intro τ _; rfl
        | cons k ws ih =>
          intro τ hn
          show (wipe (τ.set i (some v)) ws).set k none = ((wipe τ ws).set k none).set i (some v)
          rw [ih τ (fun z => hn (List.mem_cons_of_mem _ z)), List.set_comm _ _ (fun z => hn (by rw [z]; exact List.mem_cons_self))]
      rw [comm vs σ hm, List.set_set]
theorem g_name {i : Nat} {x : Str} (hN : X.N.Nodup) (hi : X.N[i]? = some x) (hx : Loc X.env.scope x) (hf : X.fn x = true ∨ X.env.scope.names.lookup x = some .local) : PG X (.Name x pos) (Tg X.K (.nm i)) := by
  have h0 := pg_name (X := X) (pos := pos) hN hi hx hf
  refine ⟨fun pins s σ H v u Q I r h => h0.run pins s σ H v u Q I r ?_⟩
  obtain ⟨B, m, S, δ, d, δ', t, e, rd, hp, q⟩ := h
  cases hp
  exact q _ (e.set rd i) (wipe_set [i] σ (List.mem_singleton_self i))
/-- names one behind another -/
def nmEs : List (Str × Pos) → List Expr
  | [] => []
  | (x, p) :: r => .Name x p :: nmEs r
theorem each_names (env : Env) : ∀ xs : List (Str × Pos), (assignEach (nmEs xs) env).length = xs.length ∧ (assignEach (nmEs xs) env).findIdx? (·.1) = none
  | [] => ⟨rfl, rfl⟩
  | (x, p) :: r => by
    obtain ⟨h1, h2⟩ := each_names env r
    refine ⟨by show (assignEach (nmEs r) env).length + 1 = _; rw [h1]; rfl, ?_⟩
    show List.findIdx? (·.1) ((false, assign (.Name x p) env) :: assignEach (nmEs r) env) = none
    rw [List.findIdx?_cons, h2]
    rfl
def gSetAll (is : List Nat) : TGs := fun vs σ H Q => vs.length = is.length ∧ Q ((is.zip vs).foldl (fun τ p => τ.set p.1 (some p.2)) σ) H
theorem pgs_names (hN : X.N.Nodup) : ∀ (xs : List (Str × Pos)) (is : List Nat), xs.length = is.length → (∀ q ∈ is.zip xs, X.N[q.1]? = some q.2.1 ∧ Loc X.env.scope q.2.1 ∧ (X.fn q.2.1 = true ∨ X.env.scope.names.lookup q.2.1 = some .local)) → PGs X (nmEs xs) (gSetAll is)
  | [], [], _, _ => ⟨fun pins s σ H vs us Q I r h => pgs_nil.run pins s σ H vs us Q I r ⟨List.eq_nil_of_length_eq_zero h.1, by have e := List.eq_nil_of_length_eq_zero h.1; subst e; exact h.2⟩⟩
  | (x, p) :: r, i :: is, hl, h => by
    obtain ⟨h1, h2, h3⟩ := h (i, (x, p)) (by simp)
    have h0 := pgs_cons (pg_name (pos := p) hN h1 h2 h3) (pgs_names hN r is (by simpa using hl) fun q hq => h q (by simp [hq]))
    refine ⟨fun pins s σ H vs us Q I rv q => h0.run pins s σ H vs us Q I rv ?_⟩
    obtain ⟨q1, q2⟩ := q
    cases vs with
    | nil => simp at q1
    | cons v vr => exact ⟨v, vr, rfl, by simpa using q1, q2⟩
theorem setAll_rel {K : Fg} {B m : List Addr} {H : Hp} : ∀ {is : List Nat} {ds : List D} {vs : List V} {δ δ' : Ev} {σ : L2.St}, RelE K B m H δ σ → RelDs K B m H ds vs → setAll is ds δ = some δ' →
    vs.length = is.length ∧ RelE K B m H δ' ((is.zip vs).foldl (fun τ p => τ.set p.1 (some p.2)) σ)
  | [], [], _, δ, δ', σ, e, .nil, h => by cases h; exact ⟨rfl, e⟩
  | [], _ :: _, _, _, _, _, _, _, h => by cases h
  | _ :: _, [], _, _, _, _, _, _, h => by cases h
  | i :: is, d :: ds, _, δ, δ', σ, e, .cons r s, h => by
    obtain ⟨h1, h2⟩ := setAll_rel (e.set r i) s (show setAll is ds (δ.set i (some d)) = some δ' from h)
    exact ⟨by simp [h1], h2⟩
theorem wipe_all (vs : List Nat) : ∀ (is : List Nat) (us : List V) (σ : L2.St), (∀ i ∈ is, i ∈ vs) → wipe ((is.zip us).foldl (fun τ p => τ.set p.1 (some p.2)) σ) vs = wipe σ vs
  | [], _, _, _ => rfl
  | _ :: _, [], _, _ => rfl
  | i :: is, u :: us, σ, h => by
    show wipe ((is.zip us).foldl _ (σ.set i (some u))) vs = _
    rw [wipe_all vs is us _ fun j hj => h j (List.mem_cons_of_mem _ hj), wipe_set vs σ (h i List.mem_cons_self)]
theorem g_tup {xs : List (Str × Pos)} {is : List Nat} {k : Nat} (hc : X.calm = true) (hN : X.N.Nodup) (hl : xs.length = is.length) (h : ∀ q ∈ is.zip xs, X.N[q.1]? = some q.2.1 ∧ Loc X.env.scope q.2.1 ∧ (X.fn q.2.1 = true ∨ X.env.scope.names.lookup q.2.1 = some .local)) :
    PG X (.Tuple (nmEs xs) k pos) (Tg X.K (.tp is)) := by
  obtain ⟨e1, e2⟩ := each_names X.env xs
  have h0 := pg_tup (pos := pos) (k := k) hc (pgs_names hN xs is hl h) e1 e2
  have h1 := pg_lst (pos := pos) (k := k) hc (pgs_names hN xs is hl h) e1 e2
  refine ⟨fun pins s σ H v u Q I r q => ?_⟩
  obtain ⟨B, m, S, δ, d, δ', t, e, rd, hp, q⟩ := q
  unfold patE at hp
  cases hs : seqOf S d with
  | none => rw [hs] at hp; cases hp
  | some ds =>
    simp only [hs] at hp
    obtain ⟨a, vs, rfl, hsq, rs⟩ := rd.seq_of t hs
    obtain ⟨g1, g2⟩ := setAll_rel e rs hp
    rcases hsq with hq | hq
    · exact h1.run pins s σ H _ u Q I r ⟨a, vs, rfl, hq, by rw [g1, hl], g1, q _ g2 (wipe_all is is vs σ fun i hi => hi)⟩
    · exact h0.run pins s σ H _ u Q I r ⟨a, vs, rfl, hq, by rw [g1, hl], g1, q _ g2 (wipe_all is is vs σ fun i hi => hi)⟩
/-- how many targets -/
def patN : Pat → Nat
  | .pc _ r => patN r + 1
  | _ => 0
theorem patL_len : ∀ {p : Pat} {ds : List D} {S : Store} {δ δ' : Ev}, patL p ds S δ = some δ' → ds.length = patN p
  | .pn, [], _, _, _, _ => rfl
  | .pn, _ :: _, _, _, _, h => by simp [patL] at h
  | .pc p r, [], _, _, _, h => by simp [patL] at h
  | .pc p r, x :: xs, S, δ, δ', h => by
    unfold patL at h
    cases q : patE p x S δ with
    | none => rw [q] at h; cases h
    | some δ1 =>
      rw [q] at h
      rw [List.length_cons, patL_len (p := r) h]; rfl
  | .nm _, _, _, _, _, h => by simp [patL] at h
  | .tp _, _, _, _, _, h => by simp [patL] at h
  | .tq _, _, _, _, _, h => by simp [patL] at h
theorem wipe_comm1 (i : Nat) : ∀ (vs : List Nat) (σ : L2.St), wipe (σ.set i none) vs = (wipe σ vs).set i none
  | [], _ => rfl
  | j :: vs, σ => by
    show (wipe (σ.set i none) vs).set j none = ((wipe σ vs).set j none).set i none
    rw [wipe_comm1 i vs]
    by_cases h : i = j
    · rw [h]
    · rw [List.set_comm _ _ h]
theorem wipe_app : ∀ (a b : List Nat) (σ : L2.St), wipe σ (a ++ b) = wipe (wipe σ b) a
  | [], _, _ => rfl
  | i :: a, b, σ => by
    show (wipe σ (a ++ b)).set i none = (wipe (wipe σ b) a).set i none
    rw [wipe_app a b]
theorem wipe_swap : ∀ (a b : List Nat) (σ : L2.St), wipe (wipe σ b) a = wipe (wipe σ a) b
  | [], _, _ => rfl
  | i :: a, b, σ => by
    show (wipe (wipe σ b) a).set i none = wipe ((wipe σ a).set i none) b
    rw [wipe_swap a b, wipe_comm1]
theorem gs_nil : PGs X [] (Tgs X.K .pn) := ⟨fun pins s σ H vs us Q I r h => pgs_nil.run pins s σ H vs us Q I r (by
  obtain ⟨B, m, S, δ, ds, δ', t, e, rd, hp, q⟩ := h
  cases rd with
  | nil =>
    cases hp
    exact ⟨rfl, q σ e rfl⟩
  | cons => simp [patL] at hp)⟩
theorem gs_cons {e : Expr} {es : List Expr} {p r : Pat} (h1 : PG X e (Tg X.K p)) (h2 : PGs X es (Tgs X.K r)) (hs : (assignEach (e :: es) X.env).map (·.2) = assign e X.env :: (assignEach es X.env).map (·.2)) : PGs X (e :: es) (Tgs X.K (.pc p r)) := by
  have h0 := pgs_cons h1 h2 hs
  refine ⟨fun pins s σ H vs us Q I rv h => h0.run pins s σ H vs us Q I rv ?_⟩
  obtain ⟨B, m, S, δ, ds, δ', t, e, rd, hp, q⟩ := h
  cases rd with
  | nil => simp [patL] at hp
  | @cons d v ds vs rx rr =>
    unfold patL at hp
    cases q1 : patE p d S δ with
    | none => rw [q1] at hp; cases hp
    | some δ1 =>
      rw [q1] at hp
      refine ⟨v, vs, rfl, B, m, S, δ, d, δ1, t, e, rx, q1, fun σ1 e1 w1 => ⟨B, m, S, δ1, ds, δ', t, e1, rr, hp, fun σ2 e2 w2 => q σ2 e2 ?_⟩⟩
      show wipe σ2 (patS p ++ patS r) = wipe σ (patS p ++ patS r)
      rw [wipe_app, w2, wipe_swap, w1, wipe_swap, ← wipe_app]
/-- targets within one another -/
theorem g_tq {es : List Expr} {ps : Pat} {k : Nat} (hc : X.calm = true) (h : PGs X es (Tgs X.K ps)) (hn : (assignEach es X.env).length = patN ps) (hst : (assignEach es X.env).findIdx? (·.1) = none) : PG X (.Tuple es k pos) (Tg X.K (.tq ps)) := by
  have h0 := pg_tup (pos := pos) (k := k) hc h hn hst
  have h1 := pg_lst (pos := pos) (k := k) hc h hn hst
  refine ⟨fun pins s σ H v u Q I r q => ?_⟩
  obtain ⟨B, m, S, δ, d, δ', t, e, rd, hp, q⟩ := q
  have hp : (match seqOf S d with
    | some xs => patL ps xs S δ
    | none => none) = some δ' := by unfold patE at hp; exact hp
  cases hs : seqOf S d with
  | none => rw [hs] at hp; cases hp
  | some ds =>
    simp only [hs] at hp
    obtain ⟨a, vs, rfl, hsq, rs⟩ := rd.seq_of t hs
    have hl : vs.length = patN ps := by rw [← rs.len]; exact patL_len hp
    have w : Tgs X.K ps vs σ H Q := ⟨B, m, S, δ, ds, δ', t, e, rs, hp, q⟩
    rcases hsq with hq | hq
    · exact h1.run pins s σ H _ u Q I r ⟨a, vs, rfl, hq, hl, w⟩
    · exact h0.run pins s σ H _ u Q I r ⟨a, vs, rfl, hq, hl, w⟩
end
end Fb
set_option Elab.async false
set_option linter.all false
set_option maxRecDepth 100000
set_option maxHeartbeats 1000000
/-! Fx9: list(zip(a, b)) as the evaluator has it. -/
namespace Fb
open PySem PySem.Spec PyProof.Rows L2
section
variable {K : Fg} {B m : List Addr} {S : Store}
theorem putZ_rel : ∀ {xs ys : List D} {vs us : List V} {as : List Addr} {H : Hp}, At K B m S H → RelDs K B m H xs vs → RelDs K B m H ys us → as.length = (vs.zip us).length → as.Nodup → (∀ t ∈ as, H t = none) →
    At K B m S (putZ H as (vs.zip us)) ∧ Le m m H (putZ H as (vs.zip us)) ∧ RelDs K B m (putZ H as (vs.zip us)) (zipD xs ys) (as.map V.ref)
  | [], ys, vs, us, as, H, t, r, r', hl, nd, hn => by
    cases r
    have : as = [] := List.eq_nil_of_length_eq_zero (by simpa using hl)
    subst this
    exact ⟨t, Le.refl, .nil⟩
  | x :: xs, [], vs, us, as, H, t, r, r', hl, nd, hn => by
    cases r'
    have : as = [] := List.eq_nil_of_length_eq_zero (by simpa using hl)
    subst this
    exact ⟨by cases vs <;> exact t, by cases vs <;> exact Le.refl, .nil⟩
  | x :: xs, y :: ys, _, _, [], H, t, .cons r rr, .cons r' rr', hl, nd, hn => by simp at hl
  | x :: xs, y :: ys, _, _, a :: as, H, t, .cons (v := v) (vs := vs) r rr, .cons (v := u) (vs := us) r' rr', hl, nd, hn => by
    have h0 : H a = none := hn a List.mem_cons_self
    have t1 := t.new (o := .tup [v, u]) h0
    have l1 := Le.new t (o := .tup [v, u]) h0
    have q := RelD.new_tup t h0 (.cons r (.cons r' .nil))
    have nd2 := List.nodup_cons.mp nd
    obtain ⟨t2, l2, q2⟩ := putZ_rel (as := as) t1 (rr.tr (l1.tr t)) (rr'.tr (l1.tr t)) (by simpa using hl) nd2.2 fun z hz => by
      rw [upd_ne (fun e => nd2.1 (by rw [← e]; exact hz))]
      exact hn z (List.mem_cons_of_mem _ hz)
    exact ⟨t2, Le.trans t t1 l1 l2, .cons (q.tr (l2.tr t1)) q2⟩
end
section
variable {X : Cx} {Z : Xt} {C : Cf} {W : WX} {a b : Expr} {ia ib : IE} {p p2 pos pos2 : Pos}
theorem e_lzip (hc : X.calm = true) (hg : Gl X "list") (hm : X.mg "list" = none) (hg2 : Gl X "zip") (hm2 : X.mg "zip" = none) (hs : notStar a = true) (hs2 : notStar b = true) (ha : PE X a (Te X.K Z C W ia)) (hb : PE X b (Te X.K Z C W ib)) :
    PE X (.Call (.Name "list" p) [.Call (.Name "zip" p2) [a, b] [] pos2] [] pos) (Te X.K Z C W (.lzip ia ib)) :=
  (pe_lz hc hg hm hg2 hm2 (pa_cons ha (pa_cons hb pa_nil (star_cons hs2)) (star_cons hs)) (star_cons hs) (by rw [star_cons hs2]; rfl)).imp' fun σ H Q ⟨B, m, S, δ, t, e, h⟩ => by
    refine (Mid.start t e).stepE h fun v d S1 m1 H1 l1 M1 r1 _ h1 => ?_
    refine M1.stepE h1 fun u d2 S2 m2 H2 l2 M2 r2 _ h2 => ?_
    have h2 : FinG X.K Z B m H (fun c d h => W c d σ h) (match seqOf S2 d, seqOf S2 d2 with
      | some xs, some ys => (.ok (.lst (zipD xs ys)) S2 : Res D)
      | _, _ => .bad) (PD X.K B H true Q) := h2
    cases q1 : seqOf S2 d with
    | none => rw [q1] at h2; exact False.elim h2
    | some xs =>
      cases q2 : seqOf S2 d2 with
      | none => rw [q1, q2] at h2; exact False.elim h2
      | some ys =>
        rw [q1, q2] at h2
        obtain ⟨p1, vs, rfl, hq, rs⟩ := (M1.val l2 r1).seq_of M2.t0 q1
        obtain ⟨p3, us, rfl, hq2, rs2⟩ := r2.seq_of M2.t0 q2
        refine ⟨p1, p3, vs, us, rfl, hq, hq2, fun as S0 hl nd hS hn hns => ?_⟩
        obtain ⟨t3, l3, q3⟩ := putZ_rel M2.t0 rs rs2 hl nd hns
        have h0 : putZ H2 as (vs.zip us) S0 = none := by rw [putZ_off as _ _ hS]; exact hn
        have l4 := Le.new t3 (o := .lst (as.map V.ref)) h0
        have t4 := t3.new (o := .lst (as.map V.ref)) h0
        have l5 := Le.trans M2.t0 t3 l3 l4
        refine h2 m2 _ (Le.trans M2.t M2.t0 M2.le l5) t4 (.ref S0) (RelD.new_lst t3 h0 q3) fun _ => ⟨fun zs ez => ?_⟩
        cases ez
        exact ⟨S0, _, _, rfl, M2.none hn, h0, rfl, t3, q3⟩
end
end Fb
set_option Elab.async false
set_option linter.all false
set_option maxRecDepth 100000
set_option maxHeartbeats 1000000
/-! Fx10: is None, is not None as the evaluator has them. -/
namespace Fb
open PySem PySem.Spec PyProof.Rows L2
def isNonD : D → Bool
  | .non => true
  | _ => false
theorem isN_val {K : Fg} {B m : List Addr} {H : Hp} {d : D} {v : V} (r : RelD K B m H d v) : decide (v = .non) = isNonD d := by
  cases r <;> simp [isNonD]
section
variable {X : Cx} {Z : Xt} {C : Cf} {W : WX} {a : Expr} {ia : IE} {p pos : Pos} {k : Nat}
theorem evE_isN (δ : Ev) (S : Store) : evE C (.isN ia) δ S = M.bind (evE C ia δ) (fun x => M.ret (.bl (isNonD x))) S := by
  show M.bind _ _ S = _
  unfold M.bind
  cases evE C ia δ S with
  | ok d S1 => cases d <;> rfl
  | _ => rfl
theorem evE_notN (δ : Ev) (S : Store) : evE C (.notN ia) δ S = M.bind (evE C ia δ) (fun x => M.ret (.bl (!isNonD x))) S := by
  show M.bind _ _ S = _
  unfold M.bind
  cases evE C ia δ S with
  | ok d S1 => cases d <;> rfl
  | _ => rfl
theorem s_isN (ha : PE X a (Te X.K Z C W ia)) : PE X (.Compare a [.Is] [.Constant .none k p] pos) (Te X.K Z C W (.isN ia)) :=
  (pe_cmpR op_isN ha pe_non (by rfl)).imp' fun σ H Q ⟨B, m, S, δ, t, e, h⟩ => by
    rw [evE_isN] at h
    refine (Mid.start t e).stepE h fun v d S1 m1 H1 l1 M1 r1 _ h1 => ?_
    refine ⟨rfl, ?_⟩
    rw [isN_val r1]
    exact M1.plain h1 (.bl _) fun _ e => nomatch e
theorem s_notN (ha : PE X a (Te X.K Z C W ia)) : PE X (.Compare a [.IsNot] [.Constant .none k p] pos) (Te X.K Z C W (.notN ia)) :=
  (pe_cmpR op_notN ha pe_non (by rfl)).imp' fun σ H Q ⟨B, m, S, δ, t, e, h⟩ => by
    rw [evE_notN] at h
    refine (Mid.start t e).stepE h fun v d S1 m1 H1 l1 M1 r1 _ h1 => ?_
    refine ⟨rfl, ?_⟩
    rw [isN_val r1]
    exact M1.plain h1 (.bl _) fun _ e => nomatch e
theorem t_isN (ha : PE X a (Te X.K Z C W ia)) : PT X (.Compare a [.Is] [.Constant .none k p] pos) (Tb X.K Z C W (.isN ia)) :=
  (pt_cmpR op_isN ha pe_non (by rfl)).imp' fun σ H Q ⟨B, m, S, δ, t, e, h⟩ => by
    have h : FinG X.K Z B m H (fun c d h => W c d σ h) (M.bind (evE C (.isN ia) δ) truthM S) (PB Q) := h
    unfold M.bind at h
    rw [evE_isN] at h
    have h : FinG X.K Z B m H (fun c d h => W c d σ h) (M.bind (M.bind (evE C ia δ) (fun x => M.ret (.bl (isNonD x)))) truthM S) (PB Q) := h
    rw [bind_bind] at h
    refine (Mid.start t e).stepE h fun v d S1 m1 H1 l1 M1 r1 _ h1 => ?_
    refine ⟨rfl, _, rfl, ?_⟩
    rw [isN_val r1]
    exact (M1.here (show FinG X.K Z B m H _ (.ok (isNonD d) S1) (PB Q) from h1)).now M1.t0
theorem t_notN (ha : PE X a (Te X.K Z C W ia)) : PT X (.Compare a [.IsNot] [.Constant .none k p] pos) (Tb X.K Z C W (.notN ia)) :=
  (pt_cmpR op_notN ha pe_non (by rfl)).imp' fun σ H Q ⟨B, m, S, δ, t, e, h⟩ => by
    have h : FinG X.K Z B m H (fun c d h => W c d σ h) (M.bind (evE C (.notN ia) δ) truthM S) (PB Q) := h
    unfold M.bind at h
    rw [evE_notN] at h
    have h : FinG X.K Z B m H (fun c d h => W c d σ h) (M.bind (M.bind (evE C ia δ) (fun x => M.ret (.bl (!isNonD x)))) truthM S) (PB Q) := h
    rw [bind_bind] at h
    refine (Mid.start t e).stepE h fun v d S1 m1 H1 l1 M1 r1 _ h1 => ?_
    refine ⟨rfl, _, rfl, ?_⟩
    rw [isN_val r1]
    exact (M1.here (show FinG X.K Z B m H _ (.ok (!isNonD d) S1) (PB Q) from h1)).now M1.t0
end
end Fb
set_option Elab.async false
set_option linter.all false
set_option maxRecDepth 100000
set_option maxHeartbeats 1000000
/-! Fx7: sorted(x, key=len). -/
namespace Fb
open PySem PySem.Spec PyProof.Rows L2 SrtO
section
variable {α β : Type} (k : α → Nat)
theorem insBy_perm (x : α) : ∀ l : List α, (insBy k x l).Perm (x :: l)
  | [] => .refl _
  | y :: r => by
    unfold insBy
    by_cases h : k x ≤ k y
    · rw [if_pos h]
    · rw [if_neg h]
      exact ((insBy_perm x r).cons y).trans (List.Perm.swap x y r)
theorem sortBy_perm : ∀ l : List α, (sortBy k l).Perm l
  | [] => .refl _
  | x :: r => (insBy_perm k x _).trans ((sortBy_perm r).cons x)
theorem insBy_sorted (x : α) : ∀ l : List α, l.Pairwise (fun p q => k p ≤ k q) → (insBy k x l).Pairwise (fun p q => k p ≤ k q)
  | [], _ => List.pairwise_singleton _ _
  | y :: r, h => by
    have h2 := List.pairwise_cons.mp h
    unfold insBy
    by_cases z : k x ≤ k y
    · rw [if_pos z]
      refine List.pairwise_cons.mpr ⟨fun q hq => ?_, h⟩
      rcases List.mem_cons.mp hq with rfl | hq
      · exact z
      · exact Nat.le_trans z (h2.1 q hq)
    · rw [if_neg z]
      refine List.pairwise_cons.mpr ⟨fun q hq => ?_, insBy_sorted x r h2.2⟩
      rcases List.mem_cons.mp ((insBy_perm k x r).mem_iff.mp hq) with rfl | hq
      · omega
      · exact h2.1 q hq
theorem sortBy_sorted : ∀ l : List α, (sortBy k l).Pairwise (fun p q => k p ≤ k q)
  | [] => .nil
  | x :: r => insBy_sorted k x _ (sortBy_sorted r)
theorem insBy_filter (x : α) (c : Nat) : ∀ l : List α, (insBy k x l).filter (fun p => k p == c) = (x :: l).filter (fun p => k p == c)
  | [] => rfl
  | y :: r => by
    unfold insBy
    by_cases z : k x ≤ k y
    · rw [if_pos z]
    · rw [if_neg z, List.filter_cons, insBy_filter x c r, List.filter_cons, List.filter_cons, List.filter_cons]
      by_cases e1 : k y = c
      · have e2 : k x ≠ c := by omega
        simp [e1, e2]
      · simp [e1]
theorem sortBy_filter (c : Nat) : ∀ l : List α, (sortBy k l).filter (fun p => k p == c) = l.filter (fun p => k p == c)
  | [] => rfl
  | x :: r => by
    show (insBy k x (sortBy k r)).filter _ = _
    rw [insBy_filter, List.filter_cons, List.filter_cons, sortBy_filter c r]
theorem insBy_map (f : β → α) (x : β) : ∀ l : List β, (insBy (k ∘ f) x l).map f = insBy k (f x) (l.map f)
  | [] => rfl
  | y :: r => by
    unfold insBy
    rw [List.map_cons]
    by_cases z : k (f x) ≤ k (f y)
    · rw [if_pos (show (k ∘ f) x ≤ (k ∘ f) y from z)]
      dsimp only
      rw [if_pos z]; rfl
    · rw [if_neg (show ¬ (k ∘ f) x ≤ (k ∘ f) y from z)]
      dsimp only
      rw [if_neg z, List.map_cons, insBy_map f x r]
theorem sortBy_map (f : β → α) : ∀ l : List β, (sortBy (k ∘ f) l).map f = sortBy k (l.map f)
  | [] => rfl
  | x :: r => by
    show (insBy (k ∘ f) x (sortBy (k ∘ f) r)).map f = _
    rw [insBy_map, sortBy_map f r]; rfl
end
def ltI (p q : Int × Value) : Bool := decide (p.1 < q.1)
theorem ltI_swo : Swo ltI := ⟨fun x y h => by simp [ltI] at h ⊢; omega, fun x y z h1 h2 => by simp [ltI] at h1 h2 ⊢; omega⟩
/-- the one stable sort -/
theorem sort_one {α : Type} (k : α → Nat) (g : α → Int × Value) (hg : ∀ a, (g a).1 = (k a : Int)) {l : List α} {ps : List (Int × Value)} (hp : ps.Perm (l.map g)) (hs : ps.Pairwise (fun p q => p.1 ≤ q.1))
    (hf : ∀ c, ps.filter (fun p => p.1 == c) = (l.map g).filter (fun p => p.1 == c)) : ps = (sortBy k l).map g := by
  refine stb_uniq ltI_swo (hs.imp fun {a b} h => by simp [ltI]; omega) (List.pairwise_map.mpr ((sortBy_sorted k l).imp fun {a b} h => by simp [ltI, hg]; omega)) ⟨hp.trans ((sortBy_perm k l).map g).symm, fun x => ?_⟩
  have e : (fun y : Int × Value => eqv ltI x y) = fun y => y.1 == x.1 := by
    funext y
    unfold eqv ltI
    by_cases h : y.1 = x.1
    · simp [h]
    · have : (y.1 == x.1) = false := by simpa using h
      rw [this]
      by_cases h2 : x.1 < y.1
      · simp [h2]
      · have : y.1 < x.1 := by omega
        simp [this]
  show ps.filter (fun y => eqv ltI x y) = ((sortBy k l).map g).filter (fun y => eqv ltI x y)
  rw [e, hf, List.filter_map, List.filter_map]
  by_cases hx : 0 ≤ x.1
  · have e2 : ((fun p : Int × Value => p.1 == x.1) ∘ g) = fun a => k a == x.1.toNat := by
      funext a
      show ((g a).1 == x.1) = _
      rw [hg]
      by_cases z : (k a : Int) = x.1
      · have : k a = x.1.toNat := by omega
        have z2 : ((k a : Int) == x.1) = true := by simpa using z
        rw [z2]; simp [this]
      · have : k a ≠ x.1.toNat := by omega
        have z2 : ((k a : Int) == x.1) = false := by simpa using z
        rw [z2]; simp [this]
    rw [e2, sortBy_filter]
  · have e2 : ∀ m : List α, m.filter ((fun p : Int × Value => p.1 == x.1) ∘ g) = [] := fun m => List.filter_eq_nil_iff.mpr fun a _ => by
      show ¬ ((g a).1 == x.1) = true
      rw [hg]; simp; omega
    rw [e2, e2]
/-- a sort by a built-in key, where the new list stands told -/
theorem sorted_at {prog : Program} {w : World} {A : Around} {E : Value → Shared → Prop} {s : Shared} {h₀ : Heap} {L l : Addr} {m : Str → Option Value} {news : List (Addr × Obj)} {vs : List Value} {Q : Value → Shared → Prop} {kz : List Int} {f : Value} {kw : List (Str × Value)}
    (F : Fr h₀ L s.heap m) (N : News h₀ L s.heap news) (hl : s.heap.IsList l vs.toArray) (hlen : kz.length = vs.length) (hZ : vs.length ≤ sizeLine)
    (ha1 : argsOk "sorted" ⟨[.ref l], kw⟩) (ha2 : ∀ x, argsOk "list.sort" ⟨[.ref x], kw⟩) (ht : ∀ x, Builtin.«list.sort» ⟨[.ref x], kw⟩ = ksk_tree x f false)
    (turn : ∀ (i : Nat) (v : Value) (k : Int), vs[i]? = some v → kz[i]? = some k → ∀ (h : Heap) (tk : Nat) (own : List (Addr × Obj)), Fr h₀ L h m → News h₀ L h (news ++ own) →
      wpAny (model prog w) A.in1.in1 (call f [v]) (KskEnd h₀ L m (news ++ own) k { s with heap := h, toks := tk }) (fun _ _ => False) { s with heap := h, toks := tk })
    (h : ∀ D h' tk out c, Fr h₀ L h' m → News h₀ L h' ((D, seqObj "list" out c) :: news) → s.heap.objs.size ≤ D → KskOutSt false kz vs out.toList → Q (.ref D) { s with heap := h', toks := tk }) :
    wpAny (model prog w) A (call (.builtin "sorted") [.ref l] kw) Q E s := by
  refine call_function_entry_kw kind_sorted plain_sorted entry_sorted ha1 ?_
  unfold Builtin.«sorted»
  refine wpAny_bind (m := checkCount "sorted" 1 1 _) (wpAny_pure (wpAny_bind (collect_list hl (wpAny_bind (wpAny_newList ?_ (by simpa using hZ))) (by simpa using hZ))))
  generalize hg : ((s.heap.push (seqObj "list" #[] 0)).update s.heap.objs.size (Obj.mapSeq (· ++ vs.toArray))) = g
  have hz : g.objs.size = s.heap.objs.size + 1 := by rw [← hg, Heap.size_update, size_push']
  have ho : (g.push (seqObj "list" vs.toArray 0)).get? (s.heap.objs.size + 1) = some (seqObj "list" vs.toArray 0) := by rw [← hz]; exact Heap.get?_push_size _ rfl
  have keep : ∀ b o, s.heap.get? b = some o → (g.push (seqObj "list" vs.toArray 0)).get? b = some o := fun b o q => by
    have hlt : b < s.heap.objs.size := Heap.lt_size q
    rw [Heap.get?_push_ne _ _ _ (by rw [hz]; exact Nat.ne_of_lt (Nat.lt_succ_of_lt hlt)), ← hg, Heap.get?_update_ne _ _ _ _ (Nat.ne_of_lt hlt), Heap.get?_push_ne _ _ _ (Nat.ne_of_lt hlt)]
    exact q
  have hL : L < s.heap.objs.size := F.ns.lt
  show wpAny _ _ _ _ _ { s with heap := g.push (seqObj "list" vs.toArray 0) }
  rw [hz]
  refine wpAny_bind (wpAny_holding (wpAny_call_entry_kw slot_list_sort ⟨_, ho, rfl⟩ entry_list_sort ?body (ha2 _)))
  show wpAny (model prog w) A.in1.in1 (Builtin.«list.sort» ⟨[.ref (s.heap.objs.size + 1)], kw⟩) _ _ _
  rw [ht]
  exact ksk_sortSt (s := { s with heap := g.push (seqObj "list" vs.toArray 0) }) (F.kept keep) (N.grown keep) ho (Nat.ne_of_gt (Nat.lt_succ_of_lt hL)) (Heap.get?_none_of_le (Nat.le_trans F.above (Nat.le_succ_of_le (Nat.le_of_lt hL)))) (fun p hp => Nat.ne_of_lt (Nat.lt_succ_of_lt (Heap.lt_size (N p hp).1))) hlen hZ turn
    fun h' tk out c F' N' k' => ⟨_, rfl, wpAny_pure ⟨_, rfl, h _ h' tk out c F' N' (Nat.le_succ _) k'⟩⟩
/-- all that the heap holds but for L -/
def allBut (h : Heap) (L : Addr) : List (Addr × Obj) := (List.range h.objs.size).filterMap fun b => if b = L then none else (h.get? b).map fun o => (b, o)
theorem mem_allBut {h : Heap} {L b : Addr} {o : Obj} (hb : b ≠ L) (e : h.get? b = some o) : (b, o) ∈ allBut h L :=
  List.mem_filterMap.mpr ⟨b, List.mem_range.mpr (Heap.lt_size e), by rw [if_neg hb, e]; rfl⟩
theorem of_allBut {h : Heap} {L : Addr} {p : Addr × Obj} (m : p ∈ allBut h L) : h.get? p.1 = some p.2 ∧ p.1 ≠ L := by
  obtain ⟨b, _, e⟩ := List.mem_filterMap.mp m
  by_cases hb : b = L
  · rw [if_pos hb] at e; cases e
  · rw [if_neg hb] at e
    cases q : h.get? b with
    | none => rw [q] at e; cases e
    | some o => rw [q] at e; cases e; exact ⟨q, hb⟩
def SrtQ (K : PySem.W.Frag) (Q : VK) (x : V) (H1 : Hp) : Prop := ∃ (a : Addr) (ss : List Str), x = .ref a ∧ SqL K H1 a (ss.map V.str) ∧ (∀ z ∈ ss, z.length ≤ sizeLine) ∧ ∀ p, H1 p = none → Q (.ref p) (upd H1 p (.lst ((sortBy Str.length ss).map V.str)))
def tSrt (K : PySem.W.Frag) (te : TE) : TE := fun σ H Q => te σ H (SrtQ K Q)
section
variable {X : Cx} {pins : List (Addr × Obj)} {σ : L2.St} {H : Hp} {s : Shared} {h' : Heap}
/-- a new object laid, the frame's own object kept but for its order -/
theorem inv_laidL {a : Addr} {o : HO} {t' : Nat} (I : Inv X pins σ H s) (k : ∀ b u, b ≠ X.env.locals → s.heap.get? b = some u → h'.get? b = some u) (ns : ∀ m, s.heap.Ns X.env.locals m → h'.Ns X.env.locals m) (hp : s.heap.objs.size ≤ a) (new : ObjOk X.prog X.w (upd H a o) h' a o) :
    Inv X pins σ (upd H a o) { s with heap := h', toks := t' } := by
  have hn := I.hok.fresh hp
  have ne : ∀ {b : Addr} {u : Obj}, s.heap.get? b = some u → b ≠ a := fun {b u} e => Nat.ne_of_lt (Nat.lt_of_lt_of_le (Heap.lt_size e) hp)
  have hL : ∃ u, h'.get? X.env.locals = some u := by
    obtain ⟨m, hm, _⟩ := I.loc
    obtain ⟨o', _, _, ho, _⟩ := ns m hm
    exact ⟨o', ho⟩
  refine I.step (g' := s.gens) (d' := s.drawn) (ch := []) (fun _ z => nomatch z) (fun b o hb _ _ e n => k b o hb e) (fun b o hb _ _ e n => ⟨o.slots, k b o hb e⟩) (fun b o _ e n => by rw [upd_ne (ne e)]; exact n) (fun b o _ e => ?_) (fun b xs e => by rw [upd_ne (ne_of_none e hn)]; exact e) (fun b o xs e => by rw [upd_ne (ne_of_none e hn)]; exact e) (fun b ps e => ⟨#[], by rw [upd_ne (ne_of_none e hn)]; simpa using e⟩) ns (fun b u e => ?_) I.bare
  · by_cases z : b = X.env.locals
    · rw [z]; exact hL
    · exact ⟨o, k b o z e⟩
  · by_cases hb : b = a
    · subst hb; rw [upd_same] at e; cases e; exact new
    · rw [upd_ne hb] at e
      refine (I.hok b u e).stay (fun c v hc q => k c v ?_ q) (fun c q => by rw [upd_ne (ne_of_none q hn)]; exact q) fun c xs q => by rw [upd_ne (ne_of_none q hn)]; exact q
      rintro rfl
      have f := I.free
      rcases hc with rfl | hc
      · rw [f] at e; cases e
      · rw [f] at hc; cases hc
theorem pe_sort {e : Expr} {te : TE} {p p2 p3 pos : Pos} (hc : X.calm = true) (hg : Gl X "sorted") (hm : X.mg "sorted" = none) (hg2 : Gl X "len") (hm2 : X.mg "len" = none) (he : PE X e te) (hs : notStar e = true) :
    PE X (.Call (.Name "sorted" p) [e] [⟨some "key", .Name "len" p2, p3⟩] pos) (tSrt X.K te) := by
  refine ⟨fun pins s σ H Q I h => ?_⟩
  have ha : PA X [e] (tCons te tNil) := pa_cons he pa_nil (star_cons hs)
  refine wpAny_Call_Name_kw (ld_blt I hg hm (u := .builtin "sorted") (by decide +kernel) ?_ (by decide) (by decide))
  refine PyProof.Rows.callWith_kw (thn (ha.run pos pins s σ H (fun vs H1 => match vs with
    | [x] => SrtQ X.K Q x H1
    | _ => False) I h) fun us s1 ⟨vs, H1, I1, r1, q1⟩ => ?_) (by rw [star_cons hs]; rfl) (by rw [star_cons hs]; rfl) (by rfl) (by rfl)
  show wpAny _ _ (evalAll ((do let v ← eval (.Name "len" p2) X.env; standAt pos; pure v) :: [])) _ _ s1
  refine wpAny_evalAll_cons (wpAny_bind (ld_blt I1 hg2 hm2 (u := .builtin "len") (by decide +kernel) (wpAny_bind (wpAny_standAt (wpAny_pure ?_))) (by decide) (by decide)))
  refine wpAny_evalAll_nil ?_
  show wpAny _ _ (call (.builtin "sorted") us [(Str.ofString "key", .builtin "len")]) _ _ s1
  dsimp only at q1
  split at q1
  · rename_i x
    obtain ⟨a, ss, rfl, hx, hz, q⟩ := q1
    obtain rfl := Vals.ref1 r1
    obtain ⟨its, rv, hl, hsz⟩ := I1.list hx
    obtain ⟨m, hm, _⟩ := I1.loc
    have hln : its.length = ss.length := by rw [← rv.length, List.length_map]
    have toks : ∀ {ss : List Str} {its : List Value}, Vals (ss.map V.str) its → ∀ (i : Nat) (v : Value) (z : Str), its[i]? = some v → ss[i]? = some z → ∃ t, v = .str z t := by
      intro ss its r i v z h1 h2
      obtain ⟨u, hu, ru⟩ := r.get (i := i) (x := .str z) (by rw [List.getElem?_map, h2]; rfl)
      rw [h1] at hu; cases hu
      exact ru
    have FR : Fr ({} : Heap) X.env.locals s1.heap m := ⟨hm, fun b o e => absurd (Heap.lt_size e) (Nat.not_lt_zero _), Nat.zero_le _⟩
    have NW : News ({} : Heap) X.env.locals s1.heap (allBut s1.heap X.env.locals) := fun p hp => ⟨(of_allBut hp).1, (of_allBut hp).2, Heap.get?_none_of_le (Nat.zero_le _)⟩
    refine sorted_at (kz := ss.map fun z => (z.length : Int)) FR NW hl.isList (by rw [List.length_map, hln]) (by rw [hln]; rw [List.length_map] at hsz; exact hsz) (ksk_s1 _ _) (fun x => ksk_l1 _ _) (fun x => ksk_t4 _ _)
      (fun i v k hv hk h tk own F' N' => ?_) fun Dn h' tk out c F' N' nD hk => ?_
    · rw [List.getElem?_map] at hk
      cases e : ss[i]? with
      | none => rw [e] at hk; cases hk
      | some z =>
        rw [e] at hk; cases hk
        obtain ⟨t, rfl⟩ := toks rv i v z hv e
        have hz' := hz z (List.mem_of_getElem? e)
        exact PyProof.Rows.len_str (by rw [sizeLine_eq] at hz'; omega) (KskEnd.intro F' N' fun p hp => hp)
    · obtain ⟨ps, hp, ho, hs2, hf⟩ := hk
      have ez : (ss.map fun z => (z.length : Int)).zip its = (ss.zip its).map fun p => ((p.1.length : Int), p.2) := by rw [List.zip_map_left]; rfl
      rw [ez] at hp hf
      have e2 := sort_one (α := Str × Value) (fun p => p.1.length) (fun p => ((p.1.length : Int), p.2)) (fun _ => rfl) hp (by simpa using hs2) hf
      have e3 : out.toList = (sortBy (Str.length ∘ Prod.fst) (ss.zip its)).map Prod.snd := by rw [ho, e2, List.map_map]; rfl
      have e4 : (sortBy (Str.length ∘ Prod.fst) (ss.zip its)).map Prod.fst = sortBy Str.length ss := by
        rw [sortBy_map, List.map_fst_zip (by omega)]
      have rel : ∀ l : List (Str × Value), (∀ p ∈ l, ∃ t, p.2 = .str p.1 t) → Vals (l.map fun p => V.str p.1) (l.map Prod.snd) := by
        intro l
        induction l with
        | nil => intro _; exact .nil
        | cons p r ih => exact fun h => .cons (h p List.mem_cons_self) (ih fun q hq => h q (List.mem_cons_of_mem _ hq))
      have ro : Vals ((sortBy Str.length ss).map V.str) out.toList := by
        rw [e3, ← e4, List.map_map]
        refine rel _ fun p hp => ?_
        have hp2 := (sortBy_perm _ _).mem_iff.mp hp
        obtain ⟨i, hi, e5⟩ := List.mem_iff_getElem.mp hp2
        rw [List.getElem_zip] at e5
        have hi1 : i < min ss.length its.length := by simpa [List.length_zip] using hi
        have hi2 : i < ss.length ∧ i < its.length := by omega
        rw [← e5]
        exact toks rv i _ _ (List.getElem?_eq_getElem hi2.2) (List.getElem?_eq_getElem hi2.1)
      have new := N' (Dn, seqObj "list" out c) (List.mem_cons_self)
      have lo : ((sortBy Str.length ss).map V.str).length ≤ sizeLine := by
        rw [List.length_map, (sortBy_perm _ _).length_eq]
        rwa [List.length_map] at hsz
      refine ⟨.ref Dn, _, inv_laidL (t' := tk) (o := .lst ((sortBy Str.length ss).map V.str)) I1 (fun b u hb e => (N' (b, u) (List.mem_cons_of_mem _ (mem_allBut hb e))).1) (fun m' hm' => ?_) nD ⟨lo, out.toList, c, ro, by simpa [seqObj] using new.1⟩, rfl, q _ (I1.hok.fresh nD)⟩
      have : m' = m := funext fun x => by
        obtain ⟨o1, es, ep, h1, h2, _, h3⟩ := hm
        obtain ⟨o2, es2, ep2, h4, h5, _, h6⟩ := hm'
        rw [h1] at h4; cases h4
        rw [h2] at h5; cases h5
        rw [← h3, ← h6]
      rw [this]; exact F'.ns
  · exact False.elim q1
end
section
variable {X : Cx} {Z : Xt} {C : Cf} {W : WX} {e : Expr} {ie : IE}
theorem s_srt {p p2 p3 pos : Pos} (hc : X.calm = true) (hg : Gl X "sorted") (hm : X.mg "sorted" = none) (hg2 : Gl X "len") (hm2 : X.mg "len" = none) (he : PE X e (Te X.K Z C W ie)) (hs : notStar e = true) :
    PE X (.Call (.Name "sorted" p) [e] [⟨some "key", .Name "len" p2, p3⟩] pos) (Te X.K Z C W (.srt ie)) :=
  (pe_sort hc hg hm hg2 hm2 he hs).imp' fun σ H Q ⟨B, m, S, δ, t, e, h⟩ => (Mid.start t e).stepE h fun v d S1 m1 H1 l1 M1 r1 _ h1 => by
    have h1 : FinG X.K Z B m H (fun c d h => W c d σ h) (M.opt (srtD S1 d) S1) (PD X.K B H true Q) := h1
    obtain ⟨d2, e2, h2⟩ := h1.opt
    unfold srtD at e2
    cases q : lstOf S1 d with
    | none => rw [q] at e2; cases e2
    | some xs =>
      rw [q] at e2
      dsimp only at e2
      cases q2 : strsOf xs with
      | none => rw [q2] at e2; cases e2
      | some ss =>
        rw [q2] at e2
        dsimp only at e2
        by_cases z : ss.all (fun z => decide (z.length ≤ SL)) = true
        · rw [if_pos z] at e2
          cases e2
          obtain ⟨a, vs, rfl, hq, rs⟩ := r1.lst_of M1.t0 q
          obtain ⟨rfl, ho⟩ := strs_V rs q2
          refine ⟨a, ss.map SO, rfl, hq, fun z hz => ?_, fun p hp => ?_⟩
          · obtain ⟨y, hy, rfl⟩ := List.mem_map.mp hz
            rw [SO_len]
            have := of_decide_eq_true (List.all_eq_true.mp z y hy)
            exact this
          · refine fin_lst M1.t0 (fun _ z => M1.none z) (M1.here h2) hp ?_
            have e3 : sortBy Str.length (ss.map SO) = (sortBy List.length ss).map SO := by
              rw [← sortBy_map]
              have : (Str.length ∘ SO) = List.length := funext fun y => SO_len y
              rw [this]
            rw [e3]
            have rel : ∀ l : List (List Nat), (∀ y ∈ l, okS y = true) → RelDs X.K B m1 H1 (l.map .str) ((l.map SO).map V.str) := by
              intro l
              induction l with
              | nil => exact fun _ => .nil
              | cons y r ih => exact fun h => .cons (.str y (h y List.mem_cons_self)) (ih fun w hw => h w (List.mem_cons_of_mem _ hw))
            exact rel _ fun y hy => ho y ((sortBy_perm _ _).mem_iff.mp hy)
        · rw [if_neg z] at e2; cases e2
end
end Fb
set_option Elab.async false
set_option linter.all false
set_option maxRecDepth 100000
set_option maxHeartbeats 1000000
/-! Fbi: enumerate, zip, range by steps: what is walked. -/
namespace Fb
open PySem PySem.Spec PyProof.Rows L2 RZ
section
variable {K : Fg} {B m : List Addr} {H : Hp}
theorem enum_get : ∀ (xs : List D) (k i : Nat), (enumD k xs)[i]? = (xs[i]?).map fun x => .tup [.int ((k + i : Nat)), x]
  | [], k, i => by simp [enumD]
  | x :: r, k, 0 => by simp [enumD]
  | x :: r, k, i + 1 => by
    have h := enum_get r (k + 1) i
    show (enumD (k + 1) r)[i]? = _
    rw [h, List.getElem?_cons_succ, show k + 1 + i = k + (i + 1) by omega]
theorem zip_get : ∀ (xs ys : List D) (i : Nat), (zipD xs ys)[i]? = match xs[i]?, ys[i]? with
    | some x, some y => some (.tup [x, y])
    | _, _ => none
  | [], ys, i => by simp [zipD]
  | x :: xs, [], i => by
    simp [zipD]
  | x :: xs, y :: ys, 0 => by simp [zipD]
  | x :: xs, y :: ys, i + 1 => by
    have h := zip_get xs ys i
    show (zipD xs ys)[i]? = _
    rw [h, List.getElem?_cons_succ, List.getElem?_cons_succ]
/-- the items of a list that is no cell, whatever the heap grows to -/
theorem RelD.val_of {d : D} {v : V} {xs : List D} (h : RelD K B m H d v) (e : valL d = some xs) : ∃ a vs, v = .ref a ∧ RelDs K B m H xs vs ∧ SqL K H a vs ∧ ∀ B1 m1 H1, Tr K B m B1 m1 H H1 → SqL K H1 a vs := by
  unfold valL at e
  split at e
  · cases e
    cases h with
    | lst q r => exact ⟨_, _, rfl, r, q.sq, fun B1 m1 H1 t => SqL.of (t.obj _ _ q.1 q.2.1 q.2.2).1⟩
  · cases e
    cases h with
    | ro q r => exact ⟨_, _, rfl, r, q.sq, fun B1 m1 H1 t => q.imp (fun h => (t.rd h.1 h.2.1 h.2.2).1) id⟩
  · cases e
theorem new_pair {S1 : Store} {B1 m1 : List Addr} {H1 : Hp} (t1 : At K B1 m1 S1 H1) {T : Addr} {x y : D} {u v : V} (h : H1 T = none) (rx : RelD K B1 m1 H1 x u) (ry : RelD K B1 m1 H1 y v) :
    Le m1 m1 H1 (upd H1 T (.tup [u, v])) ∧ At K B1 m1 S1 (upd H1 T (.tup [u, v])) ∧ RelD K B1 m1 (upd H1 T (.tup [u, v])) (.tup [x, y]) (.ref T) :=
  ⟨Le.new t1 h, t1.new h, RelD.new_tup t1 h (.cons rx (.cons ry .nil))⟩
theorem jw_enum {a : Addr} {vs : List V} {xs : List D} (q : ∀ B1 m1 H1, Tr K B m B1 m1 H H1 → SqL K H1 a vs) (r : RelDs K B m H xs vs) : JW K B m H (Ite K a) (enumD 0 xs) := fun B1 m1 S1 H1 t t1 i => by
  have hs := q _ _ _ t
  rw [enum_get]
  refine ⟨fun x hx => ?_, fun hn => ?_⟩
  · cases e : xs[i]? with
    | none => rw [e] at hx; cases hx
    | some d =>
      rw [e] at hx
      cases hx
      obtain ⟨v, hv, rv⟩ := r.get e
      refine ⟨⟨vs, v, hs, hv⟩, fun u H2 hy => ?_⟩
      obtain ⟨T, z, rfl, hT, rfl, hz⟩ := hy
      have e2 := hz vs hs
      rw [hv] at e2
      cases e2
      obtain ⟨k1, k2, k3⟩ := new_pair t1 hT (RelD.int (i : Nat)) (rv.tr t)
      rw [Nat.zero_add]
      exact ⟨k1, k2, k3⟩
  · cases e : xs[i]? with
    | some d => rw [e] at hn; cases hn
    | none => exact ⟨vs, hs, by rw [← r.len]; exact List.getElem?_eq_none_iff.mp e⟩
theorem jw_enumT {a : Addr} {vs : List V} {xs : List D} (q : QT K m H a vs) (r : RelDs K B m H xs vs) : JW K B m H (IteT K a) (enumD 0 xs) := fun B1 m1 S1 H1 t t1 i => by
  have hs := t.sqt q
  rw [enum_get]
  refine ⟨fun x hx => ?_, fun hn => ?_⟩
  · cases e : xs[i]? with
    | none => rw [e] at hx; cases hx
    | some d =>
      rw [e] at hx
      cases hx
      obtain ⟨v, hv, rv⟩ := r.get e
      refine ⟨⟨vs, v, hs, hv⟩, fun u H2 hy => ?_⟩
      obtain ⟨T, z, rfl, hT, rfl, hz⟩ := hy
      have e2 := hz vs hs
      rw [hv] at e2
      cases e2
      obtain ⟨k1, k2, k3⟩ := new_pair t1 hT (RelD.int (i : Nat)) (rv.tr t)
      rw [Nat.zero_add]
      exact ⟨k1, k2, k3⟩
  · cases e : xs[i]? with
    | some d => rw [e] at hn; cases hn
    | none => exact ⟨vs, hs, by rw [← r.len]; exact List.getElem?_eq_none_iff.mp e⟩
theorem jw_zip {a b : Addr} {vs ws : List V} {xs ys : List D} (q : ∀ B1 m1 H1, Tr K B m B1 m1 H H1 → SqL K H1 a vs) (r : RelDs K B m H xs vs) (q2 : ∀ B1 m1 H1, Tr K B m B1 m1 H H1 → SqL K H1 b ws) (r2 : RelDs K B m H ys ws) : JW K B m H (Itz K a b) (zipD xs ys) := fun B1 m1 S1 H1 t t1 i => by
  have hs := q _ _ _ t
  have hs2 := q2 _ _ _ t
  rw [zip_get]
  refine ⟨fun x hx => ?_, fun hn => ?_⟩
  · cases e : xs[i]? with
    | none => rw [e] at hx; cases hx
    | some d =>
      cases e2 : ys[i]? with
      | none => rw [e, e2] at hx; cases hx
      | some d2 =>
        rw [e, e2] at hx
        cases hx
        obtain ⟨v, hv, rv⟩ := r.get e
        obtain ⟨v2, hv2, rv2⟩ := r2.get e2
        refine ⟨⟨vs, ws, v, v2, hs, hs2, hv, hv2⟩, fun u H2 hy => ?_⟩
        obtain ⟨T, z, z2, rfl, hT, rfl, hz, hz2⟩ := hy
        have e3 := hz vs hs
        have e4 := hz2 ws hs2
        rw [hv] at e3
        rw [hv2] at e4
        cases e3; cases e4
        exact new_pair t1 hT (rv.tr t) (rv2.tr t)
  · refine ⟨vs, ws, hs, hs2, ?_⟩
    rw [← r.len, ← r2.len]
    cases e : xs[i]? with
    | none => exact .inl (List.getElem?_eq_none_iff.mp e)
    | some d =>
      cases e2 : ys[i]? with
      | none => exact .inr (List.getElem?_eq_none_iff.mp e2)
      | some d2 => rw [e, e2] at hn; cases hn
theorem jw_zipT {a b : Addr} {vs ws : List V} {xs ys : List D} (q : QT K m H a vs) (r : RelDs K B m H xs vs) (q2 : QT K m H b ws) (r2 : RelDs K B m H ys ws) : JW K B m H (ItzT K a b) (zipD xs ys) := fun B1 m1 S1 H1 t t1 i => by
  have hs := t.sqt q
  have hs2 := t.sqt q2
  rw [zip_get]
  refine ⟨fun x hx => ?_, fun hn => ?_⟩
  · cases e : xs[i]? with
    | none => rw [e] at hx; cases hx
    | some d =>
      cases e2 : ys[i]? with
      | none => rw [e, e2] at hx; cases hx
      | some d2 =>
        rw [e, e2] at hx
        cases hx
        obtain ⟨v, hv, rv⟩ := r.get e
        obtain ⟨v2, hv2, rv2⟩ := r2.get e2
        refine ⟨⟨vs, ws, v, v2, hs, hs2, hv, hv2⟩, fun u H2 hy => ?_⟩
        obtain ⟨T, z, z2, rfl, hT, rfl, hz, hz2⟩ := hy
        have e3 := hz vs hs
        have e4 := hz2 ws hs2
        rw [hv] at e3
        rw [hv2] at e4
        cases e3; cases e4
        exact new_pair t1 hT (rv.tr t) (rv2.tr t)
  · refine ⟨vs, ws, hs, hs2, ?_⟩
    rw [← r.len, ← r2.len]
    cases e : xs[i]? with
    | none => exact .inl (List.getElem?_eq_none_iff.mp e)
    | some d =>
      cases e2 : ys[i]? with
      | none => exact .inr (List.getElem?_eq_none_iff.mp e2)
      | some d2 => rw [e, e2] at hn; cases hn
theorem rngK_get (lo : Int) (k n i : Nat) : (rngK lo k n)[i]? = if i < n then some (.int (lo + (i : Int) * k)) else none := by
  unfold rngK
  by_cases h : i < n
  · rw [if_pos h, List.getElem?_map, List.getElem?_range h] <;> rfl
  · rw [if_neg h, List.getElem?_map, List.getElem?_eq_none (by simpa using h)] <;> rfl
theorem jw_rngK (lo : Int) (k n : Nat) : JW K B m H (Itc lo (k : Int) n) (rngK lo k n) := fun B1 m1 S1 H1 t t1 i => by
  rw [rngK_get]
  by_cases h : i < n
  · rw [if_pos h]
    refine ⟨fun x hx => ?_, fun e => nomatch e⟩
    cases hx
    refine ⟨h, fun v H2 hy => ?_⟩
    obtain ⟨rfl, rfl⟩ := hy
    exact ⟨Le.refl, t1, .int _⟩
  · rw [if_neg h]
    exact ⟨fun x hx => (nomatch hx), fun _ => Nat.le_of_not_lt h⟩
end
theorem rgc_of {i j : Int} {k : Nat} (h : -big62 ≤ i ∧ i < big62 ∧ -big62 ≤ j ∧ j < big62 ∧ 0 < k ∧ k < 1000000) : RgC i j (k : Int) (rngN i j k) := by
  have hk : (k : Int) > 0 := by omega
  have e : Builtin.Range.rangeSize i j (k : Int) = (rngN i j k : Int) := by
    unfold Builtin.Range.rangeSize rngN
    rw [if_pos hk]
    by_cases c : i < j
    · rw [if_pos c, if_pos c]
      have : 0 ≤ (j - i - 1) / (k : Int) := Int.ediv_nonneg (by omega) (by omega)
      omega
    · rw [if_neg c, if_neg c]; rfl
  have b : (rngN i j k : Int) ≤ 2 ^ 63 - 1 := by
    rw [← e]
    unfold Builtin.Range.rangeSize
    rw [if_pos hk]
    split
    · have : (j - i - 1) / (k : Int) ≤ j - i - 1 := Int.ediv_le_self _ (by omega)
      simp only [big62] at h
      omega
    · omega
  refine ⟨by omega, by omega, ?_, e⟩
  unfold Builtin.Range.small
  rw [e]
  simp only [big62] at h
  simp only [Builtin.Range.rangeFitsLong, Bool.and_eq_true, Bool.or_eq_true, decide_eq_true_eq, beq_iff_eq, hk, if_true]
  omega
section
variable {X : Cx} {Z : Xt} {C : Cf} {W : WX} {a b c e : Expr} {ia ib : IE} {p pos tpos : Pos} {tg : Expr}
theorem i_rng3 {k j : Nat} {p3 : Pos} (hg : Gl X "range") (hm : X.mg "range" = none) (hs : notStar a = true) (hs2 : notStar b = true) (ha : PE X a (Te X.K Z C W ia)) (hb : PE X b (Te X.K Z C W ib)) : PI X tg (.Call (.Name "range" p) [a, b, .Constant (.int (k : Int)) j p3] [] pos) (Ti X.K Z C W (.rng3 ia ib k)) :=
  (pi_range3 hg hm (pa_cons ha (pa_cons hb (pa_cons (pe_int (i := (k : Int))) pa_nil) (star_cons hs2)) (star_cons hs)) (by rw [star_cons hs]) (by rw [star_cons hs2]; rfl)).imp' fun σ H R ⟨B, m, S, δ, t, e, h⟩ => by
    refine (Mid.start t e).stepE h fun v d S1 m1 H1 l1 M1 r1 _ h1 => ?_
    refine M1.stepE h1 fun u d2 S2 m2 H2 l2 M2 r2 _ h2 => ?_
    cases d with
    | int i =>
      cases d2 with
      | int j =>
        have h2 : FinG X.K Z B m H (fun c d h => W c d σ h) ((if -big62 ≤ i ∧ i < big62 ∧ -big62 ≤ j ∧ j < big62 ∧ 0 < k ∧ k < 1000000 then M.ret (.xs (rngK i k (rngN i j k))) else M.bad : M Src) S2) (PSrc X.K B R) := h2
        by_cases hz : -big62 ≤ i ∧ i < big62 ∧ -big62 ≤ j ∧ j < big62 ∧ 0 < k ∧ k < 1000000
        · rw [if_pos hz] at h2
          exact ⟨i, j, k, _, by rw [r1.int_of, r2.int_of], rgc_of hz, (FinG.ret (M2.here h2)).now M2.t0 _ (jw_rngK i k _)⟩
        · rw [if_neg hz] at h2; exact False.elim h2
      | _ => exact False.elim h2
    | _ => exact False.elim h2
theorem i_enum {elts : List Expr} {kk : Nat} (hg : Gl X "enumerate") (hm : X.mg "enumerate" = none) (hs : notStar a = true) (ha : PE X a (Te X.K Z C W ia)) : PI X (.Tuple elts kk tpos) (.Call (.Name "enumerate" p) [a] [] pos) (Ti X.K Z C W (.enum ia)) :=
  (pi_enum2 hg hm (pa_cons ha pa_nil (star_cons hs)) (star_cons hs)).imp' fun σ H R ⟨B, m, S, δ, t, e, h⟩ => by
    refine (Mid.start t e).stepE h fun v d S1 m1 H1 l1 M1 r1 _ h1 => ?_
    cases q : enumV d with
    | none =>
      have h1 : FinG X.K Z B m H (fun c d h => W c d σ h) ((match enumV d with
        | some xs => M.ret (.xs (enumD 0 xs))
        | none => M.bad : M Src) S1) (PSrc X.K B R) := h1
      rw [q] at h1; exact False.elim h1
    | some xs =>
      have h1 : FinG X.K Z B m H (fun c d h => W c d σ h) ((match enumV d with
        | some xs => M.ret (.xs (enumD 0 xs))
        | none => M.bad : M Src) S1) (PSrc X.K B R) := h1
      rw [q] at h1
      unfold enumV at q
      split at q
      · cases q
        cases r1 with
        | tup q rs => exact ⟨_, _, rfl, .inr ⟨q.sq, (FinG.ret (M1.here h1)).now M1.t0 _ (jw_enumT q rs)⟩⟩
      · obtain ⟨l, vs, rfl, rs, hq, hk⟩ := r1.val_of q
        exact ⟨l, vs, rfl, .inl ⟨hq, (FinG.ret (M1.here h1)).now M1.t0 _ (jw_enum hk rs)⟩⟩
theorem i_zip {elts : List Expr} {kk : Nat} (hg : Gl X "zip") (hm : X.mg "zip" = none) (hs : notStar a = true) (hs2 : notStar b = true) (ha : PE X a (Te X.K Z C W ia)) (hb : PE X b (Te X.K Z C W ib)) : PI X (.Tuple elts kk tpos) (.Call (.Name "zip" p) [a, b] [] pos) (Ti X.K Z C W (.zip ia ib)) :=
  (pi_zipA hg hm (pa_cons ha (pa_cons hb pa_nil (star_cons hs2)) (star_cons hs)) (star_cons hs) (by rw [star_cons hs2]; rfl)).imp' fun σ H R ⟨B, m, S, δ, t, e, h⟩ => by
    refine (Mid.start t e).stepE h fun v d S1 m1 H1 l1 M1 r1 _ h1 => ?_
    refine M1.stepE h1 fun u d2 S2 m2 H2 l2 M2 r2 _ h2 => ?_
    obtain ⟨sr, e2, h2⟩ := FinG.opt (show FinG X.K Z B m H (fun c d h => W c d σ h) (M.opt (zipS d d2) S2) (PSrc X.K B R) from h2)
    unfold zipS at e2
    split at e2
    · rename_i xs ys
      cases e2
      have r1' := M1.val l2 r1
      cases r1' with
      | tup q rs =>
        cases r2 with
        | tup q2 rs2 =>
          exact ⟨_, _, _, _, rfl, .inr ⟨q.sq, q2.sq, (M2.here h2).now M2.t0 _ (jw_zipT q rs q2 rs2)⟩⟩
    · split at e2
      · rename_i xs ys e1 e3
        cases e2
        have r1' := M1.val l2 r1
        obtain ⟨l, vs, rfl, rs, hq, hk⟩ := r1'.val_of e1
        obtain ⟨l2, vs2, rfl, rs2, hq2, hk2⟩ := r2.val_of e3
        exact ⟨_, _, _, _, rfl, .inl ⟨hq, hq2, (M2.here h2).now M2.t0 _ (jw_zip hk rs hk2 rs2)⟩⟩
      · cases e2
end
end Fb
set_option Elab.async false
set_option linter.all false
set_option maxRecDepth 100000
set_option maxHeartbeats 4000000
/-! Fb10: list comprehensions. -/
namespace Fb
open PySem PySem.Spec PyProof.Rows L2
section
variable {K : Fg} {B m m1 m' : List Addr} {S S1 : Store} {H H1 H2 H' : Hp} {D : Addr}
/-- a new object that is hidden from then on -/
theorem hide_tr (t : At K B m S H) (l : Le m m' H H') (hD : H D = none) (vs : List V) (hH : H' D = some (.lst vs)) : Tr K B m (D :: B) m' H H' := by
  have x := l.tr t
  refine ⟨x.tup, fun a u h hb hm => ?_, x.cell⟩
  obtain ⟨h1, h2, h3⟩ := x.obj a u h hb hm
  refine ⟨h1, fun z => ?_, h3⟩
  rcases List.mem_cons.mp z with e | z
  · rw [e, hD] at h; cases h
  · exact h2 z
theorem hide_at (t : At K B m S H) (hD : H D = none) (vs : List V) : At K (D :: B) m S (upd H D (.lst vs)) := by
  have t1 := t.new (o := .lst vs) hD
  have f := t.fresh hD
  have tr := hide_tr t (Le.new t (o := .lst vs) hD) hD vs upd_same
  refine ⟨t.len, ?_, fun a ha => ?_, fun i c a hc ha => ?_⟩
  · rw [List.cons_append]
    exact List.nodup_cons.mpr ⟨fun z => (List.mem_append.mp z).elim f.1 f.2, t.nd⟩
  · rcases List.mem_cons.mp ha with e | ha
    · rw [e, upd_same]; exact fun z => by cases z
    · exact t1.live a ha
  · have q := t.cells i c a hc ha
    cases c with
    | lst ds =>
      obtain ⟨us, e, r⟩ := q
      exact ⟨us, by rw [upd_ne (ne_of_none e hD)]; exact e, r.tr tr⟩
/-- the hidden object is written -/
theorem hid_tr {us : List V} (hH : H D = some (.lst us)) (vs : List V) : Tr K (D :: B) m (D :: B) m H (upd H D (.lst vs)) := by
  refine ⟨fun a w h hm => ⟨?_, hm⟩, fun a u h hb hm => ⟨?_, hb, hm⟩, fun _ _ h => h⟩
  · have ne : a ≠ D := fun e => by
      rw [e] at h
      rcases h with h | ⟨o, h⟩ <;> rw [hH] at h <;> cases h
    rcases h with h | ⟨o, h⟩
    · exact .inl (by rw [upd_ne ne]; exact h)
    · exact .inr ⟨o, by rw [upd_ne ne]; exact h⟩
  · rw [upd_ne (fun e => hb (by rw [e]; exact List.mem_cons_self))]
    exact h
theorem At.via (t : At K B m S H) {B2 : List Addr} {H2 : Hp} (tr : Tr K B m B2 m H H2) (nd : (B2 ++ m).Nodup) (lv : ∀ a ∈ B2, H2 a ≠ none) (ce : ∀ a ∈ m, H2 a = H a) : At K B2 m S H2 :=
  ⟨t.len, nd, lv, fun i c a hc ha => by
    have q := t.cells i c a hc ha
    cases c with
    | lst ds =>
      obtain ⟨us, e, r⟩ := q
      exact ⟨us, by rw [ce a (List.mem_of_getElem? ha)]; exact e, r.tr tr⟩⟩
theorem hid_put {us : List V} (t : At K (D :: B) m S H) (hH : H D = some (.lst us)) (vs : List V) : At K (D :: B) m S (upd H D (.lst vs)) := by
  refine t.via (hid_tr hH vs) t.nd (fun a ha => ?_) fun a ha => ?_
  · by_cases e : a = D
    · rw [e, upd_same]; exact fun z => by cases z
    · rw [upd_ne e]; exact t.live a ha
  · rw [upd_ne (fun e => t.apart (show D ∈ D :: B from List.mem_cons_self) (by rw [← e]; exact ha))]
def delH (H : Hp) (a : Addr) : Hp := fun b => if b = a then none else H b
theorem delH_ne {a b : Addr} (h : b ≠ a) : delH H a b = H b := if_neg h
theorem delH_same {a : Addr} : delH H a a = none := if_pos rfl
theorem show_tr : Tr K (D :: B) m B m H H := ⟨fun _ _ h hm => ⟨h, hm⟩, fun _ _ h hb hm => ⟨h, fun z => hb (List.mem_cons_of_mem _ z), hm⟩, fun _ _ h => h⟩
theorem del_tr {us : List V} (hH : H D = some (.lst us)) : Tr K (D :: B) m B m H (delH H D) := by
  refine ⟨fun a w h hm => ⟨?_, hm⟩, fun a u h hb hm => ⟨?_, fun z => hb (List.mem_cons_of_mem _ z), hm⟩, fun _ _ h => h⟩
  · have ne : a ≠ D := fun e => by
      rw [e] at h
      rcases h with h | ⟨o, h⟩ <;> rw [hH] at h <;> cases h
    rcases h with h | ⟨o, h⟩
    · exact .inl (by rw [delH_ne ne]; exact h)
    · exact .inr ⟨o, by rw [delH_ne ne]; exact h⟩
  · rw [delH_ne (fun e => hb (by rw [e]; exact List.mem_cons_self))]
    exact h
theorem At.shown (t : At K (D :: B) m S H) : At K B m S H :=
  t.via show_tr (List.nodup_cons.mp (by rw [← List.cons_append]; exact t.nd)).2 (fun a ha => t.live a (List.mem_cons_of_mem _ ha)) fun _ _ => rfl
theorem At.del {us : List V} (t : At K (D :: B) m S H) (hH : H D = some (.lst us)) : At K B m S (delH H D) := by
  have nd := List.nodup_cons.mp (show (D :: (B ++ m)).Nodup by rw [← List.cons_append]; exact t.nd)
  refine t.via (del_tr hH) nd.2 (fun a ha => ?_) fun a ha => ?_
  · rw [delH_ne (fun e => nd.1 (List.mem_append_left _ (by rw [← e]; exact ha)))]
    exact t.live a (List.mem_cons_of_mem _ ha)
  · exact delH_ne fun e => nd.1 (List.mem_append_right _ (by rw [← e]; exact ha))
/-- the made list, at the end -/
theorem fin_comp {Z : Xt} {V' : XK} {mo : List Addr} {So : Store} {Ho : Hp} {Q : VK} {ds : List Fb.D} {vs : List V} (to : At K B mo So Ho) (lo : Le mo m Ho H) (t : At K (D :: B) m S H) (hD : Ho D = none) (hH : H D = some (.lst vs)) (r : RelDs K (D :: B) m H ds vs)
    (h : FinG K Z B mo Ho V' (.ok (.lst ds) S) (PD K B Ho true Q)) : Q (.ref D) H := by
  have nd := List.nodup_cons.mp (show (D :: (B ++ m)).Nodup by rw [← List.cons_append]; exact t.nd)
  refine h m H lo (t.shown) _ (.lst ⟨hH, fun z => nd.1 (List.mem_append_left _ z), fun z => nd.1 (List.mem_append_right _ z)⟩ (r.tr show_tr)) fun _ => ⟨fun xs e => ?_⟩
  cases e
  refine ⟨D, vs, delH H D, rfl, hD, delH_same, ?_, t.del hH, r.tr (del_tr hH)⟩
  funext b
  by_cases hb : b = D
  · rw [hb, upd_same]; exact hH
  · rw [upd_ne hb, delH_ne hb]
theorem wipe_wipe {vs : List Nat} : ∀ (ps : List Nat) (τ : L2.St), (∀ i ∈ ps, i ∈ vs) → wipe (wipe τ ps) vs = wipe τ vs
  | [], _, _ => rfl
  | p :: ps, τ, h => by
    have one : ∀ (ws : List Nat) (ρ : L2.St), p ∈ ws → wipe (ρ.set p none) ws = wipe ρ ws := by
      intro ws
      induction ws with
      | nil => intro ρ hn; cases hn
      | cons k ws ih =>
        intro ρ hn
        show (wipe (ρ.set p none) ws).set k none = (wipe ρ ws).set k none
        by_cases hm : p ∈ ws
        · rw [ih ρ hm]
        · have e : p = k := (List.mem_cons.mp hn).resolve_right hm
          subst e
          have comm : ∀ (us : List Nat) (ξ : L2.St), p ∉ us → wipe (ξ.set p none) us = (wipe ξ us).set p none := by
            intro us
            induction us with
            | nil => intro ξ _; rfl
            | cons j us ih2 =>
              intro ξ hn2
              show (wipe (ξ.set p none) us).set j none = ((wipe ξ us).set j none).set p none
              rw [ih2 ξ (fun z => hn2 (List.mem_cons_of_mem _ z)), List.set_comm _ _ (fun z => hn2 (by rw [z]; exact List.mem_cons_self))]
          rw [comm ws ρ hm, List.set_set]
    show wipe ((wipe τ ps).set p none) vs = wipe τ vs
    rw [one vs _ (h p List.mem_cons_self), wipe_wipe ps τ fun i hi => h i (List.mem_cons_of_mem _ hi)]
theorem wipe_up {ps vs : List Nat} {τ τ' : L2.St} (h : wipe τ ps = wipe τ' ps) (hs : ∀ i ∈ ps, i ∈ vs) : wipe τ vs = wipe τ' vs := by
  rw [← wipe_wipe ps τ hs, h, wipe_wipe ps τ' hs]
end
def Tc (K : Fg) (Z : Xt) (C : Cf) (W : WX) (e : IE) : TT := fun σ H Q => ∃ B m S δ, At K B m S H ∧ RelE K B m H δ σ ∧ FinG K Z B m H (fun c d h => W c d σ h) (evC C e δ S) (PB Q)
abbrev Wf : WX := fun _ _ _ _ => False
/-- an item's element, as the evaluator has it -/
def elF (C : Cf) (own : List Nat) (p : Pat) (c e : IE) (δ : Ev) (x : D) : M (Option D) := M.nox fun S => match patE p x S (wipeE δ own) with
  | none => .bad
  | some σ' => M.bind (evC C c σ') (fun t => if t then M.bind (evE C e σ') fun y => M.ret (some y) else M.ret none) S
theorem elF_cases {C : Cf} {own : List Nat} {p : Pat} {c e : IE} {δ : Ev} {x : D} {S : Store} {r : Res (Option D)} (h : elF C own p c e δ x S = r) : r = .bad ∨ ∃ δ' t S3, patE p x S (wipeE δ own) = some δ' ∧ evC C c δ' S = .ok t S3 ∧
    ((t = false ∧ r = .ok none S3) ∨ ∃ y S4, t = true ∧ evE C e δ' S3 = .ok y S4 ∧ r = .ok (some y) S4) := by
  subst h
  unfold elF M.nox
  cases q : patE p x S (wipeE δ own) with
  | none => exact .inl (by simp only [q])
  | some δ' =>
    simp only [q]
    unfold M.bind
    cases q2 : evC C c δ' S with
    | bad => exact .inl (by simp only)
    | exc _ _ _ => exact .inl (by simp only)
    | ok t S3 =>
      simp only
      cases t with
      | false => exact .inr ⟨δ', false, S3, rfl, q2, .inl ⟨rfl, rfl⟩⟩
      | true =>
        simp only [if_true]
        cases q3 : evE C e δ' S3 with
        | bad => exact .inl (by simp only)
        | exc _ _ _ => exact .inl (by simp only)
        | ok y S4 => exact .inr ⟨δ', true, S3, rfl, q2, .inr ⟨y, S4, rfl, q3, rfl⟩⟩
section
variable {X : Cx} {Z : Xt} {C : Cf} {W : WX}
/-- where the loop stands: D the list so far, F what is left of the run -/
structure Lc (K : Fg) (Z : Xt) (B mo : List Addr) (Ho : Hp) (V' : XK) (Q : VK) (m1 : List Addr) (H1 : Hp) (D : Addr) (δ : Ev) (σ : L2.St) (run : Nat → M (List Fb.D)) (H : Hp) : Prop where
  st : ∃ m S acc accD, H D = some (.lst acc) ∧ At K (D :: B) m S H ∧ RelDs K (D :: B) m H accD acc ∧ RelE K (D :: B) m H δ σ ∧ Le m1 m H1 H ∧
    FinG K Z B mo Ho V' (M.bind (run accD.length) (fun ys => M.ret (.lst (accD ++ ys))) S) (PD K B Ho true Q)
/-- one turn: what the evaluator does with an item, the layer does -/
theorem lc_turn {B mo m1 m : List Addr} {So S1 S : Store} {Ho H1 : Hp} {acc : List V} {accD : List Fb.D} {V' : XK} {Q : VK} {D : Addr} {δ : Ev} {σ : L2.St} {own : List Nat} {p : Pat} {c e : IE} {x : Fb.D} {run run' : Nat → M (List Fb.D)} {H : Hp} {v : V} {H2 : Hp}
    (to : At X.K B mo So Ho) (t1 : At X.K B m1 S1 H1) (hD1 : H1 D = none) (hp : ∀ i ∈ patS p, i ∈ own)
    (hD : H D = some (.lst acc)) (t : At X.K (D :: B) m S H) (ra : RelDs X.K (D :: B) m H accD acc) (re : RelE X.K (D :: B) m H δ σ) (l : Le m1 m H1 H) (h : FinG X.K Z B mo Ho V' (M.bind (run accD.length) (fun ys => M.ret (.lst (accD ++ ys))) S) (PD X.K B Ho true Q)) (hrun : ∀ k, run k = M.bind (elF C own p c e δ x) fun o => match o with
      | none => run' k
      | some y => if k < SL then M.bind (run' (k + 1)) fun ys => M.ret (y :: ys) else M.bad)
    (hy : Le m m H H2 ∧ At X.K (D :: B) m S H2 ∧ RelD X.K (D :: B) m H2 x v) :
    Tg X.K p v (wipe σ own) H2 fun σ2 H2 => wipe σ2 own = wipe σ own ∧ Tc X.K Z C Wf c σ2 H2 fun b H3 => if b = true then Te X.K Z C Wf e σ2 H3 fun y H4 => ∃ acc, H4 D = some (.lst acc) ∧ acc.length < sizeLine ∧ Lc X.K Z B mo Ho V' Q m1 H1 D δ σ run' (upd H4 D (.lst (acc ++ [y])))
      else Lc X.K Z B mo Ho V' Q m1 H1 D δ σ run' H3 := by
  obtain ⟨l2, t2, rx⟩ := hy
  have nD : ∀ {m' : List Addr} {S' : Store} {H' : Hp}, At X.K (D :: B) m' S' H' → D ∉ m' := fun {m' S' H'} a => a.apart List.mem_cons_self
  rw [hrun] at h
  cases q : elF C own p c e δ x S with
  | bad => unfold M.bind at h; rw [q] at h; exact False.elim h
  | exc cc as S9 =>
    rcases elF_cases q with z | ⟨_, _, _, _, _, ⟨_, z⟩ | ⟨_, _, _, _, z⟩⟩ <;> cases z
  | ok o S9 =>
    rw [bind_bind] at h
    unfold M.bind at h
    rw [q] at h
    rcases elF_cases q with z | ⟨δ', tt, S3, e1, e2, z⟩
    · cases z
    have re2 : RelE X.K (D :: B) m H2 (wipeE δ own) (wipe σ own) := (re.tr (l2.tr t)).wipe own
    refine ⟨D :: B, m, S, wipeE δ own, x, δ', t2, re2, rx, e1, fun σ' re3 hw => ?_⟩
    refine ⟨?_, D :: B, m, S, δ', t2, re3, ?_⟩
    · have hw2 : wipe σ' (patS p) = wipe (wipe σ own) (patS p) := hw
      rw [wipe_up hw2 hp, wipe_wipe own σ fun i hi => hi]
    rw [e2]
    intro m3 H3 l3 t3
    have hD3 : H3 D = some (.lst acc) := l3.keep D _ (l2.keep D _ hD (nD t)) (nD t2)
    have le3 : Le m m3 H H3 := Le.trans t t2 l2 l3
    have lo3 : Le m1 m3 H1 H3 := Le.trans t1 (At.shown t) l le3
    rcases z with ⟨rfl, z⟩ | ⟨y, S4, rfl, e3, z⟩
    · cases z
      dsimp only [PB]
      rw [if_neg Bool.false_ne_true]
      exact ⟨m3, S9, acc, accD, hD3, t3, ra.tr (le3.tr t), re.tr (le3.tr t), lo3, h⟩
    · cases z
      dsimp only [PB]
      rw [if_pos rfl]
      refine ⟨D :: B, m3, S3, δ', t3, re3.tr (l3.tr t2), ?_⟩
      rw [e3]
      intro m4 H4 l4 t4 v4 r4 _
      have hD4 : H4 D = some (.lst acc) := l4.keep D _ hD3 (nD t3)
      have le4 : Le m m4 H H4 := Le.trans t t3 le3 l4
      have lo4 : Le m1 m4 H1 H4 := Le.trans t1 (At.shown t) l le4
      have h : FinG X.K Z B mo Ho V' ((M.bind (if accD.length < SL then M.bind (run' (accD.length + 1)) fun ys => M.ret (y :: ys) else M.bad) fun ys => M.ret (.lst (accD ++ ys))) S9) (PD X.K B Ho true Q) := h
      by_cases hk : accD.length < SL
      · rw [if_pos hk, bind_bind] at h
        have ra4 := ra.tr (le4.tr t)
        have tr := hid_tr (K := X.K) (B := B) (m := m4) hD4 (acc ++ [v4])
        refine ⟨acc, hD4, by rw [← ra.len, ← SL_eq]; exact hk, m4, S9, acc ++ [v4], accD ++ [y], upd_same, hid_put t4 hD4 _, (ra4.app (.cons r4 .nil)).tr tr, (re.tr (le4.tr t)).tr tr, ?_, ?_⟩
        · obtain ⟨rr, er, hr⟩ := lo4.pre
          exact ⟨⟨rr, er, hr⟩, fun a o ha hm => by rw [upd_ne (ne_of_none ha hD1)]; exact lo4.keep a o ha hm⟩
        · rw [List.length_append]
          have e5 : (fun ys : List Fb.D => (M.ret (Fb.D.lst (accD ++ [y] ++ ys)) : M Fb.D)) = fun a => M.bind (M.ret (y :: a)) fun ys => M.ret (Fb.D.lst (accD ++ ys)) := by
            funext ys
            show _ = M.ret (Fb.D.lst (accD ++ (y :: ys)))
            rw [List.append_assoc]
            rfl
          rw [e5]
          exact h
      · rw [if_neg hk] at h; exact False.elim h
theorem compM_cons (f : Fb.D → M (Option Fb.D)) (x : Fb.D) (r : List Fb.D) (k : Nat) : compM f (x :: r) k = M.bind (f x) fun o => match o with
    | none => compM f r k
    | some y => if k < SL then M.bind (compM f r (k + 1)) fun ys => M.ret (y :: ys) else M.bad := rfl
theorem comp_step {vs : List Nat} {p : Pat} {it c e : IE} {σ : L2.St} {H : Hp} {Q : VK} (hp : ∀ i ∈ patS p, i ∈ vs) (h : Te X.K Z C W (.comp vs p it c e) σ H Q) : tLc (Ti X.K Z C W it) (Tg X.K p) (Tc X.K Z C Wf c) (Te X.K Z C Wf e) vs σ H Q := by
  obtain ⟨B, m, S, δ, t, ee, h⟩ := h
  have h : FinG X.K Z B m H (fun c d h => W c d σ h) (M.bind (evI C it δ) (fun s => M.bind (compS (elF C (vs) p c e δ) C.fuel s) fun ys => M.ret (.lst ys)) S) (PD X.K B H true Q) := h
  refine ⟨B, m, S, δ, t, ee, (Mid.start t ee).part h fun s S1 m1 H1 l1 t1 h1 => ?_⟩
  have M1 := (Mid.start t ee).go l1 t1
  have start : ∀ (run : Nat → M (List Fb.D)) (D : Addr), H1 D = none → FinG X.K Z B m H (fun c d h => W c d σ h) (M.bind (run 0) (fun ys => M.ret (.lst ys)) S1) (PD X.K B H true Q) →
      Lc X.K Z B m H (fun c d h => W c d σ h) Q m1 H1 D δ σ run (upd H1 D (.lst [])) := fun run D hD hr =>
    ⟨m1, S1, [], [], upd_same, hide_at t1 hD [], .nil, M1.e.tr (hide_tr t1 (Le.new t1 hD) hD [] upd_same), Le.new t1 hD, hr⟩
  have fin : ∀ (D : Addr) (H' : Hp), H1 D = none → Lc X.K Z B m H (fun c d h => W c d σ h) Q m1 H1 D δ σ (fun _ => M.ret []) H' → Q (.ref D) H' := fun D H' hD L => by
    obtain ⟨m4, S4, acc, accD, hH, t4, ra, re, l4, hf⟩ := L.st
    have hf : FinG X.K Z B m H (fun c d h => W c d σ h) (.ok (.lst (accD ++ [])) S4) (PD X.K B H true Q) := hf
    rw [List.append_nil] at hf
    exact fin_comp t (Le.trans t t1 l1 l4) t4 (M1.none hD) hH ra hf
  cases s with
  | xs xs =>
    intro J hJ D hD
    have gone : ∀ {mm : List Addr} {HH : Hp} {vs : List V}, HH D = some (.lst vs) → Le m1 mm H1 HH → Tr X.K B m1 (D :: B) mm H1 HH := fun {mm HH vs} hh l => hide_tr t1 l hD vs hh
    refine ⟨fun i k HH => k = xs.length - i ∧ i ≤ xs.length ∧ Lc X.K Z B m H (fun c d h => W c d σ h) Q m1 H1 D δ σ (fun k => compM (elF C (vs) p c e δ) (xs.drop i) k) HH, ⟨xs.length, by simp, Nat.zero_le _, start _ D hD h1⟩, ?_⟩
    rintro i k HH ⟨rfl, hi2, L⟩
    obtain ⟨m4, S4, acc, accD, hH, t4, ra, re, l4, hf⟩ := id L.st
    have jw := hJ (D :: B) m4 S4 HH (gone hH l4) t4 i
    by_cases hlt : i < xs.length
    · have hx : xs[i]? = some xs[i] := List.getElem?_eq_getElem hlt
      obtain ⟨go, yl⟩ := jw.1 _ hx
      refine .inr ⟨go, fun H' => Lc X.K Z B m H (fun c d h => W c d σ h) Q m1 H1 D δ σ (fun k => compM (elF C (vs) p c e δ) (xs.drop (i + 1)) k) H', fun H' L' => ⟨xs.length - (i + 1), by omega, rfl, hlt, L'⟩, fun v H2 hyl => ?_⟩
      refine lc_turn (x := xs[i]) t t1 hD hp hH t4 ra re l4 hf (fun k => ?_) (yl v H2 hyl)
      rw [List.drop_eq_getElem_cons hlt]; rfl
    · refine .inl ⟨jw.2 (List.getElem?_eq_none (by omega)), fin D HH hD ?_⟩
      rw [show xs.drop i = [] from List.drop_eq_nil_of_le (by omega)] at L
      exact L
  | cl n =>
    intro a ha D hD
    refine ⟨fun i k HH => Lc X.K Z B m H (fun c d h => W c d σ h) Q m1 H1 D δ σ (fun kk => compN (elF C (vs) p c e δ) n k i kk) HH, ⟨C.fuel, start _ D hD h1⟩, ?_⟩
    rintro i k HH L
    obtain ⟨m4, S4, acc, accD, hH, t4, ra, re, l4, hf⟩ := id L.st
    obtain ⟨rr, er, _⟩ := l4.pre
    have ha4 : ∀ {mm : List Addr} {HH : Hp}, Le m1 mm H1 HH → mm[n]? = some a := fun {mm HH} l => (l.tr t1).cell n a ha
    cases k with
    | zero => exact False.elim hf
    | succ k =>
      have hf0 := hf
      unfold M.bind at hf
      rw [show compN (elF C (vs) p c e δ) n (k + 1) i accD.length S4 = (match lstOf S4 (.cell n) with
        | none => .bad
        | some xs => match xs[i]? with
          | none => .ok [] S4
          | some x => M.bind (elF C (vs) p c e δ x) (fun o => match o with
            | none => compN (elF C (vs) p c e δ) n k (i + 1) accD.length
            | some y => if accD.length < SL then M.bind (compN (elF C (vs) p c e δ) n k (i + 1) (accD.length + 1)) fun ys => M.ret (y :: ys) else M.bad) S4) from rfl] at hf
      cases q : lstOf S4 (.cell n) with
      | none => rw [q] at hf; exact False.elim hf
      | some ys =>
        rw [q] at hf
        have jc := jc_at t4 (ha4 l4) q i
        cases q2 : ys[i]? with
        | none =>
          simp only [q2] at hf
          have hf : FinG X.K Z B m H (fun c d h => W c d σ h) (.ok (.lst (accD ++ [])) S4) (PD X.K B H true Q) := hf
          exact .inl ⟨jc.2 q2, fin D HH hD ⟨m4, S4, acc, accD, hH, t4, ra, re, l4, hf⟩⟩
        | some x =>
          simp only [q2] at hf
          obtain ⟨go, yl⟩ := jc.1 x q2
          refine .inr ⟨go, fun H' => Lc X.K Z B m H (fun c d h => W c d σ h) Q m1 H1 D δ σ (fun kk => compN (elF C (vs) p c e δ) n k (i + 1) kk) H', fun H' L' => ⟨k, Nat.lt_succ_self k, L'⟩, fun v H2 hyl => ?_⟩
          refine lc_turn (x := x) (run := fun kk => M.bind (elF C (vs) p c e δ x) fun o => match o with
            | none => compN (elF C (vs) p c e δ) n k (i + 1) kk
            | some y => if kk < SL then M.bind (compN (elF C (vs) p c e δ) n k (i + 1) (kk + 1)) fun ys => M.ret (y :: ys) else M.bad) t t1 hD hp hH t4 ra re l4 hf (fun k => rfl) ?_
          obtain ⟨rfl, rv⟩ := yl v H2 hyl
          exact ⟨Le.refl, t4, rv⟩
theorem s_comp {elt tg iter : Expr} {ifs : List Expr} {scope : Scope} {own : List (Str × Nat)} {vs : List Nat} {p : Pat} {it c e : IE} {pos : Pos} (hc : X.calm = true) (hN : X.N.Nodup) (hi : PI X tg iter (Ti X.K Z C W it)) (ok : BlkOk X.N X.env.scope scope own)
    (hg : ∀ (s : Shared) (H : Hp) (Cc : Addr) (cl : List (Str × Addr)) (fp : List Addr), PG (X.blk s H scope (compEnvC scope cl Cc X.env) fp) tg (Tg X.K p))
    (ht : ∀ (s : Shared) (H : Hp) (Cc : Addr) (cl : List (Str × Addr)) (fp : List Addr), PTs (X.blk s H scope (compEnvC scope cl Cc X.env) fp) ifs (Tc X.K Z C Wf c))
    (he : ∀ (s : Shared) (H : Hp) (Cc : Addr) (cl : List (Str × Addr)) (fp : List Addr), PE (X.blk s H scope (compEnvC scope cl Cc X.env) fp) elt (Te X.K Z C Wf e))
    (hs : ∀ x, foldedSetIterable iter X.env x = pure x) (hp : ∀ i ∈ patS p, i ∈ vs) (hv : List.map (fun x => x.2) own = vs) :
    PE X (.ListComp elt [⟨tg, iter, ifs, 0⟩] scope pos) (Te X.K Z C W (.comp vs p it c e)) := by
  have h0 := pe_lc (pos := pos) hc hN hi ok hg ht he hs
  rw [hv] at h0
  exact h0.imp' fun σ H Q h => comp_step hp h
end
end Fb
set_option Elab.async false
set_option linter.all false
set_option maxRecDepth 100000
set_option maxHeartbeats 4000000
/-! Fb11: statements. -/
namespace Fb
open PySem PySem.Spec PyProof.Rows L2
abbrev NX : XK := fun _ _ _ => False
/-- what an ending asks -/
def PF (K : Fg) (Z : Xt) (B : List Addr) (W : WX) (E : Ends) (f : Fl) (S' : Store) (m' : List Addr) (H' : Hp) : Prop := match f with
  | .nx δ => ∀ σ, RelE K B m' H' δ σ → E.nx σ H'
  | .rt d => ∀ v, RelD K B m' H' d v → E.rt v H'
  | .bk δ => ∀ σ, RelE K B m' H' δ σ → E.bk σ H'
  | .ct δ => ∀ σ, RelE K B m' H' δ σ → E.ct σ H'
  | .xc c as δ => ∀ σ cls dd, RelE K B m' H' δ σ → ExRel K Z B m' H' c as cls dd → W cls dd σ H'
def Tk (K : Fg) (Z : Xt) (W : WX) (f : Ev → M Fl) : TS := fun E σ H => ∃ B m S δ, At K B m S H ∧ RelE K B m H δ σ ∧ FinG K Z B m H NX (f δ S) (PF K Z B W E)
abbrev Ss (K : Fg) (Z : Xt) (C : Cf) (W : WX) (st : IS) : TS := Tk K Z W (exS C st)
theorem _root_.L2.PS.imp' {X : Cx} {e : Stmt} {t t' : TS} (h : PS X e t) (i : ∀ E σ H, t' E σ H → t E σ H) : PS X e t' := ⟨fun pins s σ H E I q => h.run pins s σ H E I (i _ _ _ q)⟩
theorem _root_.L2.PSs.imp' {X : Cx} {e : List Stmt} {t t' : TS} (h : PSs X e t) (i : ∀ E σ H, t' E σ H → t E σ H) : PSs X e t' := ⟨fun pins s σ H E I q => h.run pins s σ H E I (i _ _ _ q)⟩
section
variable {K : Fg} {Z : Xt} {C : Cf} {W : WX} {B m m0 m1 : List Addr} {S S0 S1 : Store} {H H0 H1 : Hp} {δ : Ev} {σ : L2.St} {α β : Type} {P : β → Store → List Addr → Hp → Prop} {E : Ends}
/-- the answer of a first part, with where it stands -/
theorem FinG.part {V : XK} {f : M α} {g : α → M β} (t : At K B m S H) (h : FinG K Z B m H V (M.bind f g S) P) {R : α → Store → List Addr → Hp → Prop}
    (k : ∀ a S1 m1 H1, Le m m1 H H1 → At K B m1 S1 H1 → FinG K Z B m1 H1 V (g a S1) P → R a S1 m1 H1) : FinG K Z B m H V (f S) R := by
  unfold M.bind at h
  cases e : f S with
  | ok a S1 =>
    rw [e] at h
    exact fun m1 H1 l t1 => k a S1 m1 H1 l t1 (h.rebase t t1 l)
  | exc c as S1 => rw [e] at h; exact h
  | bad => rw [e] at h; exact h
/-- an expression's answer within a statement -/
theorem Mid.lift (J : Mid K B m m0 S S0 H H0 δ σ) {f : M α} {k : α → M Fl} (h : FinG K Z B m H NX (liftE f δ k S0) (PF K Z B W E)) {R : α → Store → List Addr → Hp → Prop}
    (kk : ∀ a S1 m1 H1, Le m0 m1 H0 H1 → At K B m1 S1 H1 → FinG K Z B m H NX (k a S1) (PF K Z B W E) → R a S1 m1 H1) : FinG K Z B m0 H0 (fun c d h => W c d σ h) (f S0) R := by
  unfold liftE at h
  cases e : f S0 with
  | ok a S1 =>
    rw [e] at h
    exact fun m1 H1 l t1 => kk a S1 m1 H1 l t1 h
  | exc c as S1 =>
    rw [e] at h
    exact fun cls dd m1 H1 l t1 x => h m1 H1 (Le.trans J.t J.t0 J.le l) t1 σ cls dd (J.e.tr (l.tr J.t0)) x
  | bad => rw [e] at h; exact h
theorem Mid.sE (J : Mid K B m m0 S S0 H H0 δ σ) {a : IE} {k : D → M Fl} (h : FinG K Z B m H NX (liftE (evE C a δ) δ k S0) (PF K Z B W E)) {R : VK}
    (kk : ∀ v d S1 m1 H1, Mid K B m m1 S S1 H H1 δ σ → RelD K B m1 H1 d v → Le m0 m1 H0 H1 → FinG K Z B m H NX (k d S1) (PF K Z B W E) → R v H1) : Te K Z C W a σ H0 R :=
  ⟨B, m0, S0, δ, J.t0, J.e, J.lift h fun d S1 m1 H1 l t1 h1 v r _ => kk v d S1 m1 H1 (J.go l t1) r l h1⟩
theorem Mid.sT (J : Mid K B m m0 S S0 H H0 δ σ) {a : IE} {k : Bool → M Fl} (h : FinG K Z B m H NX (liftE (evT C a δ) δ k S0) (PF K Z B W E)) {R : Bool → Hp → Prop}
    (kk : ∀ b S1 m1 H1, Mid K B m m1 S S1 H H1 δ σ → FinG K Z B m H NX (k b S1) (PF K Z B W E) → R b H1) : Tb K Z C W a σ H0 R :=
  ⟨B, m0, S0, δ, J.t0, J.e, J.lift h fun b S1 m1 H1 l t1 h1 => kk b S1 m1 H1 (J.go l t1) h1⟩
theorem Mid.sA (J : Mid K B m m0 S S0 H H0 δ σ) {a : IE} {k : List D → M Fl} (h : FinG K Z B m H NX (liftE (evA C a δ) δ k S0) (PF K Z B W E)) {R : List V → Hp → Prop}
    (kk : ∀ vs ds S1 m1 H1, Mid K B m m1 S S1 H H1 δ σ → RelDs K B m1 H1 ds vs → FinG K Z B m H NX (k ds S1) (PF K Z B W E) → R vs H1) : Ta K Z C W a σ H0 R :=
  ⟨B, m0, S0, δ, J.t0, J.e, J.lift h fun ds S1 m1 H1 l t1 h1 vs r => kk vs ds S1 m1 H1 (J.go l t1) r h1⟩
theorem Mid.tailS (J : Mid K B m m0 S S0 H H0 δ σ) {f : Ev → M Fl} (h : FinG K Z B m H NX (f δ S0) (PF K Z B W E)) : Tk K Z W f E σ H0 := ⟨B, m0, S0, δ, J.t0, J.e, J.here h⟩
/-- on to the next statement -/
theorem Mid.nx (J : Mid K B m m0 S S0 H H0 δ σ) {δ' : Ev} {σ' : L2.St} (h : FinG K Z B m H NX (M.ret (.nx δ') S0) (PF K Z B W E)) (r : RelE K B m0 H0 δ' σ') : E.nx σ' H0 := (FinG.ret (J.here h)).now J.t0 σ' r
theorem fin_ret (a : Fl) (t : At K B m S H) (h : FinG K Z B m H NX (M.ret a S) (PF K Z B W E)) : PF K Z B W E a S m H := h m H Le.refl t
/-- what is behind a loop's body -/
def loopK (go : Ev → M Fl) : Fl → M Fl
  | .nx σ' => go σ'
  | .ct σ' => go σ'
  | .bk σ' => M.ret (.nx σ')
  | .rt d => M.ret (.rt d)
  | .xc c as σ' => M.ret (.xc c as σ')
/-- a loop's body, then on -/
theorem body_part {f go : Ev → M Fl} {N : L2.St → Hp → Prop} (t : At K B m S H) (e : RelE K B m H δ σ) (h : FinG K Z B m H NX (M.bind (f δ) (loopK go) S) (PF K Z B W E))
    (hN : ∀ δ' σ' S1 m1 H1, Le m m1 H H1 → At K B m1 S1 H1 → RelE K B m1 H1 δ' σ' → FinG K Z B m1 H1 NX (go δ' S1) (PF K Z B W E) → N σ' H1) : Tk K Z W f { E with nx := N, ct := N, bk := E.nx } σ H := by
  refine ⟨B, m, S, δ, t, e, FinG.part t h fun o S1 m1 H1 l t1 h1 => ?_⟩
  cases o with
  | nx δ' => exact fun σ' r => hN δ' σ' S1 m1 H1 l t1 r h1
  | ct δ' => exact fun σ' r => hN δ' σ' S1 m1 H1 l t1 r h1
  | bk δ' => exact fin_ret (Z := Z) (W := W) (E := E) (.nx δ') t1 h1
  | rt d => exact fin_ret (Z := Z) (W := W) (E := E) (.rt d) t1 h1
  | xc c as δ' => exact fin_ret (Z := Z) (W := W) (E := E) (.xc c as δ') t1 h1
end
section
variable {X : Cx} {Z : Xt} {C : Cf} {W : WX} {a b c e : Expr} {es : List Expr} {ia ib ic ie ies : IE} {sa sb : IS} {st : Stmt} {rest : List Stmt} {pos : Pos}
theorem ss_nil : PSs X [] (Ss X.K Z C W .skip) := pss_nil.imp' fun E σ H ⟨B, m, S, δ, t, e, h⟩ => (Mid.start t e).nx h e
theorem ss_cons (h1 : PS X st (Ss X.K Z C W sa)) (h2 : PSs X rest (Ss X.K Z C W sb)) : PSs X (st :: rest) (Ss X.K Z C W (.seq sa sb)) :=
  (pss_cons h1 h2).imp' fun E σ H ⟨B, m, S, δ, t, e, h⟩ => by
    refine ⟨B, m, S, δ, t, e, FinG.part t (show FinG X.K Z B m H NX (M.bind (exS C sa δ) (fun o => match o with
      | .nx σ' => exS C sb σ'
      | o => M.ret o) S) (PF X.K Z B W E) from h) fun o S1 m1 H1 l t1 h1 => ?_⟩
    cases o with
    | nx δ' => exact fun σ' r => ⟨B, m1, S1, δ', t1, r, h1⟩
    | ct δ' => exact fin_ret (Z := Z) (W := W) (E := E) (.ct δ') t1 h1
    | bk δ' => exact fin_ret (Z := Z) (W := W) (E := E) (.bk δ') t1 h1
    | rt d => exact fin_ret (Z := Z) (W := W) (E := E) (.rt d) t1 h1
    | xc c as δ' => exact fin_ret (Z := Z) (W := W) (E := E) (.xc c as δ') t1 h1
theorem ss_pass : PS X (.Pass pos) (Ss X.K Z C W .skip) := ps_pass.imp' fun E σ H ⟨B, m, S, δ, t, e, h⟩ => (Mid.start t e).nx h e
theorem ss_brk : PS X (.Break pos) (Ss X.K Z C W .brk) := ps_break.imp' fun E σ H ⟨B, m, S, δ, t, e, h⟩ => fin_ret (Z := Z) (W := W) (E := E) (.bk δ) t h σ e
theorem ss_cnt : PS X (.Continue pos) (Ss X.K Z C W .cnt) := ps_continue.imp' fun E σ H ⟨B, m, S, δ, t, e, h⟩ => fin_ret (Z := Z) (W := W) (E := E) (.ct δ) t h σ e
theorem ss_retN : PS X (.Return none pos) (Ss X.K Z C W .retN) := ps_retN.imp' fun E σ H ⟨B, m, S, δ, t, e, h⟩ => fin_ret (Z := Z) (W := W) (E := E) (.rt .non) t h .non .non
theorem ss_ret (he : PE X e (Te X.K Z C W ie)) : PS X (.Return (some e) pos) (Ss X.K Z C W (.ret ie)) :=
  (ps_ret he).imp' fun E σ H ⟨B, m, S, δ, t, e, h⟩ => (Mid.start t e).sE h fun v d S1 m1 H1 M1 r l h1 => (FinG.ret (M1.here (show FinG X.K Z B m H NX (M.ret (.rt d) S1) (PF X.K Z B W E) from h1))).now M1.t0 v r
/-- not a comprehension -/
def notComp : Expr → Bool
  | .ListComp .. => false
  | .SetComp .. => false
  | .DictComp .. => false
  | _ => true
theorem sw_plain {tg : Option Expr} {l : Nat} {env : Env} (h : notComp e = true) : swapsWith e tg l env = pure false := by
  cases e <;> first | rfl | exact absurd h Bool.false_ne_true
/-- a target that is no name: nothing is exchanged -/
theorem sw_tup {ts : List Expr} {k l : Nat} {p : Pos} {env : Env} : swapsWith e (some (.Tuple ts k p)) l env = pure false := by cases e <;> rfl
theorem sw_sub {p : Pos} {l : Nat} {env : Env} : swapsWith e (some (.Subscript a b p)) l env = pure false := by cases e <;> rfl
theorem so_tup {ts : List Expr} {k l : Nat} {p : Pos} {env : Env} : swapsWithSole [.Tuple ts k p] e l env = pure false := (sw_tup : swapsWith e (some (.Tuple ts k p)) l env = pure false)
theorem so_sub {p : Pos} {l : Nat} {env : Env} : swapsWithSole [.Subscript a b p] e l env = pure false := (sw_sub : swapsWith e (some (.Subscript a b p)) l env = pure false)
def notTup : Expr → Bool
  | .Tuple .. => false
  | _ => true
theorem st_plain {tg : Expr} {env : Env} (h : notTup e = true) : swappedStores [tg] e env = pure none := by
  unfold swappedStores
  cases e <;> first | exact absurd h Bool.false_ne_true | (cases tg <;> rfl)
theorem st_sub {p : Pos} {env : Env} : swappedStores [.Subscript a b p] e env = pure none := by
  unfold swappedStores
  cases e <;> rfl
theorem ss_ex (hc : notComp e = true) (he : PE X e (Te X.K Z C W ie)) : PS X (.Expr e pos) (Ss X.K Z C W (.ex ie)) :=
  (ps_expr he (sw_plain hc)).imp' fun E σ H ⟨B, m, S, δ, t, e, h⟩ => (Mid.start t e).sE h fun v d S1 m1 H1 M1 r l h1 => M1.nx h1 M1.e
theorem set_step {i : Nat} {E : Ends} {σ : L2.St} {H : Hp} (h : Ss X.K Z C W (.set i ie) E σ H) : tAsg (Te X.K Z C W ie) (gName i) E σ H := by
  obtain ⟨B, m, S, δ, t, e, h⟩ := h
  exact (Mid.start t e).sE h fun v d S1 m1 H1 M1 r l h1 => M1.nx h1 (M1.e.set r i)
theorem ss_set {i : Nat} {x : Str} {p : Pos} (hN : X.N.Nodup) (hi : X.N[i]? = some x) (hx : Loc X.env.scope x) (hf : X.fn x = true ∨ X.env.scope.names.lookup x = some .local) (hc : notComp e = true) (he : PE X e (Te X.K Z C W ie)) :
    PS X (.Assign [.Name x p] e pos) (Ss X.K Z C W (.set i ie)) := (ps_set hN hi hx he (sw_plain hc) hf).imp' fun E σ H h => set_step h
/-- name = [..] -/
theorem ss_setC {i : Nat} {y : Str} {py : Pos} {elt tg iter : Expr} {ifs : List Expr} {scope : Scope} {own : List (Str × Nat)} {vs : List Nat} {p : Pat} {it c e : IE} {pos spos : Pos} (hN : X.N.Nodup) (hy : X.N[i]? = some y) (hyl : X.env.scope.names.lookup y = some .local)
    (hk : X.env.scope.kind = .function) (hl : (py.line == pos.line) = true) (hn : (scope.names.any fun (n, k) => n == y && (k == .local || k == .cell)) = false) (hc : X.calm = true) (hi : PI X tg iter (Ti X.K Z C W it)) (ok : BlkOk X.N X.env.scope scope own)
    (hg : ∀ (s : Shared) (H : Hp) (Cc : Addr) (cl : List (Str × Addr)) (fp : List Addr), PG (X.blk s H scope (compEnvC scope cl Cc X.env) fp) tg (Tg X.K p))
    (ht : ∀ (s : Shared) (H : Hp) (Cc : Addr) (cl : List (Str × Addr)) (fp : List Addr), PTs (X.blk s H scope (compEnvC scope cl Cc X.env) fp) ifs (Tc X.K Z C Wf c))
    (he : ∀ (s : Shared) (H : Hp) (Cc : Addr) (cl : List (Str × Addr)) (fp : List Addr), PE (X.blk s H scope (compEnvC scope cl Cc X.env) fp) elt (Te X.K Z C Wf e))
    (hs : ∀ x, foldedSetIterable iter X.env x = pure x) (hp : ∀ i ∈ patS p, i ∈ vs) (hv : List.map (fun x => x.2) own = vs) (hst : ∀ σ H Q, Te X.K Z C W ie σ H Q → Te X.K Z C W (.comp vs p it c e) σ H Q) :
    PS X (.Assign [.Name y py] (.ListComp elt [⟨tg, iter, ifs, 0⟩] scope pos) spos) (Ss X.K Z C W (.set i ie)) := by
  have h0 := ps_setLc (spos := spos) hc hN hy hyl (sw_true (elt := elt) (gs := [⟨tg, iter, ifs, 0⟩]) (l := spos.line) hk hyl hl hn) hi ok hg ht he hs
  rw [hv] at h0
  exact h0.imp' fun E σ H h => comp_step hp (hst _ _ _ (set_step h))
theorem ss_setP {xs : List (Str × Pos)} {is : List Nat} {k : Nat} {p : Pos} (hc : X.calm = true) (hN : X.N.Nodup) (hl : xs.length = is.length) (h : ∀ q ∈ is.zip xs, X.N[q.1]? = some q.2.1 ∧ Loc X.env.scope q.2.1 ∧ (X.fn q.2.1 = true ∨ X.env.scope.names.lookup q.2.1 = some .local))
    (he : PE X e (Te X.K Z C W ie)) (hw : swappedStores [.Tuple (nmEs xs) k p] e X.env = pure none) : PS X (.Assign [.Tuple (nmEs xs) k p] e pos) (Ss X.K Z C W (.setP is ie)) :=
  (ps_asg he (g_tup hc hN hl h) so_tup hw rfl).imp' fun E σ H ⟨B, m, S, δ, t, e, h⟩ => by
    refine (Mid.start t e).sE h fun v d S1 m1 H1 M1 r l h1 => ?_
    have h1 : FinG X.K Z B m H NX (match patE (.tp is) d S1 δ with
      | some σ' => M.ret (.nx σ') S1
      | none => .bad) (PF X.K Z B W E) := h1
    cases q : patE (.tp is) d S1 δ with
    | none => rw [q] at h1; exact False.elim h1
    | some δ' =>
      rw [q] at h1
      exact ⟨B, m1, S1, δ, d, δ', M1.t0, M1.e, r, q, fun σ' r' _ => M1.nx h1 r'⟩
theorem ss_setQ {ts : List Expr} {k : Nat} {tp : Pos} {q : Pat} (he : PE X e (Te X.K Z C W ie)) (hg : PG X (.Tuple ts k tp) (Tg X.K q)) (hw : swappedStores [.Tuple ts k tp] e X.env = pure none) : PS X (.Assign [.Tuple ts k tp] e pos) (Ss X.K Z C W (.setQ q ie)) :=
  (ps_asg he hg so_tup hw rfl).imp' fun E σ H ⟨B, m, S, δ, t, e, h⟩ => by
    refine (Mid.start t e).sE h fun v d S1 m1 H1 M1 r l h1 => ?_
    have h1 : FinG X.K Z B m H NX (match patE q d S1 δ with
      | some σ' => M.ret (.nx σ') S1
      | none => .bad) (PF X.K Z B W E) := h1
    cases q1 : patE q d S1 δ with
    | none => rw [q1] at h1; exact False.elim h1
    | some δ' =>
      rw [q1] at h1
      exact ⟨B, m1, S1, δ, d, δ', M1.t0, M1.e, r, q1, fun σ' r' _ => M1.nx h1 r'⟩
theorem set2_of {i j : Nat} {ds : List D} {δ δ' : Ev} (h : setAll [i, j] ds δ = some δ') : ∃ x y, ds = [x, y] ∧ δ' = (δ.set i (some x)).set j (some y) := by
  match ds, h with
  | [x, y], h => exact ⟨x, y, rfl, (Option.some.inj h).symm⟩
theorem set3_of {i j l : Nat} {ds : List D} {δ δ' : Ev} (h : setAll [i, j, l] ds δ = some δ') : ∃ x y z, ds = [x, y, z] ∧ δ' = ((δ.set i (some x)).set j (some y)).set l (some z) := by
  match ds, h with
  | [x, y, z], h => exact ⟨x, y, z, rfl, (Option.some.inj h).symm⟩
theorem ss_par2 {i j : Nat} {x y : Str} {px py pt pt2 : Pos} {kt k2 : Nat} (hc : X.calm = true) (hN : X.N.Nodup) (hi : X.N[i]? = some x) (hj : X.N[j]? = some y) (hij : i ≠ j)
    (hx : X.env.scope.names.lookup x = some .local) (hy : X.env.scope.names.lookup y = some .local) (ha : PA X [a, b] (Ta X.K Z C W ies))
    (hw : swappedStores [.Tuple [.Name x px, .Name y py] kt pt] (.Tuple [a, b] k2 pt2) X.env = pure (some [x, y])) :
    PS X (.Assign [.Tuple [.Name x px, .Name y py] kt pt] (.Tuple [a, b] k2 pt2) pos) (Ss X.K Z C W (.par [i, j] ies)) :=
  (ps_par hc hN hi hj hij hx hy ha hw so_tup).imp' fun E σ H ⟨B, m, S, δ, t, e, h⟩ => by
    refine (Mid.start t e).sA h fun vs ds S1 m1 H1 M1 r h1 => ?_
    have h1 : FinG X.K Z B m H NX (match setAll [i, j] ds δ with
      | some σ' => M.ret (.nx σ') S1
      | none => .bad) (PF X.K Z B W E) := h1
    cases q : setAll [i, j] ds δ with
    | none => rw [q] at h1; exact False.elim h1
    | some δ' =>
      rw [q] at h1
      obtain ⟨x, y, rfl, rfl⟩ := set2_of q
      cases r with
      | cons r1 r =>
        cases r with
        | cons r2 r =>
          cases r
          exact ⟨_, _, rfl, M1.nx h1 ((M1.e.set r1 i).set r2 j)⟩
theorem ss_par3 {i j l : Nat} {x y z : Str} {px py pz pt pt2 : Pos} {kt k2 : Nat} (hc : X.calm = true) (hN : X.N.Nodup) (hi : X.N[i]? = some x) (hj : X.N[j]? = some y) (hl : X.N[l]? = some z) (hij : i ≠ j) (hil : i ≠ l) (hjl : j ≠ l)
    (hx : X.env.scope.names.lookup x = some .local) (hy : X.env.scope.names.lookup y = some .local) (hz : X.env.scope.names.lookup z = some .local) (ha : PA X [a, b, c] (Ta X.K Z C W ies))
    (hw : swappedStores [.Tuple [.Name x px, .Name y py, .Name z pz] kt pt] (.Tuple [a, b, c] k2 pt2) X.env = pure (some [x, y, z])) :
    PS X (.Assign [.Tuple [.Name x px, .Name y py, .Name z pz] kt pt] (.Tuple [a, b, c] k2 pt2) pos) (Ss X.K Z C W (.par [i, j, l] ies)) :=
  (ps_par3 hc hN hi hj hl hij hil hjl hx hy hz ha hw so_tup).imp' fun E σ H ⟨B, m, S, δ, t, e, h⟩ => by
    refine (Mid.start t e).sA h fun vs ds S1 m1 H1 M1 r h1 => ?_
    have h1 : FinG X.K Z B m H NX (match setAll [i, j, l] ds δ with
      | some σ' => M.ret (.nx σ') S1
      | none => .bad) (PF X.K Z B W E) := h1
    cases q : setAll [i, j, l] ds δ with
    | none => rw [q] at h1; exact False.elim h1
    | some δ' =>
      rw [q] at h1
      obtain ⟨x, y, z, rfl, rfl⟩ := set3_of q
      cases r with
      | cons r1 r =>
        cases r with
        | cons r2 r =>
          cases r with
          | cons r3 r =>
            cases r
            exact ⟨_, _, _, rfl, M1.nx h1 (((M1.e.set r1 i).set r2 j).set r3 l)⟩
theorem putD_of {S S' : Store} {x i v : D} (h : putD S x i v = some S') : ∃ n k ys j, x = .cell n ∧ i = .int k ∧ S[n]? = some (.lst ys) ∧ ixN ys.length k = some j ∧ S' = S.set n (.lst (ys.set j v)) := by
  unfold putD at h
  split at h
  · rename_i n k
    cases e : S[n]? with
    | none => rw [e] at h; cases h
    | some c =>
      cases c with
      | lst ys =>
        rw [e] at h
        simp only at h
        refine ⟨n, k, ys, ?_⟩
        by_cases h0 : k < 0
        · rw [if_pos h0] at h
          by_cases h1 : 0 ≤ k + ys.length
          · rw [if_pos h1] at h
            refine ⟨(k + ys.length).toNat, rfl, rfl, e, ?_, (Option.some.inj h).symm⟩
            unfold ixN
            rw [if_neg (by omega), if_pos (by omega)]
          · rw [if_neg h1] at h; cases h
        · rw [if_neg h0] at h
          by_cases h1 : k < ys.length
          · rw [if_pos h1] at h
            refine ⟨k.toNat, rfl, rfl, e, ?_, (Option.some.inj h).symm⟩
            unfold ixN
            rw [if_pos (by omega), if_pos h1]
          · rw [if_neg h1] at h; cases h
  · cases h
theorem ss_put {p : Pos} (hb : PlainIx b) (ha : PE X a (Te X.K Z C W ia)) (hi : PE X b (Te X.K Z C W ib)) (he : PE X e (Te X.K Z C W ie))
    (hs : ∀ v, assign (.Subscript a b p) X.env v = (do
      let ov ← holding [v] (eval a X.env)
      let iv ← holding [v, ov] (eval b X.env)
      standAt p
      holding [v, ov, iv] (setItem ov iv v)
      release [v, ov, iv] [])) : PS X (.Assign [.Subscript a b p] e pos) (Ss X.K Z C W (.put ia ib ie)) :=
  (ps_asg he (pg_sub ha hi set_list hs) so_sub st_sub rfl).imp' fun E σ H ⟨B, m, S, δ, t, e, h⟩ => by
    refine (Mid.start t e).sE h fun v d S1 m1 H1 M1 r1 l1 h1 => ?_
    refine M1.sE h1 fun o d2 S2 m2 H2 M2 r2 l2 h2 => ?_
    refine M2.sE h2 fun i d3 S3 m3 H3 M3 r3 l3 h3 => ?_
    have h3 : FinG X.K Z B m H NX (liftE (putM d2 d3 d) δ (fun _ => M.ret (.nx δ)) S3) (PF X.K Z B W E) := h3
    unfold liftE putM at h3
    cases q : putD S3 d2 d3 d with
    | none => simp only [q] at h3; exact False.elim h3
    | some S4 =>
      simp only [q] at h3
      obtain ⟨n, k, ys, j, rfl, rfl, e1, e2, rfl⟩ := putD_of q
      have r2' := M2.val l3 r2
      obtain ⟨a1, rfl, ha1⟩ := r2'.cell_of
      obtain ⟨us, hu, ru⟩ := M3.t0.cells n _ a1 e1 ha1
      have rv := M2.val l3 (M1.val l2 r1)
      refine ⟨a1, us, k, j, rfl, r3.int_of, hu, by rw [← ru.len]; exact e2, ?_⟩
      have t4 := M3.t0.put ha1 (ru.setAt j rv)
      have l4 := Le.put M3.t0 (o := .lst (us.set j v)) ha1
      exact (M3.go l4 t4).nx h3 (M3.e.tr (l4.tr M3.t0))
theorem ss_if (hc : PT X c (Tb X.K Z C W ic)) {p q : List Stmt} (ha : PSs X p (Ss X.K Z C W sa)) (hb : PSs X q (Ss X.K Z C W sb)) : PS X (.If c p q pos) (Ss X.K Z C W (.ite ic sa sb)) :=
  (ps_if hc ha hb).imp' fun E σ H ⟨B, m, S, δ, t, e, h⟩ => by
    refine (Mid.start t e).sT h fun k S1 m1 H1 M1 h1 => ?_
    cases k with
    | true => exact M1.tailS h1
    | false => exact M1.tailS h1
theorem augAdd {K : Fg} {B m : List Addr} {H : Hp} {x y d : D} {u w : V} {S S' : Store} {o : Bo} (h : augM o x y S = .ok d S') (r1 : RelD K B m H x u) (r2 : RelD K B m H y w) : S' = S ∧ ∃ i j, u = .int i ∧ w = .int j ∧ ((o = .add ∧ d = .int (i + j)) ∨ (o = .sub ∧ d = .int (i - j))) := by
  unfold augM at h
  split at h
  · cases h; exact ⟨rfl, _, _, r1.int_of, r2.int_of, .inl ⟨rfl, rfl⟩⟩
  · cases h; exact ⟨rfl, _, _, r1.int_of, r2.int_of, .inr ⟨rfl, rfl⟩⟩
  · cases h
theorem ip_of {o : Bo} (h : o = .add ∨ o = .sub) : PIp X (boOf o) (ipI fun i j => if o = .add then i + j else i - j) := by
  rcases h with rfl | rfl
  · exact ip_add
  · exact ip_sub
theorem ss_aug {o : Bo} {i : Nat} {x : Str} {p : Pos} (ho : o = .add ∨ o = .sub) (hN : X.N.Nodup) (hi : X.N[i]? = some x) (hx : Loc X.env.scope x) (hf : X.fn x = true ∨ X.env.scope.names.lookup x = some .local) (he : PE X e (Te X.K Z C W ie)) :
    PS X (.AugAssign (.Name x p) (boOf o) e pos) (Ss X.K Z C W (.aug o i ie)) :=
  (ps_aug hN hi hx he (ip_of ho) hf).imp' fun E σ H ⟨B, m, S, δ, t, e, h⟩ => by
    have h : FinG X.K Z B m H NX (liftE (M.opt (δ[i]?.join)) δ (fun x => liftE (evE C ie δ) δ fun y => liftE (augM o x y) δ fun z => M.ret (.nx (δ.set i (some z)))) S) (PF X.K Z B W E) := h
    unfold liftE M.opt at h
    cases q : δ[i]?.join with
    | none => simp only [q] at h; exact False.elim h
    | some d =>
      simp only [q] at h
      obtain ⟨v, hv, rv⟩ := e.2 i d (join_some q)
      refine ⟨v, hv, (Mid.start t e).sE (show FinG X.K Z B m H NX (liftE (evE C ie δ) δ (fun y => liftE (augM o d y) δ fun z => M.ret (.nx (δ.set i (some z)))) S) (PF X.K Z B W E) from h) fun u d2 S1 m1 H1 M1 r1 l1 h1 => ?_⟩
      have rv1 := rv.tr (l1.tr t)
      unfold liftE at h1
      cases q1 : augM o d d2 S1 with
      | bad => simp only [q1] at h1; exact False.elim h1
      | exc _ _ _ => unfold augM at q1; split at q1 <;> cases q1
      | ok d3 S3 =>
        simp only [q1] at h1
        obtain ⟨rfl, a1, a2, rfl, rfl, hz⟩ := augAdd q1 rv1 r1
        refine ⟨a1, a2, rfl, rfl, ?_⟩
        rcases hz with ⟨rfl, rfl⟩ | ⟨rfl, rfl⟩
        · exact M1.nx h1 (M1.e.set (.int _) i)
        · exact M1.nx h1 (M1.e.set (.int _) i)
/-! ### loops -/
theorem ss_while {body : List Stmt} (hp : PassesOwn (model X.prog X.w) X.A X.env X.xe) (hc : PT X c (Tb X.K Z C W ic)) (hb : PSs X body (Ss X.K Z C W sb)) : PS X (.While c body [] pos) (Ss X.K Z C W (.whl ic sb)) :=
  (ps_while hp hc hb).imp' fun E σ H ⟨B, m, S, δ, t, e, h⟩ => by
    refine ⟨fun k σ H => ∃ m S δ, At X.K B m S H ∧ RelE X.K B m H δ σ ∧ FinG X.K Z B m H NX (whlN (fun σ => evT C ic σ) (fun σ => exS C sb σ) k δ S) (PF X.K Z B W E), ⟨C.fuel, m, S, δ, t, e, h⟩, ?_⟩
    rintro k σ H ⟨m, S, δ, t, e, h⟩
    cases k with
    | zero => exact False.elim h
    | succ k =>
      refine (Mid.start t e).sT (show FinG X.K Z B m H NX (liftE (evT C ic δ) δ (fun t => if t then M.bind (exS C sb δ) fun o => match o with
        | .nx σ' => whlN (fun σ => evT C ic σ) (fun σ => exS C sb σ) k σ'
        | .ct σ' => whlN (fun σ => evT C ic σ) (fun σ => exS C sb σ) k σ'
        | .bk σ' => M.ret (.nx σ')
        | .rt d => M.ret (.rt d)
        | .xc c as σ' => M.ret (.xc c as σ')
      else M.ret (.nx δ)) S) (PF X.K Z B W E) from h) fun b S1 m1 H1 M1 h1 => ?_
      cases b with
      | false => exact M1.nx h1 M1.e
      | true =>
        rw [if_pos rfl]
        refine ⟨fun σ' H' => ∃ m S δ, At X.K B m S H' ∧ RelE X.K B m H' δ σ' ∧ FinG X.K Z B m H' NX (whlN (fun σ => evT C ic σ) (fun σ => exS C sb σ) k δ S) (PF X.K Z B W E), fun σ' H' q => ⟨k, Nat.lt_succ_self k, q⟩, ?_⟩
        refine body_part (go := fun σ' => whlN (fun σ => evT C ic σ) (fun σ => exS C sb σ) k σ') M1.t0 M1.e ?_ fun δ' σ' S2 m2 H2 l2 t2 r2 h2 => ⟨m2, S2, δ', t2, r2, h2⟩
        have e0 : loopK (fun σ' => whlN (fun σ => evT C ic σ) (fun σ => exS C sb σ) k σ') = fun o => match o with
          | .nx σ' => whlN (fun σ => evT C ic σ) (fun σ => exS C sb σ) k σ'
          | .ct σ' => whlN (fun σ => evT C ic σ) (fun σ => exS C sb σ) k σ'
          | .bk σ' => M.ret (.nx σ')
          | .rt d => M.ret (.rt d)
          | .xc c as σ' => M.ret (.xc c as σ') := by funext o; cases o <;> rfl
        rw [e0]
        exact M1.here h1
/-- an item taken, then the body -/
theorem item_part {B m : List Addr} {S : Store} {H H1 : Hp} {p : Pat} {f go : Ev → M Fl} {N : L2.St → Hp → Prop} {δ : Ev} {σ : L2.St} {x : D} {v : V} {E : Ends} (t : At X.K B m S H) (e : RelE X.K B m H δ σ) (h : FinG X.K Z B m H NX (M.bind (patB p f x δ) (loopK go) S) (PF X.K Z B W E))
    (l : Le m m H H1) (t1 : At X.K B m S H1) (rx : RelD X.K B m H1 x v)
    (hN : ∀ δ' σ' S1 m1 H2, Le m m1 H1 H2 → At X.K B m1 S1 H2 → RelE X.K B m1 H2 δ' σ' → FinG X.K Z B m1 H2 NX (go δ' S1) (PF X.K Z B W E) → N σ' H2) :
    Tg X.K p v σ H1 fun σ2 H2 => Tk X.K Z W f { E with nx := N, ct := N, bk := E.nx } σ2 H2 := by
  unfold M.bind patB at h
  cases q : patE p x S δ with
  | none => simp only [q] at h; exact False.elim h
  | some δ2 =>
    simp only [q] at h
    refine ⟨B, m, S, δ, x, δ2, t1, e.tr (l.tr t), rx, q, fun σ' r' _ => ?_⟩
    exact body_part (go := go) t1 r' (FinG.rebase t t1 l (show FinG X.K Z B m H NX (M.bind (f δ2) (loopK go) S) (PF X.K Z B W E) from h)) hN
theorem ss_for {tg iter : Expr} {body : List Stmt} {p : Pat} {it : IE} (hp : PassesOwn (model X.prog X.w) X.A X.env X.xe) (hc : X.calm = true) (hi : PI X tg iter (Ti X.K Z C W it)) (hg : PG X tg (Tg X.K p)) (hb : PSs X body (Ss X.K Z C W sb))
    (hs : ∀ x, foldedSetIterable iter X.env x = pure x) : PS X (.For tg iter body [] pos) (Ss X.K Z C W (.for p it sb)) :=
  (ps_for hp hc hi hg hb hs).imp' fun E σ H ⟨B, m, S, δ, t, e, h⟩ => by
    refine ⟨B, m, S, δ, t, e, (Mid.start t e).lift h fun s S1 m1 H1 l1 t1 h1 => ?_⟩
    have M1 := (Mid.start t e).go l1 t1
    have h1 := M1.here h1
    cases s with
    | xs xs =>
      intro J hJ
      refine ⟨fun i k σ' H' => k = xs.length - i ∧ i ≤ xs.length ∧ ∃ m' S' δ', At X.K B m' S' H' ∧ RelE X.K B m' H' δ' σ' ∧ Le m1 m' H1 H' ∧ FinG X.K Z B m' H' NX (forL (patB p fun σ' => exS C sb σ') (xs.drop i) δ' S') (PF X.K Z B W E),
        ⟨xs.length, by simp, Nat.zero_le _, m1, S1, δ, t1, M1.e, Le.refl, h1⟩, ?_⟩
      rintro i k σ' H' ⟨rfl, hi2, m', S', δ', t', e', l', h'⟩
      have jw := hJ B m' S' H' (l'.tr t1) t' i
      by_cases hlt : i < xs.length
      · have hx : xs[i]? = some xs[i] := List.getElem?_eq_getElem hlt
        obtain ⟨go, yl⟩ := jw.1 _ hx
        refine .inr ⟨go, fun σ2 H2 => ∃ m2 S2 δ2, At X.K B m2 S2 H2 ∧ RelE X.K B m2 H2 δ2 σ2 ∧ Le m1 m2 H1 H2 ∧ FinG X.K Z B m2 H2 NX (forL (patB p fun σ' => exS C sb σ') (xs.drop (i + 1)) δ2 S2) (PF X.K Z B W E),
          fun σ2 H2 q => ⟨xs.length - (i + 1), by omega, rfl, hlt, q⟩, fun v H2 hyl => ?_⟩
        obtain ⟨l2, t2, rx⟩ := yl v H2 hyl
        refine item_part (go := fun σ' => forL (patB p fun σ' => exS C sb σ') (xs.drop (i + 1)) σ') t' e' ?_ l2 t2 rx fun δ3 σ3 S3 m3 H3 l3 t3 r3 h3 => ⟨m3, S3, δ3, t3, r3, Le.trans t1 t' l' (Le.trans t' t2 l2 l3), h3⟩
        rw [List.drop_eq_getElem_cons hlt] at h'
        have e0 : loopK (fun σ' => forL (patB p fun σ' => exS C sb σ') (xs.drop (i + 1)) σ') = fun o => match o with
          | .nx σ' => forL (patB p fun σ' => exS C sb σ') (xs.drop (i + 1)) σ'
          | .ct σ' => forL (patB p fun σ' => exS C sb σ') (xs.drop (i + 1)) σ'
          | .bk σ' => M.ret (.nx σ')
          | .rt d => M.ret (.rt d)
          | .xc c as σ' => M.ret (.xc c as σ') := by funext o; cases o <;> rfl
        rw [e0]
        exact h'
      · rw [List.drop_eq_nil_of_le (by omega)] at h'
        exact .inl ⟨jw.2 (List.getElem?_eq_none (by omega)), (Mid.start t' e').nx h' e'⟩
    | cl n =>
      intro a ha
      refine ⟨fun i k σ' H' => ∃ m' S' δ', At X.K B m' S' H' ∧ RelE X.K B m' H' δ' σ' ∧ Le m1 m' H1 H' ∧ FinG X.K Z B m' H' NX (forN (patB p fun σ' => exS C sb σ') n k i δ' S') (PF X.K Z B W E),
        ⟨C.fuel, m1, S1, δ, t1, M1.e, Le.refl, h1⟩, ?_⟩
      rintro i k σ' H' ⟨m', S', δ', t', e', l', h'⟩
      cases k with
      | zero => exact False.elim h'
      | succ k =>
        have ha' : m'[n]? = some a := (l'.tr t1).cell n a ha
        cases q : lstOf S' (.cell n) with
        | none => unfold forN at h'; simp only [q] at h'; exact False.elim h'
        | some ys =>
          have jc := jc_at t' ha' q i
          cases q2 : ys[i]? with
          | none =>
            unfold forN at h'
            simp only [q, q2] at h'
            exact .inl ⟨jc.2 q2, (Mid.start t' e').nx h' e'⟩
          | some x =>
            obtain ⟨go, yl⟩ := jc.1 x q2
            refine .inr ⟨go, fun σ2 H2 => ∃ m2 S2 δ2, At X.K B m2 S2 H2 ∧ RelE X.K B m2 H2 δ2 σ2 ∧ Le m1 m2 H1 H2 ∧ FinG X.K Z B m2 H2 NX (forN (patB p fun σ' => exS C sb σ') n k (i + 1) δ2 S2) (PF X.K Z B W E),
              fun σ2 H2 q => ⟨k, Nat.lt_succ_self k, q⟩, fun v H2 hyl => ?_⟩
            obtain ⟨rfl, rx⟩ := yl v H2 hyl
            refine item_part (go := fun σ' => forN (patB p fun σ' => exS C sb σ') n k (i + 1) σ') t' e' ?_ Le.refl t' rx fun δ3 σ3 S3 m3 H3 l3 t3 r3 h3 => ⟨m3, S3, δ3, t3, r3, Le.trans t1 t' l' l3, h3⟩
            unfold forN at h'
            simp only [q, q2] at h'
            have e0 : loopK (fun σ' => forN (patB p fun σ' => exS C sb σ') n k (i + 1) σ') = fun o => match o with
              | .nx σ' => forN (patB p fun σ' => exS C sb σ') n k (i + 1) σ'
              | .ct σ' => forN (patB p fun σ' => exS C sb σ') n k (i + 1) σ'
              | .bk σ' => M.ret (.nx σ')
              | .rt d => M.ret (.rt d)
              | .xc c as σ' => M.ret (.xc c as σ') := by funext o; cases o <;> rfl
            rw [e0]
            exact h'
end
end Fb
set_option Elab.async false
set_option linter.all false
set_option maxRecDepth 100000
set_option maxHeartbeats 1000000
/-! Fx4: raise, try, x[i] op= y as the evaluator has them. -/
namespace Fb
open PySem PySem.Spec PyProof.Rows L2
section
variable {X : Cx} {Z : Xt} {C : Cf} {W : WX} {a b e : Expr} {es : List Expr} {ia ib ie ies : IE} {pos : Pos}
/-! ### x[i] op= y -/
theorem pget_list : PGet X (rIxL X.K) := by
  intro pins s σ H x y v u Q I rx ry h
  obtain ⟨p, xs, i, z, rfl, rfl, hq, he, q⟩ := h
  cases rx
  obtain ⟨t, rfl⟩ := ry
  obtain ⟨its, r, pl, hz⟩ := I.list hq
  obtain ⟨j, h1, h2, h3, h4, h5⟩ := atI_get he
  obtain ⟨w, ew, rw'⟩ := r.get h2
  have hl := r.length
  have hn := line63
  have fin : EP X pins σ Q w s := ⟨z, H, I, rw', q⟩
  by_cases h0 : 0 ≤ i
  · have hj : i.toNat = j := by
      rw [seqIndex_of h0 h5] at h1
      exact Option.some.inj h1
    exact wpAny_getItem_list pl.isList h0 (by omega) (by rw [hj]; simpa using ew) fin
  · have hj : (i + (its.toArray.size : Int)).toNat = j := by
      rw [seqIndex_neg (by omega) h4] at h1
      rw [List.size_toArray, ← hl]
      exact Option.some.inj h1
    exact wpAny_getItem_list_neg pl.isList (by omega) (by simp; omega) (by omega) (by rw [hj]; simpa using ew) fin
theorem cellIx_of {S : Store} {d d2 d3 : D} (q : cellIx S d d2 = some d3) : ∃ n i xs, d = .cell n ∧ d2 = .int i ∧ S[n]? = some (.lst xs) ∧ ixL xs i = some d3 := by
  unfold cellIx at q
  split at q
  · rename_i n i
    cases c : S[n]? with
    | none => rw [c] at q; cases q
    | some cl =>
      cases cl with
      | lst xs => rw [c] at q; exact ⟨n, i, xs, rfl, rfl, c, q⟩
  · cases q
theorem ss_augS {o : Bo} {p : Pos} (ho : o = .add ∨ o = .sub) (ha : PE X a (Te X.K Z C W ia)) (hi : PE X b (Te X.K Z C W ib)) (he : PE X e (Te X.K Z C W ie))
    (hst : ∀ ov iv new, augStore b ov iv new = (do holding [new, ov, iv] (setItem ov iv new); release [new, ov, iv] []; pure .next)) : PS X (.AugAssign (.Subscript a b p) (boOf o) e pos) (Ss X.K Z C W (.augS o ia ib ie)) :=
  (ps_augS ha hi pget_list he (ip_of ho) set_list hst).imp' fun E σ H ⟨B, m, S, δ, t, e, h⟩ => by
    refine (Mid.start t e).sE h fun x d S1 m1 H1 M1 r1 l1 h1 => ?_
    refine M1.sE h1 fun k d2 S2 m2 H2 M2 r2 l2 h2 => ?_
    have h2 : FinG X.K Z B m H NX ((fun S => match cellIx S d d2 with
      | some v => liftE (evE C ie δ) δ (fun y => liftE (augM o v y) δ fun z => liftE (putM d d2 z) δ fun _ => M.ret (.nx δ)) S
      | none => .bad : M Fl) S2) (PF X.K Z B W E) := h2
    dsimp only at h2
    cases q : cellIx S2 d d2 with
    | none => simp only [q] at h2; exact False.elim h2
    | some d3 =>
      simp only [q] at h2
      have r1' := M1.val l2 r1
      obtain ⟨n, i, xs, rfl, rfl, e1, e2⟩ := cellIx_of q
      obtain ⟨a1, rfl, ha1⟩ := r1'.cell_of
      obtain ⟨us, hu, ru⟩ := M2.t0.cells n _ a1 e1 ha1
      obtain ⟨v3, hv3, rv3⟩ := atI_rel ru e2
      refine ⟨a1, us, i, v3, rfl, r2.int_of, SqL.of hu, hv3, ?_⟩
      refine M2.sE h2 fun u d4 S4 m4 H4 M4 r4 l4 h4 => ?_
      have rv3' := M2.val l4 rv3
      unfold liftE at h4
      cases q1 : augM o d3 d4 S4 with
      | bad => simp only [q1] at h4; exact False.elim h4
      | exc _ _ _ => unfold augM at q1; split at q1 <;> cases q1
      | ok d5 S5 =>
        simp only [q1] at h4
        obtain ⟨rfl, i1, i2, rfl, rfl, hz⟩ := augAdd q1 rv3' r4
        refine ⟨i1, i2, rfl, rfl, ?_⟩
        have rz : RelD X.K B m4 H4 d5 (.int (if o = .add then i1 + i2 else i1 - i2)) := by
          rcases hz with ⟨rfl, rfl⟩ | ⟨rfl, rfl⟩
          · exact .int _
          · exact .int _
        have h4 : FinG X.K Z B m H NX (liftE (putM (.cell n) (.int i) d5) δ (fun _ => M.ret (.nx δ)) S5) (PF X.K Z B W E) := h4
        unfold liftE putM at h4
        cases q6 : putD S5 (.cell n) (.int i) d5 with
        | none => simp only [q6] at h4; exact False.elim h4
        | some S6 =>
          simp only [q6] at h4
          obtain ⟨n', k', ys, j, en, ek, e5, e6, rfl⟩ := putD_of q6
          cases en; cases ek
          have ha4 := (M2.val l4 r1').cell_of
          obtain ⟨a2, ea2, ha2⟩ := ha4
          cases ea2
          obtain ⟨us2, hu2, ru2⟩ := M4.t0.cells n _ a1 e5 ha2
          refine ⟨a1, us2, i, j, rfl, r2.int_of, hu2, by rw [← ru2.len]; exact e6, ?_⟩
          have t6 := M4.t0.put ha2 (ru2.setAt j rz)
          have l6 := Le.put M4.t0 (o := .lst (us2.set j (.int (if o = .add then i1 + i2 else i1 - i2)))) ha2
          exact (M4.go l6 t6).nx h4 (M4.e.tr (l6.tr M4.t0))
/-! ### raise -/
theorem flds_at : ∀ {fs : List Str} {vs : List V}, fs.Nodup → fs.length = vs.length → ∀ (i : Nat) (f : Str), fs[i]? = some f → (fldsOf fs vs).lookup f = vs[i]?
  | [], _, _, _, i, f, h => by simp at h
  | g :: fs, [], _, hl, _, _, _ => by cases hl
  | g :: fs, v :: vs, nd, hl, i, f, h => by
    have nd2 := List.nodup_cons.mp nd
    have e : fldsOf (g :: fs) (v :: vs) = fldsOf fs vs ++ [(g, v)] := by
      unfold fldsOf
      rw [List.zip_cons_cons, List.reverse_cons]
    rw [e, List.lookup_append]
    cases i with
    | zero =>
      cases h
      have hn : (fldsOf fs vs).lookup g = none := by
        cases q : (fldsOf fs vs).lookup g with
        | none => rfl
        | some u =>
          exfalso
          have hm := PySem.mem_of_lookup q
          unfold fldsOf at hm
          exact nd2.1 (List.of_mem_zip (List.mem_reverse.mp hm)).1
      rw [hn]
      simp [List.lookup]
    | succ i =>
      have h2 : fs[i]? = some f := by simpa using h
      have ih := flds_at nd2.2 (by simpa using hl) i f h2
      rw [ih, List.getElem?_cons_succ]
      obtain ⟨v', hv'⟩ : ∃ v', vs[i]? = some v' := by
        have hlt := (List.getElem?_eq_some_iff.mp h2).1
        have hl2 : fs.length = vs.length := by simpa using hl
        exact ⟨vs[i], List.getElem?_eq_getElem (by omega)⟩
      rw [hv']
      rfl
/-- what is known of an exception class -/
structure XcH (X : Cx) (Z : Xt) (c : Nat) (d : XcD) : Prop where
  z : Z[c]? = some (He.ga X.K d.name, d.flds)
  ok : XcOk X.K X.prog d
  fn : ∃ fd, FnOk X.prog X.w X.K X.mg X.base (L2.CX X.prog X.w) 1 (He.ma X.K (He.ga X.K d.name) "__init__") fd d.ps (spX (He.ga X.K d.name) d.flds) ∧ Binds X.K fd d.ps []
  nd : d.flds.Nodup
  mg : X.mg d.name = some (.ref (He.ga X.K d.name))
  few : d.flds.length ≤ 20
theorem ss_rse {c : Nat} {d : XcD} {p p2 : Pos} (hc : X.calm = true) (tk : Takes X W) (xc : XcH X Z c d) (hr : 2 ≤ C.lv → Room 2 X.A) (hg : Gl X d.name) (ha : PA X (e :: es) (Ta X.K Z C W ies)) (hdb : (d.name == ("__debug__" : Str)) = false) (hs : noStars (e :: es) = true) :
    PS X (.Raise (some (.Call (.Name d.name p) (e :: es) [] pos)) none p2) (Ss X.K Z C W (.rse c d.flds.length ies)) := by
  have h2 := Bool.and_eq_true_iff.mp (show (notStar e && es.all notStar) = true from hs)
  obtain ⟨fd, F, hb⟩ := xc.fn
  refine ⟨fun pins s σ H E I q => ?_⟩
  obtain ⟨B, m, S, δ, t, e0, h⟩ := id q
  have hlv : 2 ≤ C.lv := by
    by_cases z : 2 ≤ C.lv
    · exact z
    · have h : FinG X.K Z B m H NX ((if 2 ≤ C.lv then liftE (evA C ies δ) δ (fun xs => if xs.length = d.flds.length then M.ret (.xc c xs δ) else M.bad) else M.bad : M Fl) S) (PF X.K Z B W E) := h
      rw [if_neg z] at h; exact False.elim h
  have noX : Passes (L2.CX X.prog X.w) X (fun _ _ _ => False) := fun pins σ H s e s' I ⟨_, _, _, _, _, _, _, _, _, _, _, _, z⟩ => z.elim
  have rule := ps_raise hc tk (pmk_oex (p := p) (pos := pos) xc.ok.ex xc.ok.ini xc.ok.ity F (hr hlv) hb .nil noX hg xc.mg ha hdb (star_cons h2.1) (plain_args h2.2)) (pos := p2)
  refine rule.run pins s σ H E I ?_
  have h : FinG X.K Z B m H NX ((if 2 ≤ C.lv then liftE (evA C ies δ) δ (fun xs => if xs.length = d.flds.length then M.ret (.xc c xs δ) else M.bad) else M.bad : M Fl) S) (PF X.K Z B W E) := h
  rw [if_pos hlv] at h
  refine (Mid.start t e0).sA h fun vs ds S1 m1 H1 M1 r1 h1 => ?_
  have h1 := M1.here h1
  by_cases hn : ds.length = d.flds.length
  · rw [if_pos hn] at h1
    have hl : vs.length = d.flds.length := by rw [← r1.len]; exact hn
    refine ⟨by have := xc.few; omega, fun a na => ?_⟩
    refine ⟨a, vs, by rw [List.append_nil], hl, upd_same, fun dx H' n ne g1 g2 g3 => ?_⟩
    have hne : H1 dx = none := by rw [upd_ne ne] at n; exact n
    refine ⟨rfl, dx, fldsOf d.flds vs, g1, g2, hne, ?_⟩
    have eH : upd (del H' a) dx (.xd (fldsOf d.flds vs)) = upd H1 dx (.xd (fldsOf d.flds vs)) := by
      funext b
      by_cases hb : b = dx
      · rw [hb, upd_same, upd_same]
      · rw [upd_ne hb, upd_ne hb]
        by_cases hba : b = a
        · rw [hba, del_same, na]
        · rw [del_ne hba, g3 b hba hb, upd_ne hba]
    rw [eH]
    have l3 := Le.new (o := .xd (fldsOf d.flds vs)) M1.t0 hne
    have t3 := M1.t0.new (o := .xd (fldsOf d.flds vs)) hne
    refine h1 m1 _ l3 t3 σ _ _ (M1.e.tr (l3.tr M1.t0)) ?_
    exact ⟨He.ga X.K d.name, d.flds, dx, fldsOf d.flds vs, vs, xc.z, rfl, rfl, upd_same, r1.tr (l3.tr M1.t0), hl.symm, fun i f hf => flds_at xc.nd hl.symm i f hf⟩
  · rw [if_neg hn] at h1; exact False.elim h1
end
/-! ### try -/
mutual
/-- the suites' expressions: a the caught error in the slot nm, cls its class, dd its dict -/
def tHE (Z : Xt) (a : Addr) (cls : Value) (dd : Option Addr) (nm : Option Nat) : HE → TE
  | .lit d => fun σ H Q => ∃ v, flatV' d = some v ∧ Q v H
  | .fld c k => fun σ H Q => ∃ i C fs f, nm = some i ∧ Z[c]? = some (C, fs) ∧ fs[k]? = some f ∧ tXf a cls dd C f (tVar i) σ H Q
  | .tup es => tTup (tHA Z a cls dd nm es)
  | _ => fun _ _ _ => False
def tHA (Z : Xt) (a : Addr) (cls : Value) (dd : Option Addr) (nm : Option Nat) : HE → TA
  | .nil => tNil
  | .cons x r => tCons (tHE Z a cls dd nm x) (tHA Z a cls dd nm r)
  | _ => fun _ _ _ => False
end
def fldsIn : HE → Bool
  | .fld _ _ => true
  | .tup es => fldsIn es
  | .cons a r => fldsIn a || fldsIn r
  | _ => false
section
variable {K : Fg} {Z : Xt} {B m : List Addr} {S : Store} {c : Nat} {as : List D} {cls : Value} {dd : Option Addr} {a : Addr} {nm : Option Nat} {σ : L2.St}
theorem At.xd (t : At K B m S H) {p : Addr} {fs : List (Str × V)} (h : H p = some (.xd fs)) : p ∉ m := fun z => by
  obtain ⟨vs, e⟩ := t.mlive z
  rw [h] at e; cases e
theorem ExRel.le {H H' : Hp} (t : At K B m S H) (l : Le m m H H') (x : ExRel K Z B m H c as cls dd) : ExRel K Z B m H' c as cls dd := by
  obtain ⟨C, fns, p, fs, vs, h1, h2, h3, h4, h5, h6, h7⟩ := x
  exact ⟨C, fns, p, fs, vs, h1, h2, h3, l.keep _ _ h4 (t.xd h4), h5.tr (l.tr t), h6, h7⟩
/-- literals are flat -/
def HE.ok : HE → Bool
  | .lit d => (flatV' d).isSome
  | .tup es => HE.ok es
  | .cons a r => HE.ok a && HE.ok r
  | _ => true
mutual
theorem hE_run : ∀ (e : HE) {H : Hp} {d : D} {Q : VK}, At K B m S H → ExRel K Z B m H c as cls dd → (fldsIn e = true → ∃ i, nm = some i ∧ σ[i]? = some (some (.ref a))) → HE.ok e = true → evH c as e = some d →
    (∀ v H', Le m m H H' → At K B m S H' → RelD K B m H' d v → Q v H') → tHE Z a cls dd nm e σ H Q
  | .lit d, H, d', Q, t, x, _, hk, e, q => by
    have e : some d = some d' := by rw [← e]; rfl
    cases e
    obtain ⟨v, hv⟩ := Option.isSome_iff_exists.mp (show (flatV' d).isSome = true from hk)
    exact ⟨v, hv, q v H Le.refl t (flatV_rel hv)⟩
  | .fld c' k, H, d', Q, t, x, hf, _, e, q => by
    have e2 : (if c' = c then as[k]? else none) = some d' := by rw [← e]; rfl
    clear e
    split at e2
    · rename_i ec
      subst ec
      obtain ⟨i, hn, hs⟩ := hf rfl
      obtain ⟨C, fns, p, fs, vs, h1, h2, h3, h4, h5, h6, h7⟩ := x
      obtain ⟨v, hv, rv⟩ := h5.get e2
      have hk : k < fns.length := by rw [h6]; exact (List.getElem?_eq_some_iff.mp hv).1
      have hfk : fns[k]? = some fns[k] := List.getElem?_eq_getElem hk
      exact ⟨i, C, fns, fns[k], hn, h1, hfk, .ref a, hs, rfl, h2, p, fs, v, h3, h4, by rw [h7 k _ hfk]; exact hv, q v H Le.refl t rv⟩
    · cases e2
  | .tup es, H, d', Q, t, x, hf, hk, e, q => by
    have e : (match evHs c as es with
      | some xs => if xs.length ≤ SL then some (.tup xs) else none
      | none => none) = some d' := by rw [← e]; rfl
    cases q1 : evHs c as es with
    | none => rw [q1] at e; cases e
    | some xs =>
      rw [q1] at e
      dsimp only at e
      split at e
      · rename_i hz
        cases e
        refine hA_run es t x hf hk q1 fun vs H1 l1 t1 rs => ⟨by rw [← rs.len, ← SL_eq]; exact hz, fun p hp => ?_⟩
        exact q _ _ (Le.trans t t1 l1 (Le.new t1 hp)) (t1.new hp) (RelD.new_tup t1 hp rs)
      · cases e
  | .nil, _, _, _, _, _, _, _, e, _ => by cases e
  | .cons _ _, _, _, _, _, _, _, _, e, _ => by cases e
theorem hA_run : ∀ (e : HE) {H : Hp} {ds : List D} {Q : List V → Hp → Prop}, At K B m S H → ExRel K Z B m H c as cls dd → (fldsIn e = true → ∃ i, nm = some i ∧ σ[i]? = some (some (.ref a))) → HE.ok e = true → evHs c as e = some ds →
    (∀ vs H', Le m m H H' → At K B m S H' → RelDs K B m H' ds vs → Q vs H') → tHA Z a cls dd nm e σ H Q
  | .nil, H, ds, Q, t, x, _, _, e, q => by
    have e : some [] = some ds := by rw [← e]; rfl
    cases e
    exact q [] H Le.refl t .nil
  | .cons b r, H, ds, Q, t, x, hf, hk, e, q => by
    have hk2 := Bool.and_eq_true_iff.mp (show (HE.ok b && HE.ok r) = true from hk)
    have e : (match evH c as b, evHs c as r with
      | some x, some xs => some (x :: xs)
      | _, _ => none) = some ds := by rw [← e]; rfl
    cases q1 : evH c as b with
    | none => rw [q1] at e; cases e
    | some d1 =>
      cases q2 : evHs c as r with
      | none => rw [q1, q2] at e; cases e
      | some ds1 =>
        rw [q1, q2] at e
        cases e
        refine hE_run b t x (fun h => hf (by show (fldsIn b || fldsIn r) = true; rw [h, Bool.true_or])) hk2.1 q1 fun v H1 l1 t1 rv => ?_
        refine hA_run r t1 (x.le t l1) (fun h => hf (by show (fldsIn b || fldsIn r) = true; rw [h, Bool.or_true])) hk2.2 q2 fun vs H2 l2 t2 rs => ?_
        exact q _ H2 (Le.trans t t1 l1 l2) t2 (.cons (rv.tr (l2.tr t1)) rs)
  | .lit _, _, _, _, _, _, _, _, e, _ => by cases e
  | .fld _ _, _, _, _, _, _, _, _, e, _ => by cases e
  | .tup _, _, _, _, _, _, _, _, e, _ => by cases e
end
end
/-- a clause of the evaluator as the layer has it -/
def toHM (K : Fg) (Z : Xt) (css : Hnd → List Value) (h : Hnd) : HM := ⟨css h, h.nm, fun a cls dd => match h.body with
  | .ret e => tRet (tHE Z a cls dd h.nm e)
  | .set i e => tAsg (tHE Z a cls dd h.nm e) (gName i)⟩
def bodyHE : HS → HE
  | .ret e => e
  | .set _ e => e
/-- what a clause must have: its literals are flat, fields are read with a name alone; its classes take the errors told -/
structure HndOk (K : Fg) (Z : Xt) (css : Hnd → List Value) (n : Nat) (h : Hnd) : Prop where
  lits : HE.ok (bodyHE h.body) = true
  flds : fldsIn (bodyHE h.body) = true → ∃ i, h.nm = some i ∧ i < n
  take : ∀ c C fns, Z[c]? = some (C, fns) → PySem.W.exmAny K (.ref C) (css h) = some (h.cs.contains c)
section
variable {K : Fg} {Z : Xt} {B m : List Addr} {S : Store} {H : Hp} {δ : Ev} {σ : L2.St} {W : WX} {E : Ends} {c : Nat} {as : List D} {cls : Value} {dd : Option Addr} {css : Hnd → List Value}
theorem RelE.hideX (e : RelE K B m H δ σ) (a : Addr) : ∀ nm : Option Nat, RelE K B m H (wipeO δ nm) (slotX σ a nm)
  | none => e
  | some i => by
    refine ⟨by simp [wipeO, slotX, e.1], fun j d h => ?_⟩
    by_cases hi : i = j
    · subst hi
      have h : (δ.set i none)[i]? = some (some d) := h
      rw [List.getElem?_set] at h
      split at h
      · split at h <;> cases h
      · rename_i z; exact absurd rfl z
    · have h : (δ.set i none)[j]? = some (some d) := h
      rw [List.getElem?_set_ne hi] at h
      obtain ⟨v, h1, h2⟩ := e.2 j d h
      exact ⟨v, by show (σ.set i _)[j]? = _; rw [List.getElem?_set_ne hi]; exact h1, h2⟩
theorem RelE.wipeX (e : RelE K B m H δ σ) : ∀ nm : Option Nat, RelE K B m H (wipeO δ nm) (match nm with
    | none => σ
    | some i => σ.set i none)
  | none => e
  | some i => e.unset i
theorem mix_run (t : At K B m S H) (e : RelE K B m H δ σ) (x : ExRel K Z B m H c as cls dd) : ∀ {hs : List Hnd}, (∀ h ∈ hs, HndOk K Z css σ.length h) → FinG K Z B m H NX (hdS hs c as δ S) (PF K Z B W E) → wMix K W E (hs.map (toHM K Z css)) cls dd σ H
  | [], _, h => h m H Le.refl t σ cls dd e x
  | hd :: r, ok, h => by
    have o := ok hd List.mem_cons_self
    obtain ⟨C, fns, p, fs, vs, h1, h2, h3, h4, h5, h6, h7⟩ := id x
    refine ⟨hd.cs.contains c, by rw [h2]; exact o.take c C fns h1, fun hc a na => ?_, fun hc => ?_⟩
    · have h : FinG K Z B m H NX ((if hd.cs.contains c then (match hd.body with
          | .ret e => (match evH c as e with
            | some d => M.ret (.rt d)
            | none => M.bad)
          | .set i e => (match evH c as e with
            | some d => M.ret (.nx (wipeO ((wipeO δ hd.nm).set i (some d)) hd.nm))
            | none => M.bad)) else hdS r c as δ : M Fl) S) (PF K Z B W E) := h
      rw [if_pos hc] at h
      have e1 := e.hideX a hd.nm
      have sl : fldsIn (bodyHE hd.body) = true → ∃ i, hd.nm = some i ∧ (slotX σ a hd.nm)[i]? = some (some (.ref a)) := fun hf => by
        obtain ⟨i, hn, hl⟩ := o.flds hf
        refine ⟨i, hn, ?_⟩
        rw [hn]
        exact List.getElem?_set_self hl
      have ol := o.lits
      show (match hd.body with
        | .ret e => tRet (tHE Z a cls dd hd.nm e)
        | .set i e => tAsg (tHE Z a cls dd hd.nm e) (gName i)) (endsX E hd.nm) (slotX σ a hd.nm) H
      cases hb : hd.body with
      | ret he =>
        rw [hb] at h sl ol
        dsimp only at h ⊢
        cases q : evH c as he with
        | none => rw [q] at h; exact False.elim h
        | some d =>
          rw [q] at h
          refine hE_run he t x sl ol q fun v H' l' t' rv => ?_
          have := h m H' l' t' v rv
          cases hnm : hd.nm <;> exact this
      | set i he =>
        rw [hb] at h sl ol
        dsimp only at h ⊢
        cases q : evH c as he with
        | none => rw [q] at h; exact False.elim h
        | some d =>
          rw [q] at h
          refine hE_run he t x sl ol q fun v H' l' t' rv => ?_
          have e2 := ((e1.tr (l'.tr t)).set rv i).wipeX hd.nm
          have := h m H' l' t' _ e2
          cases hnm : hd.nm with
          | none => rw [hnm] at this; exact this
          | some j => rw [hnm] at this; exact this
    · have h : FinG K Z B m H NX ((if hd.cs.contains c then (match hd.body with
          | .ret e => (match evH c as e with
            | some d => M.ret (.rt d)
            | none => M.bad)
          | .set i e => (match evH c as e with
            | some d => M.ret (.nx (wipeO ((wipeO δ hd.nm).set i (some d)) hd.nm))
            | none => M.bad)) else hdS r c as δ : M Fl) S) (PF K Z B W E) := h
      rw [if_neg (by rw [hc]; simp)] at h
      exact mix_run t e x (fun z hz => ok z (List.mem_cons_of_mem _ hz)) h
end
section
variable {X : Cx} {Z : Xt} {C : Cf} {W : WX} {pos : Pos}
theorem ss_try {ib : IS} {body : List Stmt} {h₀ : ExceptHandler} {hds : List ExceptHandler} {hs : List Hnd} {css : Hnd → List Value} (hst : X.stack = X.env :: X.outer) (hf : X.env.frame = some X.env.locals) (hN : X.N.Nodup) (tk : Takes X W)
    (hb : ∀ (W : WX) (pn : List (Addr × Obj)) (xe : Value → Shared → Prop), Takes (X.tr pn xe) W → PassesOwn (model X.prog X.w) X.A X.env xe → PSs (X.tr pn xe) body (Ss X.K Z C W ib))
    (ok : ∀ h ∈ hs, HndOk X.K Z css X.N.length h) (hh : HdX X (h₀ :: hds) (hs.map (toHM X.K Z css))) : PS X (.Try body (h₀ :: hds) [] [] pos) (Ss X.K Z C W (.try ib hs)) := by
  have rule := ps_try_mix (pos := pos) hst hf hN tk hb hh
  refine ⟨fun pins s σ H E I q => rule.run pins s σ H E I ?_⟩
  have hσ : σ.length = X.N.length := I.len
  obtain ⟨B, m, S, δ, t, e, h⟩ := q
  refine ⟨B, m, S, δ, t, e, ?_⟩
  have h : FinG X.K Z B m H NX (M.bind (exS C ib δ) (fun o => match o with
    | .xc c as σ' => hdS hs c as σ'
    | o => M.ret o) S) (PF X.K Z B W E) := h
  unfold M.bind at h
  cases q : exS C ib δ S with
  | bad => rw [q] at h; exact h
  | exc c as S1 => rw [q] at h; exact h
  | ok o S1 =>
    rw [q] at h
    intro m1 H1 l1 t1
    cases o with
    | nx δ1 => exact (FinG.ret (show FinG X.K Z B m H NX (M.ret (.nx δ1) S1) (PF X.K Z B W E) from h)) m1 H1 l1 t1
    | rt d => exact (FinG.ret (show FinG X.K Z B m H NX (M.ret (.rt d) S1) (PF X.K Z B W E) from h)) m1 H1 l1 t1
    | bk δ1 => exact (FinG.ret (show FinG X.K Z B m H NX (M.ret (.bk δ1) S1) (PF X.K Z B W E) from h)) m1 H1 l1 t1
    | ct δ1 => exact (FinG.ret (show FinG X.K Z B m H NX (M.ret (.ct δ1) S1) (PF X.K Z B W E) from h)) m1 H1 l1 t1
    | xc c as δ1 =>
      have h : FinG X.K Z B m H NX (hdS hs c as δ1 S1) (PF X.K Z B W E) := h
      intro σ1 cls dd e1 x hl1
      refine mix_run t1 e1 x (fun hd hm => by rw [hl1]; exact ok hd hm) (h.rebase t t1 l1)
end
end Fb
set_option Elab.async false
set_option linter.all false
set_option maxRecDepth 100000
set_option maxHeartbeats 4000000
/-! Fb12: a def's end, calls, levels. -/
namespace Fb
open PySem PySem.Spec PyProof.Rows L2
section
variable {K : Fg} {Z : Xt} {B B' m m' : List Addr} {S S' : Store} {H H' : Hp}
/-! ### cells that a call is not shown -/
theorem mem_td {k : Nat} {a : Addr} (h : a ∈ m) : a ∈ m.take k ∨ a ∈ m.drop k := by
  rw [← List.take_append_drop k m] at h
  exact List.mem_append.mp h
mutual
theorem RelD.hide (k : Nat) : ∀ {d : D} {v : V}, RelD K B m H d v → D.top d ≤ k → RelD K (B ++ m.drop k) (m.take k) H d v
  | _, _, .non, _ => .non
  | _, _, .bl b, _ => .bl b
  | _, _, .int i, _ => .int i
  | _, _, .str x h, _ => .str x h
  | _, _, .tup q r, f => .tup (q.imp (fun h => ⟨h.1, fun z => h.2 (List.mem_of_mem_take z)⟩) id) (RelDs.hide k r f)
  | _, _, .lst q r, f => .lst ⟨q.1, fun z => (List.mem_append.mp z).elim q.2.1 (fun y => q.2.2 (List.mem_of_mem_drop y)), fun z => q.2.2 (List.mem_of_mem_take z)⟩ (RelDs.hide k r f)
  | _, _, .ro q r, f => .ro (q.imp (fun h => ⟨h.1, fun z => (List.mem_append.mp z).elim h.2.1 (fun y => h.2.2 (List.mem_of_mem_drop y)), fun z => h.2.2 (List.mem_of_mem_take z)⟩) id) (RelDs.hide k r f)
  | .cell n, _, .cell e, f => .cell (by rw [List.getElem?_take_of_lt (show n < k from f)]; exact e)
theorem RelDs.hide (k : Nat) : ∀ {ds : List D} {vs : List V}, RelDs K B m H ds vs → D.tops ds ≤ k → RelDs K (B ++ m.drop k) (m.take k) H ds vs
  | _, _, .nil, _ => .nil
  | d :: ds, _, .cons r s, f => by
    have f : max (D.top d) (D.tops ds) ≤ k := f
    exact .cons (RelD.hide k r (by omega)) (RelDs.hide k s (by omega))
end
mutual
theorem RelD.show {k : Nat} (hm : ∀ a ∈ m, ∀ vs, ¬ Rd H a (.tup vs)) : ∀ {d : D} {v : V}, RelD K (B ++ m.drop k) (m.take k) H d v → RelD K B m H d v
  | _, _, .non => .non
  | _, _, .bl b => .bl b
  | _, _, .int i => .int i
  | _, _, .str x h => .str x h
  | _, _, .tup q r => .tup (q.imp (fun h => ⟨h.1, fun z => hm _ z _ h.1⟩) id) (RelDs.show hm r)
  | _, _, .lst q r => .lst ⟨q.1, fun z => q.2.1 (List.mem_append_left _ z), fun z => (mem_td z).elim q.2.2 fun y => q.2.1 (List.mem_append_right _ y)⟩ (RelDs.show hm r)
  | _, _, .ro q r => .ro (q.imp (fun h => ⟨h.1, fun z => h.2.1 (List.mem_append_left _ z), fun z => (mem_td z).elim h.2.2 fun y => h.2.1 (List.mem_append_right _ y)⟩) id) (RelDs.show hm r)
  | .cell n, _, .cell e => .cell (by
      rw [List.getElem?_take] at e
      split at e
      · exact e
      · cases e)
theorem RelDs.show {k : Nat} (hm : ∀ a ∈ m, ∀ vs, ¬ Rd H a (.tup vs)) : ∀ {ds : List D} {vs : List V}, RelDs K (B ++ m.drop k) (m.take k) H ds vs → RelDs K B m H ds vs
  | _, _, .nil => .nil
  | _, _, .cons r s => .cons (RelD.show hm r) (RelDs.show hm s)
end
theorem At.notup (t : At K B m S H) : ∀ a ∈ m, ∀ vs, ¬ Rd H a (.tup vs) := fun a ha vs h => by
  obtain ⟨us, e⟩ := t.mlive ha
  rcases h with h | ⟨o, h⟩ <;> rw [e] at h <;> cases h
theorem CRel.hide {c : Cell} {a : Addr} (k : Nat) (h : CRel K B m H c a) (f : Cell.topB k c = true) : CRel K (B ++ m.drop k) (m.take k) H c a := by
  cases c with
  | lst ds =>
    obtain ⟨vs, e, r⟩ := h
    exact ⟨vs, e, r.hide k (of_decide_eq_true f)⟩
theorem CRel.show {c : Cell} {a : Addr} {k : Nat} (hm : ∀ a ∈ m, ∀ vs, ¬ Rd H a (.tup vs)) (h : CRel K (B ++ m.drop k) (m.take k) H c a) : CRel K B m H c a := by
  cases c with
  | lst ds =>
    obtain ⟨vs, e, r⟩ := h
    exact ⟨vs, e, RelDs.show hm r⟩
/-- what stays as it was -/
theorem CRel.stay {c : Cell} {a : Addr} (h : CRel K B m H c a) (tr : Tr K B m B m H H') (k : ∀ u, H a = some u → H' a = some u) : CRel K B m H' c a := by
  cases c with
  | lst ds =>
    obtain ⟨vs, e, r⟩ := h
    exact ⟨vs, k _ e, r.tr tr⟩
theorem At.hide (t : At K B m S H) (k : Nat) (h : (S.take k).all (Cell.topB k) = true) : At K (B ++ m.drop k) (m.take k) (S.take k) H := by
  have nd : ((B ++ m.drop k) ++ m.take k).Nodup := by
    have p : ((B ++ m.drop k) ++ m.take k).Perm (B ++ m) := by
      rw [List.append_assoc]
      refine List.Perm.append_left B (List.perm_append_comm.trans ?_)
      rw [List.take_append_drop]
    exact p.nodup_iff.mpr t.nd
  refine ⟨by rw [List.length_take, List.length_take, t.len], nd, fun a ha => ?_, fun i c a hc ha => ?_⟩
  · rcases List.mem_append.mp ha with h | h
    · exact t.live a h
    · obtain ⟨vs, e⟩ := t.mlive (List.mem_of_mem_drop h)
      rw [e]; exact fun w => (nomatch w)
  · have hm := List.all_eq_true.mp h c (List.mem_of_getElem? hc)
    rw [List.getElem?_take] at hc ha
    split at hc
    · rename_i q
      rw [if_pos q] at ha
      exact (t.cells i c a hc ha).hide k hm
    · cases hc
theorem At.whole (t : At K B m S H) : At K (B ++ m.drop S.length) (m.take S.length) (S.take S.length) H := by
  rw [t.len, List.drop_length, List.take_length, List.append_nil, ← t.len, List.take_length]
  exact t
/-- behind a run that was shown k cells: S2 these cells -/
theorem At.after (t : At K B m S H) {k : Nat} (hk : k ≤ m.length) {S2 : Store} (l : Le (m.take k) m' H H') (t2 : At K (B ++ m.drop k) (m.take k) S2 H') : Le m m H H' ∧ At K B m (S2 ++ S.drop k) H' := by
  have kp : ∀ a o, H a = some o → a ∉ m.take k → H' a = some o := fun a o e n => l.keep a o e n
  have l2 : Le m m H H' := ⟨⟨[], by simp, fun _ z => by cases z⟩, fun a o e n => kp a o e fun z => n (List.mem_of_mem_take z)⟩
  have nd := List.nodup_append.mp t.nd
  have ndm : (m.take k ++ m.drop k).Nodup := by rw [List.take_append_drop]; exact nd.2.1
  have dis : ∀ a ∈ m.drop k, a ∉ m.take k := fun a ha z => (List.nodup_append.mp ndm).2.2 a z a ha rfl
  have hlen : S2.length = k := by rw [t2.len, List.length_take]; omega
  have nt : ∀ a ∈ m, ∀ vs, ¬ Rd H' a (.tup vs) := fun a ha vs h => by
    rcases mem_td (k := k) ha with z | z
    · exact t2.notup a z vs h
    · obtain ⟨us, e⟩ := t.mlive ha
      have e2 := kp a _ e (dis a z)
      rcases h with h | ⟨o, h⟩ <;> rw [e2] at h <;> cases h
  refine ⟨l2, by rw [List.length_append, hlen, List.length_drop, t.len]; omega, t.nd, fun a ha => t2.live a (List.mem_append_left _ ha), fun i c a hc ha => ?_⟩
  by_cases hi : i < k
  · rw [List.getElem?_append_left (by omega)] at hc
    exact (t2.cells i c a hc (by rw [List.getElem?_take_of_lt hi]; exact ha)).show nt
  · rw [List.getElem?_append_right (by omega), hlen, List.getElem?_drop, show k + (i - k) = i by omega] at hc
    have hd : a ∈ m.drop k := List.mem_of_getElem? (i := i - k) (by rw [List.getElem?_drop, show k + (i - k) = i by omega]; exact ha)
    exact (t.cells i c a hc ha).stay (l2.tr t) fun u e => kp a u e (dis a hd)
/-! ### the own cells are let go -/
section
variable {r : List Addr} (t : At K B (m ++ r) S' H')
include t
mutual
theorem RelD.sub (g : Nat → Option D) (hg : ∀ n a d', (m ++ r)[n]? = some a → g n = some d' → RelD K B m H' d' (.ref a)) : ∀ {d d' : D} {v : V}, RelD K B (m ++ r) H' d v → D.sub g d = some d' → RelD K B m H' d' v
  | _, d', _, .non, e => by cases e; exact .non
  | _, d', _, .bl b, e => by cases e; exact .bl b
  | _, d', _, .int i, e => by cases e; exact .int i
  | _, d', _, .str x h, e => by cases e; exact .str x h
  | .tup ds, d', _, .tup q rs, e => by
    have e : (D.subs g ds).map .tup = some d' := e
    cases h : D.subs g ds with
    | none => rw [h] at e; cases e
    | some ds' =>
      rw [h] at e; cases e
      exact .tup (q.imp (fun h => ⟨h.1, fun z => h.2 (List.mem_append_left _ z)⟩) id) (RelDs.sub g hg rs h)
  | .lst ds, d', _, .lst q rs, e => by
    have e : (D.subs g ds).map .lst = some d' := e
    cases h : D.subs g ds with
    | none => rw [h] at e; cases e
    | some ds' =>
      rw [h] at e; cases e
      exact .lst ⟨q.1, q.2.1, fun z => q.2.2 (List.mem_append_left _ z)⟩ (RelDs.sub g hg rs h)
  | .ro ds, d', _, .ro q rs, e => by
    have e : (D.subs g ds).map .ro = some d' := e
    cases h : D.subs g ds with
    | none => rw [h] at e; cases e
    | some ds' =>
      rw [h] at e; cases e
      exact .ro (q.imp (fun h => ⟨h.1, h.2.1, fun z => h.2.2 (List.mem_append_left _ z)⟩) id) (RelDs.sub g hg rs h)
  | .cell n, d', _, .cell e1, e => hg _ _ _ e1 e
theorem RelDs.sub (g : Nat → Option D) (hg : ∀ n a d', (m ++ r)[n]? = some a → g n = some d' → RelD K B m H' d' (.ref a)) : ∀ {ds ds' : List D} {vs : List V}, RelDs K B (m ++ r) H' ds vs → D.subs g ds = some ds' → RelDs K B m H' ds' vs
  | _, _, _, .nil, e => by cases e; exact .nil
  | d :: ds, _, _, .cons r1 s, e => by
    unfold D.subs at e
    cases h1 : D.sub g d with
    | none => simp only [h1] at e; cases e
    | some d' =>
      cases h2 : D.subs g ds with
      | none => simp only [h1, h2] at e; cases e
      | some ds' =>
        simp only [h1, h2] at e
        cases e
        exact .cons (RelD.sub g hg r1 h1) (RelDs.sub g hg s h2)
end
omit t in
theorem mapM_rel {f : D → Option D} (hf : ∀ d d' v, RelD K B (m ++ r) H' d v → f d = some d' → RelD K B m H' d' v) : ∀ {ds ds' : List D} {vs : List V}, RelDs K B (m ++ r) H' ds vs → ds.mapM f = some ds' → RelDs K B m H' ds' vs
  | _, _, _, .nil, e => by cases e; exact .nil
  | d :: ds, ds', _, .cons r1 s, e => by
    rw [List.mapM_cons] at e
    cases h1 : f d with
    | none => rw [h1] at e; cases e
    | some d1 =>
      cases h2 : ds.mapM f with
      | none => rw [h1, h2] at e; cases e
      | some ds1 =>
        rw [h1, h2] at e
        cases e
        exact .cons (hf _ _ _ r1 h1) (mapM_rel hf s h2)
theorem cell_low {n : Nat} {a : Addr} (h : (m ++ r)[n]? = some a) (hn : n < m.length) : m[n]? = some a := by
  rw [List.getElem?_append_left hn] at h; exact h
theorem cell_high {n : Nat} {a : Addr} (h : (m ++ r)[n]? = some a) (hn : ¬ n < m.length) : a ∉ B ∧ a ∉ m := by
  rw [List.getElem?_append_right (by omega)] at h
  have hr := List.mem_of_getElem? h
  have nd := List.nodup_append.mp t.nd
  have nd2 := List.nodup_append.mp nd.2.1
  exact ⟨fun z => nd.2.2 a z a (List.mem_append_right _ hr) rfl, fun z => nd2.2.2 a z a hr rfl⟩
theorem frz_rel : ∀ (l : Nat) {d d' : D} {v : V}, RelD K B (m ++ r) H' d v → frz m.length S' l d = some d' → RelD K B m H' d' v
  | 0, d, d', v, rd, e => RelD.sub t _ (fun n a d2 h1 h2 => by
      by_cases hn : n < m.length
      · simp only [hn, if_true] at h2
        cases h2
        exact .cell (cell_low t h1 hn)
      · simp only [hn, if_false] at h2; cases h2) rd e
  | l + 1, d, d', v, rd, e => RelD.sub t _ (fun n a d2 h1 h2 => by
      by_cases hn : n < m.length
      · simp only [hn, if_true] at h2
        cases h2
        exact .cell (cell_low t h1 hn)
      · simp only [hn, if_false] at h2
        cases q : S'[n]? with
        | none => simp only [q] at h2; cases h2
        | some c =>
          cases c with
          | lst xs =>
            simp only [q] at h2
            cases q2 : xs.mapM (frz m.length S' l) with
            | none => rw [q2] at h2; cases h2
            | some ys =>
              rw [q2] at h2
              cases h2
              obtain ⟨vs, hv, rs⟩ := t.cells n _ a q h1
              obtain ⟨n1, n2⟩ := cell_high t h1 hn
              exact .lst ⟨hv, n1, n2⟩ (mapM_rel (fun d d' v => frz_rel l) rs q2)) rd e
theorem frzs_rel (l : Nat) {ds ds' : List D} {vs : List V} (rs : RelDs K B (m ++ r) H' ds vs) (e : ds.mapM (frz m.length S' l) = some ds') : RelDs K B m H' ds' vs := mapM_rel (fun d d' v => frz_rel t l) rs e
omit t in
theorem mapM_get {α β : Type} {f : α → Option β} : ∀ {xs : List α} {ys : List β}, xs.mapM f = some ys → xs.length = ys.length ∧ ∀ (i : Nat) (y : β), ys[i]? = some y → ∃ x, xs[i]? = some x ∧ f x = some y
  | [], ys, e => by cases e; exact ⟨rfl, fun i y h => by simp at h⟩
  | x :: xs, ys, e => by
    rw [List.mapM_cons] at e
    cases h1 : f x with
    | none => rw [h1] at e; cases e
    | some y1 =>
      cases h2 : xs.mapM f with
      | none => rw [h1, h2] at e; cases e
      | some ys1 =>
        rw [h1, h2] at e
        cases e
        obtain ⟨hl, hi⟩ := mapM_get h2
        refine ⟨by simp [hl], fun i y h => ?_⟩
        cases i with
        | zero => simp at h; subst h; exact ⟨x, rfl, h1⟩
        | succ i => exact hi i y (by simpa using h)
theorem frzS_at {S'' : Store} (e : frzS m.length S' = some S'') : At K B m S'' H' := by
  have e : (S'.take m.length).mapM (frzC m.length S') = some S'' := e
  obtain ⟨hl, hi⟩ := mapM_get e
  have hlen : S'.length = m.length + r.length := by rw [t.len, List.length_append]
  refine ⟨by rw [← hl, List.length_take]; omega, ?_, t.live, fun i c a hc ha => ?_⟩
  · have nd := List.nodup_append.mp t.nd
    have nd2 := List.nodup_append.mp nd.2.1
    exact List.nodup_append.mpr ⟨nd.1, nd2.1, fun a ha b hb => nd.2.2 a ha b (List.mem_append_left _ hb)⟩
  · obtain ⟨c0, h0, hf⟩ := hi i c hc
    have hlt : i < m.length := (List.getElem?_eq_some_iff.mp ha).1
    rw [List.getElem?_take_of_lt hlt] at h0
    cases c0 with
    | lst xs =>
      have hf : (xs.mapM (frz m.length S' 4)).map Cell.lst = some c := hf
      cases q : xs.mapM (frz m.length S' 4) with
      | none => rw [q] at hf; cases hf
      | some ys =>
        rw [q] at hf
        cases hf
        obtain ⟨vs, hv, rs⟩ := t.cells i _ a h0 (by rw [List.getElem?_append_left hlt]; exact ha)
        exact ⟨vs, hv, frzs_rel t 4 rs q⟩
end
theorem Le.cutR {r : List Addr} (t : At K B m S H) (l : Le m (m ++ r) H H') : Le m m H H' := ⟨⟨[], by simp, fun _ z => by cases z⟩, l.keep⟩
end
/-! ### a def -/
section
variable {K : Fg} {Z : Xt}
theorem start_of {B m : List Addr} {H : Hp} {N : List Str} {fn : Fn} {ds : List D} {vs : List V} (hl : fn.nl = N.length) (hd : ds.length = fn.np) (r : RelDs K B m H ds vs) :
    RelE K B m H (ds.map some ++ List.replicate (fn.nl - fn.np) none) (L2.start N vs) := by
  have h := start_rel r (N := N)
  rw [hl, ← hd]
  exact h
/-- the ends of a def's body -/
def endsOf (Q : VK) : Ends := { nx := fun _ H' => Q .non H', rt := Q }
theorem run_rel {C : Cf} {fn : Fn} {N : List Str} {B m : List Addr} {S : Store} {H : Hp} {ds : List D} {vs : List V} {Q : VK} {E : XK} (hl : fn.nl = N.length) (hd : ds.length = fn.np) (t : At K B m S H) (r : RelDs K B m H ds vs)
    (h : FinG K Z B m H E (runFn C fn ds S) (fun d S' m' H' => ∀ v, RelD K B m' H' d v → Q v H')) : Ss K Z C (fun cls dd _ H' => E cls dd H') fn.body (endsOf Q) (L2.start N vs) H := by
  refine ⟨B, m, S, ds.map some ++ List.replicate (fn.nl - fn.np) none, t, start_of hl hd r, ?_⟩
  unfold runFn at h
  cases q : exS C fn.body (ds.map some ++ List.replicate (fn.nl - fn.np) none) S with
  | bad => simp only [q] at h; exact h
  | exc c as S1 =>
    simp only [q] at h
    exact h.elim
  | ok f S1 =>
    simp only [q] at h
    intro m1 H1 l1 t1
    cases f with
    | nx δ' => exact fun σ' _ => h m1 H1 l1 t1 .non .non
    | rt d => exact fun v rv => h m1 H1 l1 t1 v rv
    | bk δ' => exact h.elim
    | ct δ' => exact h.elim
    | xc c as δ' => exact fun σ' cls dd _ x => h cls dd m1 H1 l1 t1 x
theorem ExRel.mapD {B m B' m' : List Addr} {H : Hp} {c : Nat} {as as' : List D} {cls : Value} {dd : Option Addr} (x : ExRel K Z B m H c as cls dd) (h : ∀ vs, RelDs K B m H as vs → RelDs K B' m' H as' vs) : ExRel K Z B' m' H c as' cls dd := by
  obtain ⟨C, fns, p, fs, vs, h1, h2, h3, h4, h5, h6, h7⟩ := x
  exact ⟨C, fns, p, fs, vs, h1, h2, h3, h4, h vs h5, h6, h7⟩
theorem call_rel {C : Cf} {fn : Fn} {N : List Str} {B m : List Addr} {S : Store} {H : Hp} {ds : List D} {vs : List V} {Q : VK} {E : XK} (hl : fn.nl = N.length) (hd : ds.length = fn.np) (t : At K B m S H) (r : RelDs K B m H ds vs)
    (h : FinG K Z B m H E (callFn C fn ds S) (fun d S' m' H' => ∀ v, RelD K B m' H' d v → Q v H')) : Ss K Z C (fun cls dd _ H' => E cls dd H') fn.body (endsOf Q) (L2.start N vs) H := by
  unfold callFn at h
  by_cases hk : fn.keep = true
  · rw [if_pos hk] at h
    exact run_rel hl hd t r h
  rw [if_neg hk] at h
  generalize hkk : shown ds S = k at h
  have hle : k ≤ m.length := by
    rw [← hkk]; unfold shown
    split
    · rename_i c; rw [← t.len]; exact c.1
    · rw [t.len]; exact Nat.le_refl _
  obtain ⟨th, rh⟩ : At K (B ++ m.drop k) (m.take k) (S.take k) H ∧ RelDs K (B ++ m.drop k) (m.take k) H ds vs := by
    unfold shown at hkk
    split at hkk
    · rename_i c
      subst hkk
      exact ⟨t.hide _ c.2, r.hide _ (Nat.le_refl _)⟩
    · subst hkk
      refine ⟨t.whole, ?_⟩
      rw [t.len, List.drop_length, List.take_length, List.append_nil]
      exact r
  have hlk : (m.take k).length = k := by rw [List.length_take]; omega
  refine run_rel hl hd th rh ?_
  cases q : runFn C fn ds (S.take k) with
  | bad => simp only [q] at h; exact h
  | ok d S1 =>
    simp only [q] at h
    intro m1 H1 l1 t1 v rv
    obtain ⟨r1, rfl, hr⟩ := l1.pre
    cases q2 : frz k S1 4 d with
    | none => simp only [q2] at h; exact False.elim h
    | some d' =>
      cases q3 : frzS k S1 with
      | none => simp only [q2, q3] at h; exact False.elim h
      | some S2 =>
        simp only [q2, q3] at h
        rw [← hlk] at q2 q3
        have t2 := frzS_at t1 q3
        obtain ⟨l3, t3⟩ := t.after hle l1 t2
        exact h m H1 l3 t3 v (RelD.show t3.notup (frz_rel t1 4 rv q2))
  | exc c as S1 =>
    simp only [q] at h
    intro cls dd m1 H1 l1 t1 x
    obtain ⟨r1, rfl, hr⟩ := l1.pre
    cases q2 : as.mapM (frz k S1 4) with
    | none => simp only [q2] at h; exact False.elim h
    | some as' =>
      cases q3 : frzS k S1 with
      | none => simp only [q2, q3] at h; exact False.elim h
      | some S2 =>
        simp only [q2, q3] at h
        rw [← hlk] at q2 q3
        have t2 := frzS_at t1 q3
        obtain ⟨l3, t3⟩ := t.after hle l1 t2
        exact h cls dd m H1 l3 t3 (x.mapD fun vs rs => RelDs.show t3.notup (frzs_rel t1 4 rs q2))
end
/-! ### what holds of a def's body's context -/
structure Gd (P : Program) (w : World) (K : Fg) (mg : Str → Option Value) (base : Heap) (N : List Str) (sc : Scope) (fnk : Str → Bool) (l : Nat) (W : WX) (X : Cx) : Prop where
  prog : X.prog = P
  w : X.w = w
  K : X.K = K
  mg : X.mg = mg
  base : X.base = base
  calm : X.calm = true
  N : X.N = N
  sc : X.env.scope = sc
  fn : X.fn = fnk
  room : Room l X.A
  tk : ∀ σ, PassesAt (L2.CX X.prog X.w) X σ (fun cls d H => W cls d σ H)
  tks : Takes X W
  stk : X.stack = X.env :: X.outer
  frm : X.env.frame = some X.env.locals
/-- a def from its body's walk -/
theorem fun_lv {P : Program} {w : World} {K : Fg} {Z : Xt} {mg : Str → Option Value} {base : Heap} {x qual : Str} {params : Arguments} {body : List Stmt} {scope : Scope} {fa : Addr} {fd : FuncData} {N ps : List Str} {C : Cf} {fn : Fn} {l : Nat} {dvs : List V}
    (F : FunD K x qual params body scope dvs [] fa fd) (Sc : FnScope N ps scope) (hn : ps.length = fn.np) (hl : fn.nl = N.length)
    (hb : ∀ X W, Gd P w K mg base N scope (fun _ => true) l W X → PassesOwn (model X.prog X.w) X.A X.env X.xe → PSs X body (Ss X.K Z C W fn.body)) :
    FnOk P w K mg base (L2.CX P w) (l + 1) fa fd ps (spF K Z fun xs => if xs.length = fn.np then callFn C fn xs else M.bad) := by
  refine F.ok Sc (fun vs H Q E ⟨B, m, S, ds, t, r, h⟩ => ?_) fun cdv A outer s H vs Q E hr ⟨B, m, S, ds, t, r, h⟩ => ?_
  · by_cases hz : ds.length = fn.np
    · rw [← r.len, hz, hn]
    · dsimp only at h
      rw [if_neg hz] at h; exact False.elim h
  · dsimp only at h
    by_cases hz : ds.length = fn.np
    · rw [if_pos hz] at h
      have tk := takes_of (X := cxOf (L2.CX P w) P w K mg base N qual scope fa cdv A outer s H E) rfl rfl rfl rfl
      exact ⟨_, hb (cxOf (L2.CX P w) P w K mg base N qual scope fa cdv A outer s H E) (fun cls dd _ H' => E cls dd H') ⟨rfl, rfl, rfl, rfl, rfl, rfl, rfl, rfl, rfl, hr, fun σ => passAt tk σ, tk, rfl, rfl⟩ (passes_of rfl), call_rel hl hz t r h⟩
    · rw [if_neg hz] at h; exact False.elim h
end Fb
set_option Elab.async false
set_option linter.all false
set_option maxRecDepth 100000
set_option maxHeartbeats 4000000
/-! Fb13: the checker: the IR against the model's syntax; what it passes is read as the evaluator has it. -/
namespace Fb
open PySem PySem.Spec PyProof.Rows L2
mutual
def D.same : D → D → Bool
  | .non, .non => true
  | .bl a, .bl b => a == b
  | .int a, .int b => a == b
  | .str a, .str b => a == b
  | .tup a, .tup b => D.sames a b
  | .lst a, .lst b => D.sames a b
  | .ro a, .ro b => D.sames a b
  | .cell a, .cell b => a == b
  | _, _ => false
def D.sames : List D → List D → Bool
  | [], [] => true
  | x :: xs, y :: ys => D.same x y && D.sames xs ys
  | _, _ => false
end
mutual
theorem same_eq : ∀ {a b : D}, D.same a b = true → a = b
  | .non, b, h => by cases b <;> first | rfl | cases h
  | .bl a, b, h => by cases b <;> first | (cases h; done) | exact congrArg D.bl (eq_of_beq h)
  | .int a, b, h => by cases b <;> first | (cases h; done) | exact congrArg D.int (eq_of_beq h)
  | .str a, b, h => by cases b <;> first | (cases h; done) | exact congrArg D.str (eq_of_beq h)
  | .tup a, b, h => by cases b <;> first | (cases h; done) | exact congrArg D.tup (sames_eq h)
  | .lst a, b, h => by cases b <;> first | (cases h; done) | exact congrArg D.lst (sames_eq h)
  | .ro a, b, h => by cases b <;> first | (cases h; done) | exact congrArg D.ro (sames_eq h)
  | .cell a, b, h => by cases b <;> first | (cases h; done) | exact congrArg D.cell (eq_of_beq h)
theorem sames_eq : ∀ {a b : List D}, D.sames a b = true → a = b
  | [], b, h => by cases b <;> first | rfl | cases h
  | x :: xs, [], h => by cases h
  | x :: xs, y :: ys, h => by
    have h2 := Bool.and_eq_true_iff.mp (show (D.same x y && D.sames xs ys) = true from h)
    rw [same_eq h2.1, sames_eq h2.2]
end
structure CC where
  N : List Str
  sc : Scope
  fn : Str → Bool
  gn : List Str
  cs : List (Str × D)
  fr : List Str
  /-- calls with defaults: a def, what is added -/
  db : List (Nat × List D) := []
  /-- calls with keywords: a def, how many positional values, the names, their order -/
  kb : List (Nat × Nat × List Str × List Nat) := []
  /-- exception classes and their fields -/
  xt : List (Str × List Str) := []
  /-- except clauses: the names, the classes they take -/
  ht : List (List Str × List Nat) := []
def CC.blk (c : CC) (scope : Scope) : CC := { c with sc := relS scope c.sc, fn := fun x => scope.names.lookup x == some .cell }
def visB (sc : Scope) (x : Str) : Bool := match sc.names.lookup x with
  | some .local => true
  | some .cell => true
  | some .free => true
  | _ => false
def locB (sc : Scope) (x : Str) : Bool := match sc.names.lookup x with
  | some .local => true
  | some .cell => true
  | _ => false
def plB (sc : Scope) (x : Str) : Bool := match sc.names.lookup x with
  | some .local => true
  | _ => false
def glB (sc : Scope) (x : Str) : Bool := match sc.names.lookup x with
  | some .globalImplicit => true
  | _ => false
theorem vis_of {sc : Scope} {x : Str} (h : visB sc x = true) : Vis sc x := by
  unfold visB at h
  unfold Vis
  split at h <;> simp_all
theorem loc_of {sc : Scope} {x : Str} (h : locB sc x = true) : L2.Loc sc x := by
  unfold locB at h
  unfold L2.Loc
  split at h <;> simp_all
theorem pl_of {sc : Scope} {x : Str} (h : plB sc x = true) : sc.names.lookup x = some .local := by
  unfold plB at h
  split at h <;> simp_all
theorem gl_of {sc : Scope} {x : Str} (h : glB sc x = true) : sc.names.lookup x = some .globalImplicit := by
  unfold glB at h
  split at h <;> simp_all
def frB (c : CC) (x : Str) : Bool := glB c.sc x && decide (x ∈ c.fr)
def nameB (c : CC) (i : Nat) (x : Str) : Bool := decide (c.N[i]? = some x) && locB c.sc x && (c.fn x || plB c.sc x)
def dsB (f : Nat) (ds : List D) : List (Nat × List D) → Bool
  | [] => false
  | (g, es) :: r => (decide (f = g) && D.sames ds es) || dsB f ds r
theorem ds_of {f : Nat} {ds : List D} : ∀ {l : List (Nat × List D)}, dsB f ds l = true → (f, ds) ∈ l
  | [], h => by cases h
  | (g, es) :: r, h => by
    rcases Bool.or_eq_true_iff.mp (show ((decide (f = g) && D.sames ds es) || dsB f ds r) = true from h) with h | h
    · have h2 := Bool.and_eq_true_iff.mp h
      have e1 := of_decide_eq_true h2.1
      have e2 := sames_eq h2.2
      subst e1; subst e2
      exact List.mem_cons_self
    · exact List.mem_cons_of_mem _ (ds_of h)
def csB (x : Str) (d : D) : List (Str × D) → Bool
  | [] => false
  | (y, e) :: r => (decide (x = y) && D.same d e) || csB x d r
theorem cs_of {x : Str} {d : D} : ∀ {l : List (Str × D)}, csB x d l = true → (x, d) ∈ l
  | [], h => by cases h
  | (y, e) :: r, h => by
    rcases Bool.or_eq_true_iff.mp (show ((decide (x = y) && D.same d e) || csB x d r) = true from h) with h | h
    · have h2 := Bool.and_eq_true_iff.mp h
      have e1 := of_decide_eq_true h2.1
      have e2 := same_eq h2.2
      subst e1; subst e2
      exact List.mem_cons_self
    · exact List.mem_cons_of_mem _ (cs_of h)
def opB : Bo → Operator → Bool
  | .add, .Add => true | .sub, .Sub => true | .mul, .Mult => true | .mod, .Mod => true | .fdiv, .FloorDiv => true | .pow, .Pow => true | .shl, .LShift => true | _, _ => false
theorem op_of {o : Bo} {p : Operator} (h : opB o p = true) : p = boOf o := by cases o <;> cases p <;> first | rfl | cases h
def coB : Co → CmpOp → Bool
  | .eq, .Eq => true | .ne, .NotEq => true | .lt, .Lt => true | .le, .LtE => true | .gt, .Gt => true | .ge, .GtE => true | .isIn, .In => true | .notIn, .NotIn => true | _, _ => false
theorem co_of {o : Co} {p : CmpOp} (h : coB o p = true) : p = coOf o := by cases o <;> cases p <;> first | rfl | cases h
/-- no slice: a plain subscript -/
def plainIxB : Expr → Bool
  | .Slice .. => false
  | _ => true
theorem plainIx_of {b : Expr} (h : plainIxB b = true) : PlainIx b := by
  intro o i
  cases b <;> first | rfl | cases h
def notSet : Expr → Bool
  | .Set .. => false
  | _ => true
theorem notSet_of {e : Expr} {env : Env} (h : notSet e = true) (x : Value) : foldedSetIterable e env x = pure x := by cases e <;> first | rfl | cases h
/-- names one behind another -/
def nmOf : List Expr → Option (List (Str × Pos))
  | [] => some []
  | .Name x p :: r => (nmOf r).map ((x, p) :: ·)
  | _ => none
theorem nm_of : ∀ {es : List Expr} {xs : List (Str × Pos)}, nmOf es = some xs → es = nmEs xs
  | [], xs, h => by cases h; rfl
  | e :: r, xs, h => by
    cases e with
    | Name x p =>
      have h : (nmOf r).map ((x, p) :: ·) = some xs := h
      cases q : nmOf r with
      | none => rw [q] at h; cases h
      | some ys =>
        rw [q] at h; cases h
        rw [nm_of q]; rfl
    | _ => cases h
def namesB (c : CC) : List Nat → List (Str × Pos) → Bool
  | [], [] => true
  | i :: is, (x, _) :: xs => nameB c i x && namesB c is xs
  | _, _ => false
mutual
def patB' (c : CC) : Pat → Expr → Bool
  | .nm i, .Name x _ => nameB c i x
  | .tp is, .Tuple es _ _ => (match nmOf es with
    | some xs => namesB c is xs
    | none => false)
  | .tq ps, .Tuple es _ _ => patsB c ps es
  | _, _ => false
def patsB (c : CC) : Pat → List Expr → Bool
  | .pn, [] => true
  | .pc p r, e :: es => patB' c p e && patsB c r es
  | _, _ => false
end
def tysB (c : CC) : List Ty → List Expr → Bool
  | [], [] => true
  | y :: ys, .Name x _ :: r => decide (x = Str.ofString (tyS y)) && frB c x && tysB c ys r
  | _, _ => false
/-- the test of a plain expression -/
def plainT : Expr → Bool
  | .UnaryOp .Not _ _ => false
  | .BoolOp .. => false
  | .IfExp .. => false
  | .Compare .. => false
  | _ => true
theorem plainT_of {a : Expr} {env : Env} (h : plainT a = true) (whole : Sem Value) : isTrue a env whole = (do let v ← whole; standAt a.pos; holding [v] (truthy v)) := by
  cases a with
  | UnaryOp op b p => cases op <;> first | rfl | cases h
  | BoolOp => cases h
  | IfExp => cases h
  | Compare => cases h
  | _ => rfl
def ownOk (c : CC) (own : List Nat) (ps : List (Str × Nat)) : Bool := decide (ps.map (fun x => x.2) = own)
def ownPs (c : CC) (own : List Nat) : List (Str × Nat) := own.filterMap fun i => (c.N[i]?).map fun x => (x, i)
def subB (p : Pat) (own : List Nat) : Bool := (patS p).all fun i => decide (i ∈ own)
def isTupE : Expr → Bool
  | .Tuple .. => true
  | _ => false
mutual
def chk : IE → CC → Bool → Expr → Bool
  | .lit d, c, m, e => (match d, e with
    | .int i, .Constant (.int j) _ _ => decide (i = j)
    | .bl b, .Constant (.bool b') _ _ => b == b'
    | .non, .Constant .none _ _ => true
    | .str x, .Constant (.str y) _ _ => decide (y = SO x) && okS x
    | _, _ => false)
  | .glo y d, c, m, e => (match e with
    | .Name x _ => decide (x = SO y) && glB c.sc x && csB x d c.cs && (x == ("__debug__" : Str)) == false
    | _ => false)
  | .var i, c, m, e => (match e with
    | .Name x _ => decide (c.N[i]? = some x) && visB c.sc x && (x == ("__debug__" : Str)) == false && (x == ("__classdict__" : Str)) == false
    | _ => false)
  | .bin o a b, c, m, e => (match e with
    | .BinOp ea op eb _ => opB o op && chk a c false ea && chk b c false eb
    | _ => false)
  | .neg a, c, m, e => (match e with
    | .UnaryOp .USub ea _ => chk a c false ea
    | _ => false)
  | .not a, c, m, e => (match e with
    | .UnaryOp .Not ea _ => chk a c m ea
    | _ => false)
  | .and a b, c, m, e => (match e with
    | .BoolOp .And (ea :: eb :: rest) pos => chk a c m ea && (match rest with
      | [] => chk b c m eb
      | _ => chk b c m (.BoolOp .And (eb :: rest) pos))
    | _ => false)
  | .or a b, c, m, e => (match e with
    | .BoolOp .Or (ea :: eb :: rest) pos => chk a c m ea && (match rest with
      | [] => chk b c m eb
      | _ => chk b c m (.BoolOp .Or (eb :: rest) pos))
    | _ => false)
  | .ite k a b, c, m, e => (match e with
    | .IfExp ek ea eb _ => !m && chk k c true ek && chk a c false ea && chk b c false eb
    | _ => false)
  | .cmp o a b, c, m, e => (match e with
    | .Compare ea [op] [eb] _ => coB o op && !behindInMarks op eb && chk a c false ea && chk b c false eb
    | _ => false)
  | .chn o o' a b d, c, m, e => (match e with
    | .Compare ea [op, op'] [eb, ed] _ => coB o op && coB o' op' && !behindInMarks op' ed && chk a c false ea && chk b c false eb && chk d c false ed
    | _ => false)
  | .tup es, c, m, e => (match e with
    | .Tuple l _ _ => chkA es c l
    | _ => false)
  | .lst es, c, m, e => (match e with
    | .List l _ => chkA es c l
    | _ => false)
  | .idx a b, c, m, e => (match e with
    | .Subscript ea eb _ => plainIxB eb && chk a c false ea && chk b c false eb
    | _ => false)
  | .sli a lo hi, c, m, e => (match e with
    | .Subscript ea (.Slice l h none _) _ => chk a c false ea && chkP lo c l && chkP hi c h
    | _ => false)
  | .call f es, c, m, e => (match e with
    | .Call (.Name x _) l [] _ => decide (c.gn[f]? = some x) && glB c.sc x && (x == ("__debug__" : Str)) == false && noStars l && chkA es c l
    | _ => false)
  | .blt b es, c, m, e => (match e with
    | .Call (.Name x _) (a :: l) [] _ => decide (x = bltN b) && frB c x && noStars (a :: l) && chkA es c (a :: l)
    | _ => false)
  | .isi a ts, c, m, e => (match e with
    | .Call (.Name x _) [ea, et] [] _ => decide (x = ("isinstance" : Str)) && frB c x && notStar ea && chk a c false ea && (match et with
      | .Name y _ => (match ts with
        | [t] => decide (y = Str.ofString (tyS t)) && frB c y
        | _ => false)
      | .Tuple es _ _ => tysB c ts es && decide (ts.length ≤ 100)
      | _ => false)
    | _ => false)
  | .mth mt a es, c, m, e => (match e with
    | .Call (.Attribute ea nm apos) l [] pos => decide (nm = mtN mt) && baseOk ea && (apos.endLine == pos.line) && chk a c false ea && (match l with
      | [] => mtArgs0 mt && (match es with
        | .nil => true
        | _ => false)
      | e :: r => mtArgs mt && decide (r.length < 28) && noStars (e :: r) && chkA es c (e :: r))
    | _ => false)
  | .comp own p it cc el, c, m, e => (match e with
    | .ListComp elt [⟨tg, iter, ifs, 0⟩] scope _ => blkC c.N c.sc scope (ownPs c own) && ownOk c own (ownPs c own) && subB p own && notSet iter && chkI it c tg iter &&
        patB' (c.blk scope) p tg && chkC cc (c.blk scope) ifs && chk el (c.blk scope) false elt
    | _ => false)
  | .alloc a, c, m, e => !m && isFresh a && chk a c false e
  | .calld f es ds, c, m, e => (match e with
    | .Call (.Name x _) (a :: l) [] _ => decide (c.gn[f]? = some x) && glB c.sc x && (x == ("__debug__" : Str)) == false && noStars (a :: l) && dsB f ds c.db && chkA es c (a :: l)
    | _ => false)
  | .callk f n k es ks perm, c, m, e => (match e with
    | .Call (.Name x _) l kws _ => decide (c.gn[f]? = some x) && glB c.sc x && (x == ("__debug__" : Str)) == false && noStars l && (match kwNames kws with
      | some nms => decide ((f, n, nms, perm) ∈ c.kb) && decide (nms.length = k)
      | none => false) && chkA es c l && chkK ks c kws
    | _ => false)
  | .rev a, c, m, e => (match e with
    | .Subscript ea (.Slice none none (some (.UnaryOp .USub (.Constant (.int i) _ _) _)) _) _ => decide (i = 1) && chk a c false ea
    | _ => false)
  | .isN a, c, m, e => (match e with
    | .Compare ea [.Is] [.Constant .none _ _] _ => chk a c false ea
    | _ => false)
  | .notN a, c, m, e => (match e with
    | .Compare ea [.IsNot] [.Constant .none _ _] _ => chk a c false ea
    | _ => false)
  | .lzip a b, c, m, e => (match e with
    | .Call (.Name x _) [.Call (.Name y _) [ea, eb] [] _] [] _ => decide (x = ("list" : Str)) && frB c x && decide (y = ("zip" : Str)) && frB c y && notStar ea && notStar eb && chk a c false ea && chk b c false eb
    | _ => false)
  | .srt a, c, m, e => (match e with
    | .Call (.Name x _) [ea] [⟨some y, .Name z _, _⟩] _ => decide (x = ("sorted" : Str)) && frB c x && decide (y = ("key" : Str)) && decide (z = ("len" : Str)) && frB c z && notStar ea && chk a c false ea
    | _ => false)
  | .stp a lo k, c, m, e => (match e with
    | .Subscript ea (.Slice none none (some (.Constant (.int i) _ _)) _) _ => decide (lo = 0) && decide (i = (k : Int)) && decide (1 ≤ k) && chk a c false ea
    | .Subscript ea (.Slice (some (.Constant (.int j) _ _)) none (some (.Constant (.int i) _ _)) _) _ => decide (j = (lo : Int)) && decide (i = (k : Int)) && decide (1 ≤ k) && chk a c false ea
    | _ => false)
  | _, _, _, _ => false
def chkK : IE → CC → List Keyword → Bool
  | .nil, _, l => l.isEmpty
  | .cons a r, c, l => (match l with
    | ⟨_, e, _⟩ :: es => chk a c false e && chkK r c es
    | [] => false)
  | _, _, _ => false
def chkA : IE → CC → List Expr → Bool
  | .nil, _, l => l.isEmpty
  | .cons a r, c, l => (match l with
    | e :: es => notStar e && chk a c false e && chkA r c es
    | [] => false)
  | _, _, _ => false
def chkP : IE → CC → Option Expr → Bool
  | .nil, _, o => o.isNone
  | .cons a _, c, o => (match o with
    | some e => chk a c false e
    | none => false)
  | _, _, _ => false
def chkC : IE → CC → List Expr → Bool
  | .nil, _, l => l.isEmpty
  | .cons a _, c, l => (match l with
    | [e] => chk a c true e
    | _ => false)
  | _, _, _ => false
def chkI : IE → CC → Expr → Expr → Bool
  | .rng1 a, c, _, e => (match e with
    | .Call (.Name x _) [ea] [] _ => decide (x = ("range" : Str)) && frB c x && notStar ea && chk a c false ea
    | _ => false)
  | .rng3 a b k, c, _, e => (match e with
    | .Call (.Name x _) [ea, eb, .Constant (.int i) _ _] [] _ => decide (x = ("range" : Str)) && frB c x && notStar ea && notStar eb && decide (i = (k : Int)) && chk a c false ea && chk b c false eb
    | _ => false)
  | .enum a, c, tg, e => (match e with
    | .Call (.Name x _) [ea] [] _ => decide (x = ("enumerate" : Str)) && frB c x && notStar ea && isTupE tg && chk a c false ea
    | _ => false)
  | .zip a b, c, tg, e => (match e with
    | .Call (.Name x _) [ea, eb] [] _ => decide (x = ("zip" : Str)) && frB c x && notStar ea && notStar eb && isTupE tg && chk a c false ea && chk b c false eb
    | _ => false)
  | .rng2 a b, c, _, e => (match e with
    | .Call (.Name x _) [ea, eb] [] _ => decide (x = ("range" : Str)) && frB c x && notStar ea && notStar eb && chk a c false ea && chk b c false eb
    | _ => false)
  | .cons a _, c, _, e => chk a c false e
  | _, _, _, _ => false
end
end Fb
set_option Elab.async false
set_option linter.all false
set_option maxRecDepth 100000
set_option maxHeartbeats 4000000
/-! Fb14: the checker's word is sound. -/
namespace Fb
open PySem PySem.Spec PyProof.Rows L2
theorem t_chn {X : Cx} {Z : Xt} {C : Cf} {W : WX} {a b c : Expr} {ia ib ic : IE} {pos : Pos} {o o' : Co} (hu : X.A.units + 65 < cLine) (ha : PE X a (Te X.K Z C W ia)) (hb : PE X b (Te X.K Z C W ib)) (hc : PE X c (Te X.K Z C W ic)) (hm : lastMarks [coOf o, coOf o'] [b, c] = false) :
    PT X (.Compare a [coOf o, coOf o'] [b, c] pos) (Tb X.K Z C W (.chn o o' ia ib ic)) :=
  (pt_chain (coOp hu o) (coOp hu o') ha hb hc hm).imp' fun σ H Q ⟨B, m, S, δ, t, e, h⟩ => by
    have h : FinG X.K Z B m H (fun c d h => W c d σ h) (M.bind (M.bind (evE C ia δ) fun x => M.bind (evE C ib δ) fun y => M.bind (cmpM o x y) fun t =>
      if t then M.bind (evE C ic δ) fun z => M.bind (cmpM o' y z) fun t' => M.ret (.bl t') else M.ret (.bl false)) truthM S) (PB Q) := h
    rw [bind_bind] at h
    refine (Mid.start t e).stepE h fun v d S1 m1 H1 l1 M1 r1 _ h1 => ?_
    rw [bind_bind] at h1
    refine M1.stepE h1 fun u d2 S2 m2 H2 l2 M2 r2 _ h2 => ?_
    rw [bind_bind] at h2
    unfold M.bind cmpM at h2
    cases q : cmpD S2 o d d2 with
    | none => rw [q] at h2; exact False.elim h2
    | some z =>
      rw [q] at h2
      refine ⟨B, m2, S2, d, d2, z, M2.t0, M1.val l2 r1, r2, q, z, rfl, ?_⟩
      cases z with
      | false => exact ⟨false, rfl, (M2.here (FinG.ret (show FinG X.K Z B m H _ (M.ret false S2) (PB Q) from h2))).now M2.t0⟩
      | true =>
        rw [if_pos rfl]
        have h2 : FinG X.K Z B m H (fun c d h => W c d σ h) (M.bind (M.bind (evE C ic δ) (fun z => M.bind (cmpM o' d2 z) fun t' => M.ret (.bl t'))) truthM S2) (PB Q) := h2
        rw [bind_bind] at h2
        refine M2.stepE h2 fun x3 d3 S3 m3 H3 l3 M3 r3 _ h3 => ?_
        rw [bind_bind] at h3
        unfold M.bind cmpM at h3
        cases q3 : cmpD S3 o' d2 d3 with
        | none => rw [q3] at h3; exact False.elim h3
        | some z3 =>
          rw [q3] at h3
          exact ⟨B, m3, S3, d2, d3, z3, M3.t0, M2.val l3 r2, r3, q3, z3, rfl, (M3.here (FinG.ret (show FinG X.K Z B m H _ (M.ret z3 S3) (PB Q) from h3))).now M3.t0⟩
/-- what is known of a context -/
structure Gc (Z : Xt) (C : Cf) (c : CC) (W : WX) (X : Cx) : Prop where
  calm : X.calm = true
  nd : X.N.Nodup
  N : X.N = c.N
  sc : X.env.scope = c.sc
  fn : X.fn = c.fn
  un : X.A.units + 65 < cLine
  tk : ∀ σ, PassesAt (L2.CX X.prog X.w) X σ (fun cls d H => W cls d σ H)
  fns : ∀ f x, c.gn[f]? = some x → ∃ k fa fd ps, FnOk X.prog X.w X.K X.mg X.base (L2.CX X.prog X.w) k fa fd ps (spF X.K Z (C.call f)) ∧ Room k X.A ∧ X.mg x = some (.ref fa) ∧ PySem.W.keepIn X.K (.ref fa) = true ∧ Binds X.K fd ps [] ∧
    (∀ ds, (f, ds) ∈ c.db → ∃ dvs dus, Binds X.K fd ps dus ∧ Vals dvs dus ∧ FlatVs ds dvs) ∧ ∀ n ks perm, (f, n, ks, perm) ∈ c.kb → KBn X.K fd ps ks n perm
  csk : ∀ x d, (x, d) ∈ c.cs → ∃ v u, X.mg x = some u ∧ RelV v u ∧ ∀ B m H, (∀ a ∈ m, H a ≠ none) → RelD X.K B m H d v
  fre : ∀ x, x ∈ c.fr → X.mg x = none
section
variable {Z : Xt} {C : Cf} {c : CC} {W : WX} {X : Cx}
theorem Gc.blk (g : Gc Z C c W X) (s : Shared) (H : Hp) (scope : Scope) (cl : List (Str × Addr)) (Cc : Addr) (fp : List Addr) : Gc Z C (c.blk scope) Wf (X.blk s H scope (compEnvC scope cl Cc X.env) fp) :=
  ⟨g.calm, g.nd, g.N, show relS scope X.env.scope = relS scope c.sc by rw [g.sc], rfl, g.un, fun σ => passAt (X := X.blk s H scope (compEnvC scope cl Cc X.env) fp) (W := Wf) takes0 σ, g.fns, g.csk, g.fre⟩
theorem Gc.gl (g : Gc Z C c W X) {x : Str} (h : glB c.sc x = true) : Gl X x := by
  show X.env.scope.names.lookup x = some .globalImplicit
  rw [g.sc]; exact gl_of h
theorem Gc.fr2 (g : Gc Z C c W X) {x : Str} (h : frB c x = true) : Gl X x ∧ X.mg x = none := by
  have h2 := Bool.and_eq_true_iff.mp h
  exact ⟨g.gl h2.1, g.fre x (of_decide_eq_true h2.2)⟩
theorem Gc.name (g : Gc Z C c W X) {i : Nat} {x : Str} (h : nameB c i x = true) : X.N[i]? = some x ∧ L2.Loc X.env.scope x ∧ (X.fn x = true ∨ X.env.scope.names.lookup x = some .local) := by
  unfold nameB at h
  simp only [Bool.and_eq_true, decide_eq_true_eq] at h
  obtain ⟨⟨h1, h2⟩, h3⟩ := h
  rw [g.N, g.sc, g.fn]
  exact ⟨h1, loc_of h2, (Bool.or_eq_true_iff.mp h3).imp id pl_of⟩
theorem Gc.names (g : Gc Z C c W X) : ∀ {is : List Nat} {xs : List (Str × Pos)}, namesB c is xs = true → xs.length = is.length ∧ ∀ q ∈ is.zip xs, X.N[q.1]? = some q.2.1 ∧ L2.Loc X.env.scope q.2.1 ∧ (X.fn q.2.1 = true ∨ X.env.scope.names.lookup q.2.1 = some .local)
  | [], [], _ => ⟨rfl, fun q hq => by simp at hq⟩
  | [], _ :: _, h => by cases h
  | _ :: _, [], h => by cases h
  | i :: is, (x, p) :: xs, h => by
    have h2 := Bool.and_eq_true_iff.mp (show (nameB c i x && namesB c is xs) = true from h)
    obtain ⟨h3, h4⟩ := g.names h2.2
    refine ⟨by simp [h3], fun q hq => ?_⟩
    rcases List.mem_cons.mp hq with e | e
    · rw [e]; exact g.name h2.1
    · exact h4 q e
theorem patB_tq {c : CC} {ps : Pat} {tg : Expr} (h : patB' c (.tq ps) tg = true) : ∃ es k p, tg = .Tuple es k p ∧ patsB c ps es = true := by
  cases tg <;> first | (simp [patB'] at h; done) | exact ⟨_, _, _, rfl, by simpa [patB'] using h⟩
theorem patB_star {c : CC} {p : Pat} {e : Expr} {es : List Expr} {env : Env} (h : patB' c p e = true) : assignEach (e :: es) env = (false, assign e env) :: assignEach es env := by
  cases e <;> first | rfl | (cases p <;> simp [patB'] at h)
mutual
theorem Gc.pat (g : Gc Z C c W X) : ∀ {p : Pat} {tg : Expr}, patB' c p tg = true → PG X tg (Tg X.K p)
  | .nm i, tg, h => by
    cases tg <;> first | (simp [patB'] at h; done) | skip
    rename_i x p
    have h : nameB c i x = true := by simpa [patB'] using h
    obtain ⟨h1, h2, h3⟩ := g.name h
    exact g_name g.nd h1 h2 h3
  | .tp is, tg, h => by
    cases tg <;> first | (simp [patB'] at h; done) | skip
    rename_i es k p
    simp only [patB'] at h
    split at h
    · rename_i q
      rw [nm_of q]
      obtain ⟨h1, h2⟩ := g.names h
      exact g_tup g.calm g.nd h1 h2
    · cases h
  | .tq ps, tg, h => by
    obtain ⟨es, k, p, rfl, h2⟩ := patB_tq h
    obtain ⟨h3, h4, h5⟩ := g.pats h2
    exact g_tq g.calm h3 h4 h5
  | .pn, tg, h => by cases tg <;> simp [patB'] at h
  | .pc _ _, tg, h => by cases tg <;> simp [patB'] at h
theorem Gc.pats (g : Gc Z C c W X) : ∀ {p : Pat} {es : List Expr}, patsB c p es = true → PGs X es (Tgs X.K p) ∧ (assignEach es X.env).length = patN p ∧ (assignEach es X.env).findIdx? (·.1) = none
  | .pn, es, h => by
    cases es with
    | nil => exact ⟨gs_nil, rfl, rfl⟩
    | cons => simp [patsB] at h
  | .pc p r, es, h => by
    cases es with
    | nil => simp [patsB] at h
    | cons e es =>
      have h2 : patB' c p e = true ∧ patsB c r es = true := by simpa [patsB] using h
      obtain ⟨h3, h4, h5⟩ := g.pats h2.2
      have h6 := patB_star (es := es) (env := X.env) h2.1
      refine ⟨gs_cons (g.pat h2.1) h3 (by rw [h6]; rfl), by rw [h6, List.length_cons, h4]; rfl, ?_⟩
      rw [h6, List.findIdx?_cons, h5]
      rfl
  | .nm _, es, h => by cases es <;> simp [patsB] at h
  | .tp _, es, h => by cases es <;> simp [patsB] at h
  | .tq _, es, h => by cases es <;> simp [patsB] at h
end
theorem Gc.tys (g : Gc Z C c W X) : ∀ {ts : List Ty} {es : List Expr}, tysB c ts es = true → ∃ ys : List (Ty × Pos), es = tyNames ys ∧ ys.map (·.1) = ts ∧ ∀ q ∈ ys, Gl X (Str.ofString (tyS q.1)) ∧ X.mg (Str.ofString (tyS q.1)) = none
  | [], [], _ => ⟨[], rfl, rfl, fun q hq => by cases hq⟩
  | [], e :: es, h => by cases h
  | y :: ys, [], h => by cases h
  | y :: ys, e :: es, h => by
    cases e with
    | Name x p =>
      have h : (decide (x = Str.ofString (tyS y)) && frB c x && tysB c ys es) = true := h
      simp only [Bool.and_eq_true, decide_eq_true_eq] at h
      obtain ⟨⟨rfl, h2⟩, h3⟩ := h
      obtain ⟨zs, rfl, h4, h5⟩ := g.tys h3
      refine ⟨(y, p) :: zs, rfl, by simp [h4], fun q hq => ?_⟩
      rcases List.mem_cons.mp hq with e | e
      · rw [e]; exact g.fr2 h2
      · exact h5 q e
    | _ => cases h
theorem pe_bool1 {op : BoolOp} {e : Expr} {pos : Pos} {t : TE} (h : PE X e t) : PE X (.BoolOp op [e] pos) t := ⟨h.run⟩
end
/-- the checker's word on an IR term -/
structure Snd (Z : Xt) (C : Cf) (ie : IE) : Prop where
  e : ∀ (c : CC) (W : WX) (X : Cx) (e : Expr), Gc Z C c W X → chk ie c false e = true → PE X e (Te X.K Z C W ie)
  t : ∀ (c : CC) (W : WX) (X : Cx) (e : Expr), Gc Z C c W X → chk ie c true e = true → PT X e (Tb X.K Z C W ie) ∧ ∀ op l p, e = .BoolOp op l p → PW X e (Tb X.K Z C W ie)
  a : ∀ (c : CC) (W : WX) (X : Cx) (es : List Expr), Gc Z C c W X → chkA ie c es = true → PA X es (Ta X.K Z C W ie)
  p : ∀ (c : CC) (W : WX) (X : Cx) (o : Option Expr), Gc Z C c W X → chkP ie c o = true → PO X o (Tp X.K Z C W ie)
  c : ∀ (c : CC) (W : WX) (X : Cx) (es : List Expr), Gc Z C c W X → chkC ie c es = true → PTs X es (Tc X.K Z C W ie)
  i : ∀ (c : CC) (W : WX) (X : Cx) (e tg : Expr), Gc Z C c W X → chkI ie c tg e = true → PI X tg e (Ti X.K Z C W ie)
  k : ∀ (c : CC) (W : WX) (X : Cx) (es : List Keyword), Gc Z C c W X → chkK ie c es = true → PK X es (Ta X.K Z C W ie)
section
variable {Z : Xt} {C : Cf}
theorem ff {p : Prop} {b : Bool} (h : b = true) (e : b = false) : p := by rw [e] at h; cases h
/-- an expression whose test is that of its value -/
theorem Snd.plain {ie : IE} (he : ∀ (c : CC) (W : WX) (X : Cx) (m : Bool) (e : Expr), Gc Z C c W X → chk ie c m e = true → plainT e = true ∧ PE X e (Te X.K Z C W ie)) (ha : ∀ c l, chkA ie c l = false) (hp : ∀ c l, chkP ie c l = false)
    (hc : ∀ c l, chkC ie c l = false) (hi : ∀ c e, (fun tg => chkI ie c tg e) = fun _ => false) (hk : ∀ c l, chkK ie c l = false := by intros; rfl) : Snd Z C ie :=
  ⟨fun c W X e g h => (he c W X false e g h).2, fun c W X e g h => ⟨s_truth (plainT_of (he c W X true e g h).1) (he c W X true e g h).2, fun op l p z => by
    have h1 := (he c W X true e g h).1
    rw [z] at h1; cases h1⟩, fun c W X l g h => ff h (ha c l), fun c W X l g h => ff h (hp c l), fun c W X l g h => ff h (hc c l), fun c W X e tg g h => ff h (congrFun (hi c e) tg), fun c W X l g h => ff h (hk c l)⟩
theorem snd_lit (d : D) : Snd Z C (.lit d) := Snd.plain (fun c W X m e g h => by
  unfold chk at h
  split at h
  · rename_i i j k p
    rw [← of_decide_eq_true h]
    exact ⟨rfl, s_int⟩
  · rw [← eq_of_beq h]
    exact ⟨rfl, s_bool⟩
  · exact ⟨rfl, s_none⟩
  · have h2 := Bool.and_eq_true_iff.mp h
    rw [of_decide_eq_true h2.1]
    exact ⟨rfl, s_str h2.2⟩
  · cases h) (fun _ _ => rfl) (fun _ _ => rfl) (fun _ _ => rfl) (fun _ _ => rfl)
theorem snd_glo (y : List Nat) (d : D) : Snd Z C (.glo y d) := Snd.plain (fun c W X m e g h => by
  unfold chk at h
  split at h
  · simp only [Bool.and_eq_true, decide_eq_true_eq, beq_iff_eq] at h
    obtain ⟨⟨⟨h1, h2⟩, h3⟩, h4⟩ := h
    obtain ⟨v, u, k1, k2, k3⟩ := g.csk _ _ (cs_of h3)
    exact ⟨rfl, s_glo (g.gl h2) k1 k2 k3 h4⟩
  · cases h) (fun _ _ => rfl) (fun _ _ => rfl) (fun _ _ => rfl) (fun _ _ => rfl)
theorem snd_var (i : Nat) : Snd Z C (.var i) := Snd.plain (fun c W X m e g h => by
  unfold chk at h
  split at h
  · simp only [Bool.and_eq_true, decide_eq_true_eq, beq_iff_eq] at h
    obtain ⟨⟨⟨h1, h2⟩, h3⟩, h4⟩ := h
    exact ⟨rfl, s_var (by rw [g.N]; exact h1) (by rw [g.sc]; exact vis_of h2) h3 h4⟩
  · cases h) (fun _ _ => rfl) (fun _ _ => rfl) (fun _ _ => rfl) (fun _ _ => rfl)
theorem snd_bin {o : Bo} {a b : IE} (sa : Snd Z C a) (sb : Snd Z C b) : Snd Z C (.bin o a b) := Snd.plain (fun c W X m e g h => by
  unfold chk at h
  split at h
  · simp only [Bool.and_eq_true] at h
    obtain ⟨⟨h1, h2⟩, h3⟩ := h
    rw [op_of h1]
    exact ⟨rfl, s_bin (sa.e c W X _ g h2) (sb.e c W X _ g h3)⟩
  · cases h) (fun _ _ => rfl) (fun _ _ => rfl) (fun _ _ => rfl) (fun _ _ => rfl)
theorem snd_neg {a : IE} (sa : Snd Z C a) : Snd Z C (.neg a) := Snd.plain (fun c W X m e g h => by
  unfold chk at h
  split at h
  · exact ⟨rfl, s_neg (sa.e c W X _ g h)⟩
  · cases h) (fun _ _ => rfl) (fun _ _ => rfl) (fun _ _ => rfl) (fun _ _ => rfl)
theorem snd_not {a : IE} (sa : Snd Z C a) : Snd Z C (.not a) := by
  refine ⟨fun c W X e g h => ?_, fun c W X e g h => ?_, fun c W X l g h => ff h rfl, fun c W X l g h => ff h rfl, fun c W X l g h => ff h rfl, fun c W X e tg g h => ff h rfl, fun c W X l g h => ff h rfl⟩
  · unfold chk at h
    split at h
    · exact s_not (sa.e c W X _ g h)
    · cases h
  · unfold chk at h
    split at h
    · exact ⟨t_not (sa.t c W X _ g h).1, fun op l p z => nomatch z⟩
    · cases h
theorem snd_and {a b : IE} (sa : Snd Z C a) (sb : Snd Z C b) : Snd Z C (.and a b) := by
  refine ⟨fun c W X e g h => ?_, fun c W X e g h => ?_, fun c W X l g h => ff h rfl, fun c W X l g h => ff h rfl, fun c W X l g h => ff h rfl, fun c W X e tg g h => ff h rfl, fun c W X l g h => ff h rfl⟩
  · unfold chk at h
    split at h
    · have h2 := Bool.and_eq_true_iff.mp h
      have h3 := h2.2
      split at h3
      · exact s_and (sa.e c W X _ g h2.1) (pe_bool1 (sb.e c W X _ g h3))
      · exact s_and (sa.e c W X _ g h2.1) (sb.e c W X _ g h3)
    · cases h
  · unfold chk at h
    split at h
    · rename_i ea eb rest pos
      have h2 := Bool.and_eq_true_iff.mp h
      have h3 := h2.2
      have k : PW X (.BoolOp .And (ea :: eb :: rest) pos) (Tb X.K Z C W (.and a b)) := by
        split at h3
        · exact t_and (sa.t c W X _ g h2.1).1 (pw_and1 (sb.t c W X _ g h3).1)
        · exact t_and (sa.t c W X _ g h2.1).1 ((sb.t c W X _ g h3).2 _ _ _ rfl)
      exact ⟨k.pt, fun op l p z => k⟩
    · cases h
theorem snd_or {a b : IE} (sa : Snd Z C a) (sb : Snd Z C b) : Snd Z C (.or a b) := by
  refine ⟨fun c W X e g h => ?_, fun c W X e g h => ?_, fun c W X l g h => ff h rfl, fun c W X l g h => ff h rfl, fun c W X l g h => ff h rfl, fun c W X e tg g h => ff h rfl, fun c W X l g h => ff h rfl⟩
  · unfold chk at h
    split at h
    · have h2 := Bool.and_eq_true_iff.mp h
      have h3 := h2.2
      split at h3
      · exact s_or (sa.e c W X _ g h2.1) (pe_bool1 (sb.e c W X _ g h3))
      · exact s_or (sa.e c W X _ g h2.1) (sb.e c W X _ g h3)
    · cases h
  · unfold chk at h
    split at h
    · rename_i ea eb rest pos
      have h2 := Bool.and_eq_true_iff.mp h
      have h3 := h2.2
      have k : PW X (.BoolOp .Or (ea :: eb :: rest) pos) (Tb X.K Z C W (.or a b)) := by
        split at h3
        · exact t_or (sa.t c W X _ g h2.1).1 (pw_or1 (sb.t c W X _ g h3).1)
        · exact t_or (sa.t c W X _ g h2.1).1 ((sb.t c W X _ g h3).2 _ _ _ rfl)
      exact ⟨k.pt, fun op l p z => k⟩
    · cases h
theorem snd_ite {k a b : IE} (sk : Snd Z C k) (sa : Snd Z C a) (sb : Snd Z C b) : Snd Z C (.ite k a b) := by
  refine ⟨fun c W X e g h => ?_, fun c W X e g h => ?_, fun c W X l g h => ff h rfl, fun c W X l g h => ff h rfl, fun c W X l g h => ff h rfl, fun c W X e tg g h => ff h rfl, fun c W X l g h => ff h rfl⟩
  · unfold chk at h
    split at h
    · simp only [Bool.and_eq_true] at h
      obtain ⟨⟨⟨_, h1⟩, h2⟩, h3⟩ := h
      exact s_ite (sk.t c W X _ g h1).1 (sa.e c W X _ g h2) (sb.e c W X _ g h3)
    · cases h
  · unfold chk at h
    split at h
    · simp only [Bool.and_eq_true] at h
      exact ff h.1.1.1 rfl
    · cases h
theorem snd_cmp {o : Co} {a b : IE} (sa : Snd Z C a) (sb : Snd Z C b) : Snd Z C (.cmp o a b) := by
  refine ⟨fun c W X e g h => ?_, fun c W X e g h => ?_, fun c W X l g h => ff h rfl, fun c W X l g h => ff h rfl, fun c W X l g h => ff h rfl, fun c W X e tg g h => ff h rfl, fun c W X l g h => ff h rfl⟩
  · unfold chk at h
    split at h
    · simp only [Bool.and_eq_true, Bool.not_eq_true'] at h
      obtain ⟨⟨⟨h1, h2⟩, h3⟩, h4⟩ := h
      rw [co_of h1] at h2 ⊢
      exact s_cmp g.un (sa.e c W X _ g h3) (sb.e c W X _ g h4) h2
    · cases h
  · unfold chk at h
    split at h
    · simp only [Bool.and_eq_true, Bool.not_eq_true'] at h
      obtain ⟨⟨⟨h1, h2⟩, h3⟩, h4⟩ := h
      rw [co_of h1] at h2 ⊢
      exact ⟨t_cmp g.un (sa.e c W X _ g h3) (sb.e c W X _ g h4) h2, fun op l p z => nomatch z⟩
    · cases h
theorem snd_chn {o o' : Co} {a b d : IE} (sa : Snd Z C a) (sb : Snd Z C b) (sd : Snd Z C d) : Snd Z C (.chn o o' a b d) := by
  refine ⟨fun c W X e g h => ?_, fun c W X e g h => ?_, fun c W X l g h => ff h rfl, fun c W X l g h => ff h rfl, fun c W X l g h => ff h rfl, fun c W X e tg g h => ff h rfl, fun c W X l g h => ff h rfl⟩
  · unfold chk at h
    split at h
    · simp only [Bool.and_eq_true, Bool.not_eq_true'] at h
      obtain ⟨⟨⟨⟨⟨h1, h2⟩, h3⟩, h4⟩, h5⟩, h6⟩ := h
      rw [co_of h1]
      rw [co_of h2] at h3 ⊢
      exact s_chn g.un (sa.e c W X _ g h4) (sb.e c W X _ g h5) (sd.e c W X _ g h6) h3
    · cases h
  · unfold chk at h
    split at h
    · simp only [Bool.and_eq_true, Bool.not_eq_true'] at h
      obtain ⟨⟨⟨⟨⟨h1, h2⟩, h3⟩, h4⟩, h5⟩, h6⟩ := h
      rw [co_of h1]
      rw [co_of h2] at h3 ⊢
      exact ⟨t_chn g.un (sa.e c W X _ g h4) (sb.e c W X _ g h5) (sd.e c W X _ g h6) h3, fun op l p z => nomatch z⟩
    · cases h
theorem snd_tup {es : IE} (s : Snd Z C es) : Snd Z C (.tup es) := Snd.plain (fun c W X m e g h => by
  unfold chk at h
  split at h
  · exact ⟨rfl, s_tup (s.a c W X _ g h)⟩
  · cases h) (fun _ _ => rfl) (fun _ _ => rfl) (fun _ _ => rfl) (fun _ _ => rfl)
theorem snd_lst {es : IE} (s : Snd Z C es) : Snd Z C (.lst es) := Snd.plain (fun c W X m e g h => by
  unfold chk at h
  split at h
  · exact ⟨rfl, s_lst (s.a c W X _ g h)⟩
  · cases h) (fun _ _ => rfl) (fun _ _ => rfl) (fun _ _ => rfl) (fun _ _ => rfl)
theorem snd_idx {a b : IE} (sa : Snd Z C a) (sb : Snd Z C b) : Snd Z C (.idx a b) := Snd.plain (fun c W X m e g h => by
  unfold chk at h
  split at h
  · simp only [Bool.and_eq_true] at h
    obtain ⟨⟨h1, h2⟩, h3⟩ := h
    exact ⟨rfl, s_idx (plainIx_of h1) (sa.e c W X _ g h2) (sb.e c W X _ g h3)⟩
  · cases h) (fun _ _ => rfl) (fun _ _ => rfl) (fun _ _ => rfl) (fun _ _ => rfl)
theorem snd_sli {a lo hi : IE} (sa : Snd Z C a) (sl : Snd Z C lo) (sh : Snd Z C hi) : Snd Z C (.sli a lo hi) := Snd.plain (fun c W X m e g h => by
  unfold chk at h
  split at h
  · simp only [Bool.and_eq_true] at h
    obtain ⟨⟨h1, h2⟩, h3⟩ := h
    exact ⟨rfl, s_sli (sa.e c W X _ g h1) (sl.p c W X _ g h2) (sh.p c W X _ g h3)⟩
  · cases h) (fun _ _ => rfl) (fun _ _ => rfl) (fun _ _ => rfl) (fun _ _ => rfl)
theorem snd_call {f : Nat} {es : IE} (s : Snd Z C es) : Snd Z C (.call f es) := Snd.plain (fun c W X m e g h => by
  unfold chk at h
  split at h
  · simp only [Bool.and_eq_true, decide_eq_true_eq, beq_iff_eq] at h
    obtain ⟨⟨⟨⟨h1, h2⟩, h3⟩, h4⟩, h5⟩ := h
    obtain ⟨k, fa, fd, ps, F, hr, hm, hk, hb, hrest⟩ := g.fns _ _ h1
    rename_i l p2
    cases l with
    | nil =>
      cases es with
      | nil => exact ⟨rfl, s_call0 F hr (g.gl h2) hm hk hb g.tk h3⟩
      | _ => exact ff h5 rfl
    | cons a r => exact ⟨rfl, s_call F hr (g.gl h2) hm hk hb g.tk (s.a c W X _ g h5) h3 h4⟩
  · cases h) (fun _ _ => rfl) (fun _ _ => rfl) (fun _ _ => rfl) (fun _ _ => rfl)
theorem snd_blt {b : Bt} {es : IE} (s : Snd Z C es) : Snd Z C (.blt b es) := Snd.plain (fun c W X m e g h => by
  unfold chk at h
  split at h
  · simp only [Bool.and_eq_true, decide_eq_true_eq] at h
    obtain ⟨⟨⟨rfl, h2⟩, h3⟩, h4⟩ := h
    obtain ⟨k1, k2⟩ := g.fr2 h2
    exact ⟨rfl, s_blt b g.calm k1 k2 (s.a c W X _ g h4) h3⟩
  · cases h) (fun _ _ => rfl) (fun _ _ => rfl) (fun _ _ => rfl) (fun _ _ => rfl)
theorem snd_isi {a : IE} {ts : List Ty} (s : Snd Z C a) : Snd Z C (.isi a ts) := Snd.plain (fun c W X m e g h => by
  unfold chk at h
  split at h
  · simp only [Bool.and_eq_true, decide_eq_true_eq] at h
    obtain ⟨⟨⟨⟨rfl, h2⟩, h3⟩, h4⟩, h5⟩ := h
    obtain ⟨k1, k2⟩ := g.fr2 h2
    split at h5
    · split at h5
      · simp only [Bool.and_eq_true, decide_eq_true_eq] at h5
        obtain ⟨rfl, h6⟩ := h5
        obtain ⟨k3, k4⟩ := g.fr2 h6
        exact ⟨rfl, s_isi1 k1 k2 k3 k4 (s.e c W X _ g h4) h3⟩
      · cases h5
    · simp only [Bool.and_eq_true, decide_eq_true_eq] at h5
      obtain ⟨ys, rfl, h7, h8⟩ := g.tys h5.1
      subst h7
      exact ⟨rfl, s_isiN k1 k2 h8 (by simpa using h5.2) (s.e c W X _ g h4) h3⟩
    · cases h5
  · cases h) (fun _ _ => rfl) (fun _ _ => rfl) (fun _ _ => rfl) (fun _ _ => rfl)
theorem snd_mth {mt : Mt} {a es : IE} (sa : Snd Z C a) (s : Snd Z C es) : Snd Z C (.mth mt a es) := Snd.plain (fun c W X m e g h => by
  unfold chk at h
  split at h
  · simp only [Bool.and_eq_true, decide_eq_true_eq] at h
    obtain ⟨⟨⟨⟨rfl, h2⟩, h3⟩, h4⟩, h5⟩ := h
    split at h5
    · have h6 := Bool.and_eq_true_iff.mp h5
      have h7 := h6.2
      split at h7
      · exact ⟨rfl, s_mth0 h6.1 h2 h3 (sa.e c W X _ g h4)⟩
      · cases h7
    · simp only [Bool.and_eq_true] at h5
      obtain ⟨⟨⟨h6, h7⟩, h8⟩, h9⟩ := h5
      exact ⟨rfl, s_mth h6 h2 h3 h7 h8 (sa.e c W X _ g h4) (s.a c W X _ g h9)⟩
  · cases h) (fun _ _ => rfl) (fun _ _ => rfl) (fun _ _ => rfl) (fun _ _ => rfl)
theorem snd_comp {own : List Nat} {p : Pat} {it cc el : IE} (si : Snd Z C it) (sc : Snd Z C cc) (se : Snd Z C el) : Snd Z C (.comp own p it cc el) := Snd.plain (fun c W X m e g h => by
  unfold chk at h
  split at h
  · simp only [Bool.and_eq_true] at h
    obtain ⟨⟨⟨⟨⟨⟨⟨h1, h2⟩, h3⟩, h4⟩, h5⟩, h6⟩, h7⟩, h8⟩ := h
    refine ⟨rfl, s_comp g.calm g.nd (si.i c W X _ _ g h5) (blkOk_by (own := ownPs c own) (by rw [g.N, g.sc]; exact h1)) (fun s H Cc cl fp => (g.blk s H _ cl Cc fp).pat h6) (fun s H Cc cl fp => sc.c _ _ _ _ (g.blk s H _ cl Cc fp) h7)
      (fun s H Cc cl fp => se.e _ _ _ _ (g.blk s H _ cl Cc fp) h8) (notSet_of h4) (fun i hi => of_decide_eq_true (List.all_eq_true.mp h3 i hi)) (of_decide_eq_true h2)⟩
  · cases h) (fun _ _ => rfl) (fun _ _ => rfl) (fun _ _ => rfl) (fun _ _ => rfl)
theorem snd_alloc {a : IE} (sa : Snd Z C a) : Snd Z C (.alloc a) := by
  refine ⟨fun c W X e g h => ?_, fun c W X e g h => ?_, fun c W X l g h => ff h rfl, fun c W X l g h => ff h rfl, fun c W X l g h => ff h rfl, fun c W X e tg g h => ff h rfl, fun c W X l g h => ff h rfl⟩
  · unfold chk at h
    simp only [Bool.and_eq_true] at h
    exact s_alloc h.1.2 (sa.e c W X _ g h.2)
  · unfold chk at h
    simp only [Bool.and_eq_true] at h
    exact ff h.1.1 rfl
theorem snd_nil : Snd Z C .nil := by
  refine ⟨fun c W X e g h => ff h rfl, fun c W X e g h => ff h rfl, fun c W X l g h => ?_, fun c W X o g h => ?_, fun c W X l g h => ?_, fun c W X e tg g h => ff h rfl, fun c W X l g h => ?_⟩
  rotate_left 3
  · cases l with
    | nil => exact s_knil
    | cons => cases h
  · cases l with
    | nil => exact s_nil
    | cons => cases h
  · cases o with
    | none => exact s_pnone
    | some => cases h
  · cases l with
    | nil => exact ⟨fun pins s σ H Q I q => pts_nil.run pins s σ H Q I (by
        obtain ⟨B, m, S, δ, t, e, h⟩ := q
        exact (FinG.ret (show FinG X.K Z B m H _ (M.ret true S) (PB Q) from h)).now t)⟩
    | cons => cases h
theorem snd_cons {a r : IE} (sa : Snd Z C a) (sr : Snd Z C r) : Snd Z C (.cons a r) := by
  refine ⟨fun c W X e g h => ff h rfl, fun c W X e g h => ff h rfl, fun c W X l g h => ?_, fun c W X o g h => ?_, fun c W X l g h => ?_, fun c W X e tg g h => ?_, fun c W X l g h => ?_⟩
  · cases l with
    | nil => cases h
    | cons e es =>
      have h : (notStar e && chk a c false e && chkA r c es) = true := h
      simp only [Bool.and_eq_true] at h
      exact s_cons h.1.1 (sa.e c W X _ g h.1.2) (sr.a c W X _ g h.2)
  · cases o with
    | none => cases h
    | some e => exact s_psome (sa.e c W X _ g h)
  · cases l with
    | nil => cases h
    | cons e es =>
      cases es with
      | nil => exact pts_one (sa.t c W X _ g h).1
      | cons => cases h
  · exact i_val (sa.e c W X _ g h)
  · cases l with
    | nil => cases h
    | cons kw es =>
      obtain ⟨nm, e, p⟩ := kw
      have h : (chk a c false e && chkK r c es) = true := h
      have h2 := Bool.and_eq_true_iff.mp h
      exact s_kcons (sa.e c W X _ g h2.1) (sr.k c W X _ g h2.2)
theorem snd_rng1 {a : IE} (sa : Snd Z C a) : Snd Z C (.rng1 a) := by
  refine ⟨fun c W X e g h => ff h rfl, fun c W X e g h => ff h rfl, fun c W X l g h => ff h rfl, fun c W X o g h => ff h rfl, fun c W X l g h => ff h rfl, fun c W X e tg g h => ?_, fun c W X l g h => ff h rfl⟩
  unfold chkI at h
  split at h
  · simp only [Bool.and_eq_true, decide_eq_true_eq] at h
    obtain ⟨⟨⟨rfl, h2⟩, h3⟩, h4⟩ := h
    obtain ⟨k1, k2⟩ := g.fr2 h2
    exact i_rng1 k1 k2 h3 (sa.e c W X _ g h4)
  · cases h
theorem snd_rng2 {a b : IE} (sa : Snd Z C a) (sb : Snd Z C b) : Snd Z C (.rng2 a b) := by
  refine ⟨fun c W X e g h => ff h rfl, fun c W X e g h => ff h rfl, fun c W X l g h => ff h rfl, fun c W X o g h => ff h rfl, fun c W X l g h => ff h rfl, fun c W X e tg g h => ?_, fun c W X l g h => ff h rfl⟩
  unfold chkI at h
  split at h
  · simp only [Bool.and_eq_true, decide_eq_true_eq] at h
    obtain ⟨⟨⟨⟨⟨rfl, h2⟩, h3⟩, h4⟩, h5⟩, h6⟩ := h
    obtain ⟨k1, k2⟩ := g.fr2 h2
    exact i_rng2 k1 k2 h3 h4 (sa.e c W X _ g h5) (sb.e c W X _ g h6)
  · cases h
theorem snd_rng3 {a b : IE} {k : Nat} (sa : Snd Z C a) (sb : Snd Z C b) : Snd Z C (.rng3 a b k) := by
  refine ⟨fun c W X e g h => ff h rfl, fun c W X e g h => ff h rfl, fun c W X l g h => ff h rfl, fun c W X o g h => ff h rfl, fun c W X l g h => ff h rfl, fun c W X e tg g h => ?_, fun c W X l g h => ff h rfl⟩
  unfold chkI at h
  split at h
  · simp only [Bool.and_eq_true, decide_eq_true_eq] at h
    obtain ⟨⟨⟨⟨⟨⟨rfl, h2⟩, h3⟩, h4⟩, rfl⟩, h5⟩, h6⟩ := h
    obtain ⟨k1, k2⟩ := g.fr2 h2
    exact i_rng3 k1 k2 h3 h4 (sa.e c W X _ g h5) (sb.e c W X _ g h6)
  · cases h
theorem isTup_of {e : Expr} (h : isTupE e = true) : ∃ es k p, e = .Tuple es k p := by
  cases e <;> first | exact ⟨_, _, _, rfl⟩ | cases h
theorem snd_enum {a : IE} (sa : Snd Z C a) : Snd Z C (.enum a) := by
  refine ⟨fun c W X e g h => ff h rfl, fun c W X e g h => ff h rfl, fun c W X l g h => ff h rfl, fun c W X o g h => ff h rfl, fun c W X l g h => ff h rfl, fun c W X e tg g h => ?_, fun c W X l g h => ff h rfl⟩
  unfold chkI at h
  split at h
  · simp only [Bool.and_eq_true, decide_eq_true_eq] at h
    obtain ⟨⟨⟨⟨rfl, h2⟩, h3⟩, h4⟩, h5⟩ := h
    obtain ⟨k1, k2⟩ := g.fr2 h2
    obtain ⟨es, k, p, rfl⟩ := isTup_of h4
    exact i_enum k1 k2 h3 (sa.e c W X _ g h5)
  · cases h
theorem snd_zip {a b : IE} (sa : Snd Z C a) (sb : Snd Z C b) : Snd Z C (.zip a b) := by
  refine ⟨fun c W X e g h => ff h rfl, fun c W X e g h => ff h rfl, fun c W X l g h => ff h rfl, fun c W X o g h => ff h rfl, fun c W X l g h => ff h rfl, fun c W X e tg g h => ?_, fun c W X l g h => ff h rfl⟩
  unfold chkI at h
  split at h
  · simp only [Bool.and_eq_true, decide_eq_true_eq] at h
    obtain ⟨⟨⟨⟨⟨⟨rfl, h2⟩, h3⟩, h4⟩, h5⟩, h6⟩, h7⟩ := h
    obtain ⟨k1, k2⟩ := g.fr2 h2
    obtain ⟨es, k, p, rfl⟩ := isTup_of h5
    exact i_zip k1 k2 h3 h4 (sa.e c W X _ g h6) (sb.e c W X _ g h7)
  · cases h
theorem snd_isN {a : IE} (sa : Snd Z C a) : Snd Z C (.isN a) := by
  refine ⟨fun c W X e g h => ?_, fun c W X e g h => ?_, fun c W X l g h => ff h rfl, fun c W X l g h => ff h rfl, fun c W X l g h => ff h rfl, fun c W X e tg g h => ff h rfl, fun c W X l g h => ff h rfl⟩
  · unfold chk at h
    split at h
    · exact s_isN (sa.e c W X _ g h)
    · cases h
  · unfold chk at h
    split at h
    · exact ⟨t_isN (sa.e c W X _ g h), fun op l p z => nomatch z⟩
    · cases h
theorem snd_notN {a : IE} (sa : Snd Z C a) : Snd Z C (.notN a) := by
  refine ⟨fun c W X e g h => ?_, fun c W X e g h => ?_, fun c W X l g h => ff h rfl, fun c W X l g h => ff h rfl, fun c W X l g h => ff h rfl, fun c W X e tg g h => ff h rfl, fun c W X l g h => ff h rfl⟩
  · unfold chk at h
    split at h
    · exact s_notN (sa.e c W X _ g h)
    · cases h
  · unfold chk at h
    split at h
    · exact ⟨t_notN (sa.e c W X _ g h), fun op l p z => nomatch z⟩
    · cases h
theorem snd_lzip {a b : IE} (sa : Snd Z C a) (sb : Snd Z C b) : Snd Z C (.lzip a b) := Snd.plain (fun c W X m e g h => by
  unfold chk at h
  split at h
  · simp only [Bool.and_eq_true, decide_eq_true_eq] at h
    obtain ⟨⟨⟨⟨⟨⟨⟨rfl, h2⟩, rfl⟩, h4⟩, h5⟩, h6⟩, h7⟩, h8⟩ := h
    obtain ⟨k1, k2⟩ := g.fr2 h2
    obtain ⟨k3, k4⟩ := g.fr2 h4
    exact ⟨rfl, e_lzip g.calm k1 k2 k3 k4 h5 h6 (sa.e c W X _ g h7) (sb.e c W X _ g h8)⟩
  · cases h) (fun _ _ => rfl) (fun _ _ => rfl) (fun _ _ => rfl) (fun _ _ => rfl)
theorem snd_rev {a : IE} (sa : Snd Z C a) : Snd Z C (.rev a) := Snd.plain (fun c W X m e g h => by
  unfold chk at h
  split at h
  · simp only [Bool.and_eq_true, decide_eq_true_eq] at h
    obtain ⟨rfl, h2⟩ := h
    exact ⟨rfl, s_rev (sa.e c W X _ g h2)⟩
  · cases h) (fun _ _ => rfl) (fun _ _ => rfl) (fun _ _ => rfl) (fun _ _ => rfl)
theorem snd_srt {a : IE} (sa : Snd Z C a) : Snd Z C (.srt a) := Snd.plain (fun c W X m e g h => by
  unfold chk at h
  split at h
  · simp only [Bool.and_eq_true, decide_eq_true_eq] at h
    obtain ⟨⟨⟨⟨⟨⟨rfl, h2⟩, rfl⟩, rfl⟩, h5⟩, h6⟩, h7⟩ := h
    obtain ⟨k1, k2⟩ := g.fr2 h2
    obtain ⟨k3, k4⟩ := g.fr2 h5
    exact ⟨rfl, s_srt g.calm k1 k2 k3 k4 (sa.e c W X _ g h7) h6⟩
  · cases h) (fun _ _ => rfl) (fun _ _ => rfl) (fun _ _ => rfl) (fun _ _ => rfl)
theorem snd_stp {a : IE} {lo k : Nat} (sa : Snd Z C a) : Snd Z C (.stp a lo k) := Snd.plain (fun c W X m e g h => by
  unfold chk at h
  split at h
  · simp only [Bool.and_eq_true, decide_eq_true_eq] at h
    obtain ⟨⟨⟨rfl, rfl⟩, h2⟩, h3⟩ := h
    exact ⟨rfl, s_stp (b := false) (p1 := default) (j := 0) h2 (fun _ => rfl) (sa.e c W X _ g h3)⟩
  · simp only [Bool.and_eq_true, decide_eq_true_eq] at h
    obtain ⟨⟨⟨rfl, rfl⟩, h2⟩, h3⟩ := h
    exact ⟨rfl, s_stp (b := true) h2 (fun z => nomatch z) (sa.e c W X _ g h3)⟩
  · cases h) (fun _ _ => rfl) (fun _ _ => rfl) (fun _ _ => rfl) (fun _ _ => rfl)
theorem snd_calld {f : Nat} {es : IE} {ds : List D} (s : Snd Z C es) : Snd Z C (.calld f es ds) := Snd.plain (fun c W X m e g h => by
  unfold chk at h
  split at h
  · simp only [Bool.and_eq_true, decide_eq_true_eq, beq_iff_eq] at h
    obtain ⟨⟨⟨⟨⟨h1, h2⟩, h3⟩, h4⟩, h5⟩, h6⟩ := h
    obtain ⟨k, fa, fd, ps, F, hr, hm, hk, hb, hd, _⟩ := g.fns _ _ h1
    obtain ⟨dvs, dus, b1, b2, b3⟩ := hd ds (ds_of h5)
    exact ⟨rfl, s_calld F hr (g.gl h2) hm hk b1 b2 b3 g.tk (s.a c W X _ g h6) h3 h4⟩
  · cases h) (fun _ _ => rfl) (fun _ _ => rfl) (fun _ _ => rfl) (fun _ _ => rfl)
theorem snd_callk {f n k : Nat} {es ks : IE} {perm : List Nat} (s : Snd Z C es) (sk : Snd Z C ks) : Snd Z C (.callk f n k es ks perm) := Snd.plain (fun c W X m e g h => by
  unfold chk at h
  split at h
  · rename_i x p l kws p2
    cases q : kwNames kws with
    | none => simp only [q, Bool.and_false, Bool.false_and] at h; exact ff h rfl
    | some nms =>
      simp only [q, Bool.and_eq_true, decide_eq_true_eq, beq_iff_eq] at h
      obtain ⟨⟨⟨⟨⟨⟨h1, h2⟩, h3⟩, h4⟩, h5, h5'⟩, h6⟩, h7⟩ := h
      obtain ⟨k, fa, fd, ps, F, hr, hm, hk, hb, hd, hkb⟩ := g.fns _ _ h1
      cases l with
      | nil =>
        cases es with
        | nil => exact ⟨rfl, s_callk0 F hr (g.gl h2) hm hk (hkb _ _ _ h5) g.tk (sk.k c W X _ g h7) q h5' h3⟩
        | _ => exact ff h6 rfl
      | cons a r => exact ⟨rfl, s_callk F hr (g.gl h2) hm hk (hkb _ _ _ h5) g.tk (s.a c W X _ g h6) (sk.k c W X _ g h7) q h5' h3 h4⟩
  · cases h) (fun _ _ => rfl) (fun _ _ => rfl) (fun _ _ => rfl) (fun _ _ => rfl)
theorem snd_no {ie : IE} (he : ∀ c m e, chk ie c m e = false) (ha : ∀ c l, chkA ie c l = false) (hp : ∀ c l, chkP ie c l = false) (hc : ∀ c l, chkC ie c l = false) (hi : ∀ c e, (fun tg => chkI ie c tg e) = fun _ => false) (hk : ∀ c l, chkK ie c l = false := by intros; rfl) : Snd Z C ie :=
  ⟨fun c W X e g h => ff h (he ..), fun c W X e g h => ff h (he ..), fun c W X l g h => ff h (ha ..), fun c W X o g h => ff h (hp ..), fun c W X l g h => ff h (hc ..), fun c W X e tg g h => ff h (congrFun (hi c e) tg), fun c W X l g h => ff h (hk c l)⟩
/-- the checker is sound -/
theorem snd : ∀ ie : IE, Snd Z C ie := fun ie => by
  induction ie with
  | lit d => exact snd_lit d
  | glo x d => exact snd_glo x d
  | var i => exact snd_var i
  | nil => exact snd_nil
  | cons a r sa sr => exact snd_cons sa sr
  | bin o a b sa sb => exact snd_bin sa sb
  | neg a sa => exact snd_neg sa
  | not a sa => exact snd_not sa
  | and a b sa sb => exact snd_and sa sb
  | or a b sa sb => exact snd_or sa sb
  | ite k a b sk sa sb => exact snd_ite sk sa sb
  | cmp o a b sa sb => exact snd_cmp sa sb
  | chn o o' a b c sa sb sc => exact snd_chn sa sb sc
  | tup es s => exact snd_tup s
  | lst es s => exact snd_lst s
  | idx a b sa sb => exact snd_idx sa sb
  | sli a lo hi sa sl sh => exact snd_sli sa sl sh
  | call f es s => exact snd_call s
  | blt b es s => exact snd_blt s
  | isi a t s => exact snd_isi s
  | mth m a es sa s => exact snd_mth sa s
  | comp own p it c e si sc se => exact snd_comp si sc se
  | rng1 a sa => exact snd_rng1 sa
  | rng2 a b sa sb => exact snd_rng2 sa sb
  | alloc a sa => exact snd_alloc sa
  | rng3 a b k sa sb => exact snd_rng3 sa sb
  | enum a sa => exact snd_enum sa
  | zip a b sa sb => exact snd_zip sa sb
  | rev a sa => exact snd_rev sa
  | isN a sa => exact snd_isN sa
  | notN a sa => exact snd_notN sa
  | lzip a b sa sb => exact snd_lzip sa sb
  | stp a lo k sa => exact snd_stp sa
  | srt a sa => exact snd_srt sa
  | calld f a ds sa => exact snd_calld sa
  | callk f n m a b perm sa sb => exact snd_callk sa sb
end
end Fb
set_option Elab.async false
set_option linter.all false
set_option maxRecDepth 100000
set_option maxHeartbeats 4000000
/-! Fb15: the checker for statements. -/
namespace Fb
open PySem PySem.Spec PyProof.Rows L2
def blkK (sc : Scope) : ScopeKind := if sc.kind.isAnnotationScope then ScopeKind.function else sc.kind
/-- what swappedStores answers, by the scope alone -/
def swSc (ts vs : List Expr) (sc : Scope) : Option (Option (List Str)) :=
  if (!(ts.length == 2 || ts.length == 3) || vs.length != ts.length || blkK sc != .function) = true then some none
  else if (vs.any fun | .Starred .. => true | _ => false) = true then some none
  else if ((ts.filterMap fun
      | .Name id pos => if sc.names.lookup id == some .local && pos.line == (ts.head?.map (·.pos.line)).getD 0 then some id else none
      | _ => none).length != ts.length || (ts.filterMap fun
      | .Name id pos => if sc.names.lookup id == some .local && pos.line == (ts.head?.map (·.pos.line)).getD 0 then some id else none
      | _ => none).eraseDups.length != (ts.filterMap fun
      | .Name id pos => if sc.names.lookup id == some .local && pos.line == (ts.head?.map (·.pos.line)).getD 0 then some id else none
      | _ => none).length) = true then some none
  else if (vs.all (foldedForSure 8)) = true then some none
  else if (vs.all (constantsAlone 8)) = true then none
  else some (some (ts.filterMap fun
      | .Name id pos => if sc.names.lookup id == some .local && pos.line == (ts.head?.map (·.pos.line)).getD 0 then some id else none
      | _ => none))
theorem sw_sc {ts vs : List Expr} {k k2 : Nat} {p p2 : Pos} {env : Env} {r : Option (List Str)} (h : swSc ts vs env.scope = some r) : swappedStores [.Tuple ts k p] (.Tuple vs k2 p2) env = pure r := by
  unfold swSc at h
  unfold swappedStores
  dsimp only
  split at h
  · rename_i c
    exact (if_pos c).trans (by cases h; rfl)
  · rename_i c
    refine (if_neg c).trans ?_
    split at h
    · rename_i c2
      exact (if_pos c2).trans (by cases h; rfl)
    · rename_i c2
      refine (if_neg c2).trans ?_
      split at h
      · rename_i c3
        exact (if_pos c3).trans (by cases h; rfl)
      · rename_i c3
        refine (if_neg c3).trans ?_
        split at h
        · rename_i c4
          exact (if_pos c4).trans (by cases h; rfl)
        · rename_i c4
          refine (if_neg c4).trans ?_
          split at h
          · cases h
          · rename_i c5
            exact (if_neg c5).trans (by cases h; rfl)
/-- the comprehension of a term, a cell or not -/
def compOf : IE → Option (List Nat × Pat × IE × IE × IE)
  | .comp own p it cc el => some (own, p, it, cc, el)
  | .alloc (.comp own p it cc el) => some (own, p, it, cc, el)
  | _ => none
def setC (c : CC) (e : IE) (x : Str) (py : Pos) (v : Expr) : Bool := match compOf e, v with
  | some (own, p, it, cc, el), .ListComp elt [⟨tg, iter, ifs, 0⟩] scope pos => chk (.comp own p it cc el) c false v && plB c.sc x && decide (c.sc.kind = .function) && (py.line == pos.line) &&
      !(scope.names.any fun (n, k) => n == x && (k == .local || k == .cell))
  | _, _ => false
def stNone (c : CC) (ts : List Expr) (v : Expr) : Bool := match v with
  | .Tuple vs _ _ => decide (swSc ts vs c.sc = some none)
  | _ => true
/-- a suite's expression -/
def chkHL (d : D) (e : Expr) : Bool := match d, e with
  | .int i, .Constant (.int j) _ _ => decide (i = j)
  | .bl b, .Constant (.bool b') _ _ => b == b'
  | .non, .Constant .none _ _ => true
  | .str x, .Constant (.str y) _ _ => decide (y = SO x) && okS x
  | _, _ => false
mutual
def chkH (c : CC) (nm : Option Nat) : HE → Expr → Bool
  | .lit d, e => chkHL d e
  | .fld k j, e => (match e with
    | .Attribute (.Name x _) f _ => (match nm with
      | some i => decide (c.N[i]? = some x) && visB c.sc x && (x == ("__debug__" : Str)) == false && (x == ("__classdict__" : Str)) == false
      | none => false) && (match c.xt[k]? with
      | some (_, fs) => decide (fs[j]? = some f)
      | none => false)
    | _ => false)
  | .tup es, e => (match e with
    | .Tuple l _ _ => chkHs c nm es l
    | _ => false)
  | _, _ => false
def chkHs (c : CC) (nm : Option Nat) : HE → List Expr → Bool
  | .nil, l => l.isEmpty
  | .cons a r, l => (match l with
    | e :: es => notStar e && chkH c nm a e && chkHs c nm r es
    | [] => false)
  | _, _ => false
end
/-- the classes that a clause names -/
def clsE : Expr → Option (List (Str × Pos))
  | .Name x p => some [(x, p)]
  | .Tuple es _ _ => nmOf es
  | _ => none
def chkHd (c : CC) (h : Hnd) : ExceptHandler → Bool
  | .ExceptHandler (some te) n [st] _ => (match clsE te with
    | some xs => decide (xs.map (·.1) = h.ns.map SO) && decide ((xs.map (·.1), h.cs) ∈ c.ht) && (xs.all fun q => glB c.sc q.1 && (q.1 == ("__debug__" : Str)) == false) && decide (xs.length ≤ 100)
    | none => false) && (match n, h.nm with
    | none, none => true
    | some x, some i => decide (c.N[i]? = some x) && plB c.sc x
    | _, _ => false) && HE.ok (bodyHE h.body) && (!fldsIn (bodyHE h.body) || h.nm.isSome) && (match h.body, st with
    | .ret e, .Return (some v) _ => chkH c h.nm e v
    | .set i e, .Assign [.Name x _] v _ => nameB c i x && notComp v && chkH c h.nm e v
    | _, _ => false)
  | _ => false
def chkHds (c : CC) : List Hnd → List ExceptHandler → Bool
  | [], [] => true
  | h :: r, e :: es => chkHd c h e && chkHds c r es
  | _, _ => false
mutual
def chkS : IS → CC → Stmt → Bool
  | .skip, _, st => (match st with
    | .Pass _ => true
    | _ => false)
  | .ex e, c, st => (match st with
    | .Expr v _ => notComp v && chk e c false v
    | _ => false)
  | .set i e, c, st => (match st with
    | .Assign [.Name x py] v _ => nameB c i x && ((notComp v && chk e c false v) || setC c e x py v)
    | _ => false)
  | .setP is e, c, st => (match st with
    | .Assign [.Tuple ts _ _] v _ => (match nmOf ts with
      | some xs => namesB c is xs && chk e c false v && stNone c ts v
      | none => false)
    | _ => false)
  | .setQ p e, c, st => (match st with
    | .Assign [.Tuple ts k tp] v _ => patB' c p (.Tuple ts k tp) && chk e c false v && stNone c ts v
    | _ => false)
  | .par is es, c, st => (match st with
    | .Assign [.Tuple [.Name x px, .Name y py] _ _] (.Tuple [a, b] _ _) _ => (match is with
      | [i, j] => nameB c i x && nameB c j y && plB c.sc x && plB c.sc y && decide (i ≠ j) && chkA es c [a, b] && decide (swSc [.Name x px, .Name y py] [a, b] c.sc = some (some [x, y]))
      | _ => false)
    | .Assign [.Tuple [.Name x px, .Name y py, .Name z pz] _ _] (.Tuple [a, b, d] _ _) _ => (match is with
      | [i, j, l] => nameB c i x && nameB c j y && nameB c l z && plB c.sc x && plB c.sc y && plB c.sc z && decide (i ≠ j) && decide (i ≠ l) && decide (j ≠ l) && chkA es c [a, b, d] &&
          decide (swSc [.Name x px, .Name y py, .Name z pz] [a, b, d] c.sc = some (some [x, y, z]))
      | _ => false)
    | _ => false)
  | .put a i e, c, st => (match st with
    | .Assign [.Subscript ea ei _] v _ => plainIxB ei && chk a c false ea && chk i c false ei && chk e c false v
    | _ => false)
  | .aug o i e, c, st => (match st with
    | .AugAssign (.Name x _) op v _ => (decide (o = .add) || decide (o = .sub)) && opB o op && nameB c i x && chk e c false v
    | _ => false)
  | .ite k a b, c, st => (match st with
    | .If ek la lb _ => chk k c true ek && chkB a c la && chkB b c lb
    | _ => false)
  | .whl k b, c, st => (match st with
    | .While ek lb [] _ => chk k c true ek && chkB b c lb
    | _ => false)
  | .for p it b, c, st => (match st with
    | .For tg iter lb [] _ => notSet iter && chkI it c tg iter && patB' c p tg && chkB b c lb
    | _ => false)
  | .ret e, c, st => (match st with
    | .Return (some v) _ => chk e c false v
    | _ => false)
  | .retN, _, st => (match st with
    | .Return none _ => true
    | _ => false)
  | .brk, _, st => (match st with
    | .Break _ => true
    | _ => false)
  | .cnt, _, st => (match st with
    | .Continue _ => true
    | _ => false)
  | .augS o a i e, c, st => (match st with
    | .AugAssign (.Subscript ea ei _) op v _ => (decide (o = .add) || decide (o = .sub)) && opB o op && plainIxB ei && chk a c false ea && chk i c false ei && chk e c false v
    | _ => false)
  | .rse k n es, c, st => (match st with
    | .Raise (some (.Call (.Name x _) (e :: l) [] _)) none _ => (match c.xt[k]? with
      | some (y, fs) => decide (x = y) && decide (n = fs.length) && glB c.sc x && (x == ("__debug__" : Str)) == false && noStars (e :: l) && chkA es c (e :: l)
      | none => false)
    | _ => false)
  | .try b hs, c, st => (match st with
    | .Try body (h :: hds) [] [] _ => chkB b c body && chkHds c hs (h :: hds)
    | _ => false)
  | _, _, _ => false
def chkB : IS → CC → List Stmt → Bool
  | .skip, _, l => l.isEmpty
  | .seq a b, c, l => (match l with
    | st :: rest => chkS a c st && chkB b c rest
    | [] => false)
  | _, _, _ => false
end
section
variable {Z : Xt} {C : Cf}
/-- what a checked comprehension gives -/
theorem ss_setX {c : CC} {W : WX} {X : Cx} {e : IE} {i : Nat} {x : Str} {py pos : Pos} {v : Expr} (g : Gc Z C c W X) (hn : nameB c i x = true) (h : setC c e x py v = true) : PS X (.Assign [.Name x py] v pos) (Ss X.K Z C W (.set i e)) := by
  unfold setC at h
  split at h
  · rename_i own p it cc el elt tg iter ifs scope cpos q
    simp only [Bool.and_eq_true, Bool.not_eq_true', decide_eq_true_eq] at h
    obtain ⟨⟨⟨⟨h0, k1⟩, k2⟩, k3⟩, k4⟩ := h
    unfold chk at h0
    simp only [Bool.and_eq_true] at h0
    obtain ⟨⟨⟨⟨⟨⟨⟨h1, h2⟩, h3⟩, h4⟩, h5⟩, h6⟩, h7⟩, h8⟩ := h0
    obtain ⟨n1, n2, n3⟩ := g.name hn
    refine ss_setC g.nd n1 (by rw [g.sc]; exact pl_of k1) (by rw [g.sc]; exact k2) k3 k4 g.calm ((snd it).i c W X _ _ g h5) (blkOk_by (own := ownPs c own) (by rw [g.N, g.sc]; exact h1)) (fun s H Cc cl fp => (g.blk s H _ cl Cc fp).pat h6)
      (fun s H Cc cl fp => (snd cc).c _ _ _ _ (g.blk s H _ cl Cc fp) h7) (fun s H Cc cl fp => (snd el).e _ _ _ _ (g.blk s H _ cl Cc fp) h8) (notSet_of h4) (fun i hi => of_decide_eq_true (List.all_eq_true.mp h3 i hi)) (of_decide_eq_true h2) ?_
    intro σ H Q ht
    unfold compOf at q
    split at q
    · cases q; exact ht
    · cases q
      exact alloc_step rfl ht
    · cases q
  · cases h
/-- what is known of a def's body's context -/
structure Gs (Z : Xt) (C : Cf) (c : CC) (W : WX) (X : Cx) : Prop extends Gc Z C c W X where
  tks : Takes X W
  stk : X.stack = X.env :: X.outer
  frm : X.env.frame = some X.env.locals
  two : 2 ≤ C.lv → Room 2 X.A
  xcs : ∀ k x fs, c.xt[k]? = some (x, fs) → ∃ d : XcD, d.name = x ∧ d.flds = fs ∧ XcH X Z k d
  hts : ∀ xs ids, (xs, ids) ∈ c.ht → ∃ vs : List Value, vs.length = xs.length ∧ (∀ (i : Nat) (x : Str), xs[i]? = some x → ∃ v, vs[i]? = some v ∧ X.mg x = some v) ∧ ∀ k C fs, Z[k]? = some (C, fs) → PySem.W.exmAny X.K (.ref C) vs = some (ids.contains k)
theorem Gs.tr {c : CC} {W W' : WX} {X : Cx} (g : Gs Z C c W X) (pn : List (Addr × Obj)) (xe : Value → Shared → Prop) (tk : Takes (X.tr pn xe) W') : Gs Z C c W' (X.tr pn xe) :=
  ⟨⟨g.calm, g.nd, g.N, g.sc, g.fn, g.un, fun σ => passAt tk σ, g.fns, g.csk, g.fre⟩, tk, g.stk, g.frm, g.two, fun k x fs h => by
    obtain ⟨d, h1, h2, h3⟩ := g.xcs k x fs h
    exact ⟨d, h1, h2, ⟨h3.z, h3.ok, h3.fn, h3.nd, h3.mg, h3.few⟩⟩, g.hts⟩
section
variable {c : CC} {W : WX} {X : Cx} {a : Addr} {oe : Obj} {cls : Value} {dd : Option Addr} {pn : List (Addr × Obj)} {nm : Option Nat}
theorem pe_lit {X : Cx} {d : D} {e : Expr} {cls : Value} (h : chkHL d e = true) : PE X e (tHE Z a cls dd nm (.lit d)) := by
  unfold chkHL at h
  split at h
  · rename_i i j k p
    rw [of_decide_eq_true h]
    exact pe_int.imp' fun σ H Q ⟨v, hv, q⟩ => by cases hv; exact q
  · rename_i b b' k p
    have : b = b' := eq_of_beq h
    subst this
    exact pe_bl.imp' fun σ H Q ⟨v, hv, q⟩ => by cases hv; exact q
  · exact pe_non.imp' fun σ H Q ⟨v, hv, q⟩ => by cases hv; exact q
  · rename_i x y k p
    have h2 := Bool.and_eq_true_iff.mp h
    rw [of_decide_eq_true h2.1]
    exact pe_str.imp' fun σ H Q ⟨v, hv, q⟩ => by
      have hv : (if okS x then some (V.str (SO x)) else none) = some v := hv
      rw [if_pos h2.2] at hv
      cases hv; exact q
  · cases h
theorem star_suite {e : Expr} {es : List Expr} {env : Env} (h : notStar e = true) : starEach (e :: es) env = (false, eval e env) :: starEach es env := star_cons h
theorem chkH_fld {c : CC} {nm : Option Nat} {k j : Nat} {e : Expr} (h : chkH c nm (.fld k j) e = true) : ∃ x p f p2 i y fs, e = .Attribute (.Name x p) f p2 ∧ nm = some i ∧ (c.N[i]? = some x ∧ visB c.sc x = true ∧ (x == ("__debug__" : Str)) = false ∧ (x == ("__classdict__" : Str)) = false) ∧ c.xt[k]? = some (y, fs) ∧ fs[j]? = some f := by
  unfold chkH at h
  split at h
  · rename_i x p f p2
    obtain ⟨h1, h2⟩ := Bool.and_eq_true_iff.mp h
    split at h1
    · rename_i i
      split at h2
      · rename_i y fs hk
        simp only [Bool.and_eq_true, decide_eq_true_eq, beq_iff_eq] at h1 h2
        exact ⟨x, p, f, p2, i, y, fs, rfl, rfl, ⟨h1.1.1.1, h1.1.1.2, h1.1.2, h1.2⟩, hk, h2⟩
      · cases h2
    · cases h1
  · cases h
theorem chkH_tup {c : CC} {nm : Option Nat} {es : HE} {e : Expr} (h : chkH c nm (.tup es) e = true) : ∃ l k p, e = .Tuple l k p ∧ chkHs c nm es l = true := by
  unfold chkH at h
  split at h
  · exact ⟨_, _, _, rfl, h⟩
  · cases h
theorem chkHs_cons {c : CC} {nm : Option Nat} {b r : HE} {e : Expr} {es : List Expr} (h : chkHs c nm (.cons b r) (e :: es) = true) : notStar e = true ∧ chkH c nm b e = true ∧ chkHs c nm r es = true := by
  unfold chkHs at h
  simp only [Bool.and_eq_true] at h
  exact ⟨h.1.1, h.1.2, h.2⟩
mutual
theorem pe_H (g : Gs Z C c W X) (hz : Zc cls dd oe) (hd : ∃ vs, oe.data = .fields vs) : ∀ (h : HE) {e : Expr}, chkH c nm h e = true → PE (X.suite a ((a, oe) :: pn)) e (tHE Z a cls dd nm h)
  | .lit d, e, h => pe_lit h
  | .fld k j, e, h => by
    obtain ⟨x, p, f, p2, i, y, fs, rfl, rfl, ⟨n1, n2, n3, n4⟩, hk, h4⟩ := chkH_fld h
    obtain ⟨d, rfl, rfl, xh⟩ := g.xcs k y fs hk
    have hf : f ∈ d.flds := List.mem_of_getElem? h4
    have pv : PE (X.suite a ((a, oe) :: pn)) (.Name x p) (tVar i) := pe_var (by show X.N[i]? = _; rw [g.N]; exact n1) (by show Vis X.env.scope x; rw [g.sc]; exact vis_of n2) n3 n4
    refine (pe_xf (pos := p2) xh.ok.xf (xh.ok.no f hf) hz hd pv rfl).imp' fun σ H Q ⟨i', C', fs', f', e1, e2, e3, q⟩ => ?_
    cases e1
    rw [xh.z] at e2
    cases e2
    rw [h4] at e3
    cases e3
    exact q
  | .tup es, e, h => by
    obtain ⟨l, k, p, rfl, h2⟩ := chkH_tup h
    exact pe_tup (pa_H g hz hd es h2)
  | .nil, e, h => by cases h
  | .cons _ _, e, h => by cases h
theorem pa_H (g : Gs Z C c W X) (hz : Zc cls dd oe) (hd : ∃ vs, oe.data = .fields vs) : ∀ (h : HE) {l : List Expr}, chkHs c nm h l = true → PA (X.suite a ((a, oe) :: pn)) l (tHA Z a cls dd nm h)
  | .nil, l, h => by
    cases l with
    | nil => exact pa_nil
    | cons => cases h
  | .cons b r, l, h => by
    cases l with
    | nil => cases h
    | cons e es =>
      obtain ⟨h1, h2, h3⟩ := chkHs_cons h
      exact pa_cons (pe_H g hz hd b h2) (pa_H g hz hd r h3) (star_cons h1)
  | .lit _, l, h => by cases h
  | .fld _ _, l, h => by cases h
  | .tup _, l, h => by cases h
end
/-- the values of a clause's classes -/
def cssOf (X : Cx) (h : Hnd) : List Value := h.ns.map fun x => (X.mg (SO x)).getD .none
theorem css_of {h : Hnd} {vs : List Value} {xs : List Str} (hx : xs = h.ns.map SO) (hl : vs.length = xs.length) (hm : ∀ (i : Nat) (x : Str), xs[i]? = some x → ∃ v, vs[i]? = some v ∧ X.mg x = some v) : cssOf X h = vs := by
  unfold cssOf
  subst hx
  apply List.ext_getElem?
  intro i
  rw [List.getElem?_map]
  cases q : h.ns[i]? with
  | none =>
    have : h.ns.length ≤ i := List.getElem?_eq_none_iff.mp q
    rw [List.getElem?_eq_none (by rw [hl, List.length_map]; exact this)]
    rfl
  | some y =>
    obtain ⟨v, h1, h2⟩ := hm i (SO y) (by rw [List.getElem?_map, q]; rfl)
    rw [h1]
    show some ((X.mg (SO y)).getD .none) = _
    rw [h2]; rfl
theorem cnames_of (g : Gs Z C c W X) : ∀ {xs : List (Str × Pos)} {vs : List Value}, vs.length = (xs.map (·.1)).length → (∀ (i : Nat) (x : Str), (xs.map (·.1))[i]? = some x → ∃ v, vs[i]? = some v ∧ X.mg x = some v) → (xs.all fun q => glB c.sc q.1 && (q.1 == ("__debug__" : Str)) == false) = true → CNames X xs vs
  | [], [], _, _, _ => trivial
  | [], _ :: _, h, _, _ => by cases h
  | _ :: _, [], h, _, _ => by cases h
  | (x, p) :: r, v :: vs, h, hm, ha => by
    rw [List.all_cons] at ha
    obtain ⟨h1, h2⟩ := Bool.and_eq_true_iff.mp ha
    obtain ⟨h3, h4⟩ := Bool.and_eq_true_iff.mp h1
    obtain ⟨v', e1, e2⟩ := hm 0 x rfl
    cases e1
    exact ⟨g.gl h3, eq_of_beq h4, e2, cnames_of g (by simpa using h) (fun i y hy => by
      obtain ⟨v, e3, e4⟩ := hm (i + 1) y (by simpa using hy)
      exact ⟨v, by simpa using e3, e4⟩) h2⟩
theorem hd_of1 (g : Gs Z C c W X) {h : Hnd} {eh : ExceptHandler} (q : chkHd c h eh = true) : HndOk X.K Z (cssOf X) X.N.length h ∧ ∀ {hds : List ExceptHandler} {l : List HM}, HdX X hds l → HdX X (eh :: hds) (toHM X.K Z (cssOf X) h :: l) := by
  unfold chkHd at q
  split at q
  · rename_i te n st p
    cases hc : clsE te with
    | none => simp only [hc, Bool.false_and] at q; exact ff q rfl
    | some xs =>
      simp only [hc, Bool.and_eq_true, decide_eq_true_eq] at q
      obtain ⟨⟨⟨⟨⟨⟨⟨q0, q1⟩, q2⟩, q3⟩, q4⟩, q5⟩, q6⟩, q7⟩ := q
      obtain ⟨vs, v1, v2, v3⟩ := g.hts _ _ q1
      have ecss : cssOf X h = vs := css_of q0 v1 v2
      have cn := cnames_of g v1 v2 q2
      have ht : HTest X te vs := by
        cases te with
        | Name x p => cases hc; 
                      cases vs with
                      | nil => cases v1
                      | cons v r =>
                        cases r with
                        | nil => exact .one cn
                        | cons => simp at v1
        | Tuple es k p =>
          have e := nm_of (show nmOf es = some xs from hc)
          have e2 : nmEs xs = tyEs xs := by
            clear e cn v1 v2 q0 q1 q2 q3 hc
            induction xs with
            | nil => rfl
            | cons y r ih => obtain ⟨y1, y2⟩ := y; show _ :: nmEs r = _ :: tyEs r; rw [ih]
          rw [e, e2]
          exact .tup cn (by rw [v1, List.length_map]; exact q3)
        | _ => cases hc
      have nmo : NmOk X n h.nm := by
        cases n with
        | none =>
          cases hnm : h.nm with
          | none => trivial
          | some i => rw [hnm] at q4; exact ff q4 rfl
        | some x =>
          cases hnm : h.nm with
          | none => rw [hnm] at q4; exact ff q4 rfl
          | some i =>
            rw [hnm] at q4
            simp only [Bool.and_eq_true, decide_eq_true_eq] at q4
            exact ⟨by rw [g.N]; exact q4.1, by show X.env.scope.names.lookup x = _; rw [g.sc]; exact pl_of q4.2⟩
      refine ⟨⟨q5, fun hf => ?_, fun k C fs hz => by rw [ecss]; exact v3 k C fs hz⟩, fun {hds l} r => ?_⟩
      · rw [hf] at q6
        obtain ⟨i, hi⟩ := Option.isSome_iff_exists.mp (show h.nm.isSome = true by simpa using q6)
        refine ⟨i, hi, ?_⟩
        cases n with
        | none => rw [hi] at nmo; exact False.elim nmo
        | some x =>
          rw [hi] at nmo
          exact (List.getElem?_eq_some_iff.mp nmo.1).1
      · refine .cons (h := toHM X.K Z (cssOf X) h) (by show HTest X te (cssOf X h); rw [ecss]; exact ht) nmo (fun a oe cls dd pn hz hd => ?_) r
        show PSs (X.suite a ((a, oe) :: pn)) [st] (match h.body with
          | .ret e => tRet (tHE Z a cls dd h.nm e)
          | .set i e => tAsg (tHE Z a cls dd h.nm e) (gName i))
        split at q7
        · rename_i e v p2 e1
          rw [e1]
          exact pss_one (ps_ret (pe_H g hz hd e q7))
        · rename_i i e x p1 v p2 e1
          rw [e1]
          simp only [Bool.and_eq_true] at q7
          obtain ⟨n1, n2, n3⟩ := g.name q7.1.1
          exact pss_one (ps_set (X := X.suite a ((a, oe) :: pn)) g.nd n1 n2 (pe_H g hz hd e q7.2) (sw_plain q7.1.2) n3)
        · cases q7
  · cases q
theorem hds_of (g : Gs Z C c W X) : ∀ {hs : List Hnd} {es : List ExceptHandler}, chkHds c hs es = true → (∀ h ∈ hs, HndOk X.K Z (cssOf X) X.N.length h) ∧ HdX X es (hs.map (toHM X.K Z (cssOf X)))
  | [], [], _ => ⟨fun _ z => (nomatch z), .nil⟩
  | [], _ :: _, h => by cases h
  | _ :: _, [], h => by cases h
  | hd :: hs, e :: es, h => by
    have h2 := Bool.and_eq_true_iff.mp (show (chkHd c hd e && chkHds c hs es) = true from h)
    obtain ⟨k1, k2⟩ := hd_of1 g h2.1
    obtain ⟨k3, k4⟩ := hds_of g h2.2
    refine ⟨fun z hz => ?_, k2 k4⟩
    rcases List.mem_cons.mp hz with rfl | hz
    · exact k1
    · exact k3 z hz
end
structure SndS (Z : Xt) (C : Cf) (is : IS) : Prop where
  s : ∀ (c : CC) (W : WX) (X : Cx) (st : Stmt), Gs Z C c W X → PassesOwn (model X.prog X.w) X.A X.env X.xe → chkS is c st = true → PS X st (Ss X.K Z C W is)
  b : ∀ (c : CC) (W : WX) (X : Cx) (l : List Stmt), Gs Z C c W X → PassesOwn (model X.prog X.w) X.A X.env X.xe → chkB is c l = true → PSs X l (Ss X.K Z C W is)
theorem snds (is : IS) : SndS Z C is := by
  induction is with
  | skip =>
    refine ⟨fun c W X st g hp h => ?_, fun c W X l g hp h => ?_⟩
    · unfold chkS at h
      split at h
      · exact ss_pass
      · cases h
    · cases l with
      | nil => exact ss_nil
      | cons => cases h
  | seq a b sa sb =>
    refine ⟨fun c W X st g hp h => ff h rfl, fun c W X l g hp h => ?_⟩
    cases l with
    | nil => cases h
    | cons st rest =>
      have h2 := Bool.and_eq_true_iff.mp (show (chkS a c st && chkB b c rest) = true from h)
      exact ss_cons (sa.s c W X st g hp h2.1) (sb.b c W X rest g hp h2.2)
  | ex e =>
    refine ⟨fun c W X st g hp h => ?_, fun c W X l g hp h => ff h rfl⟩
    unfold chkS at h
    split at h
    · have h2 := Bool.and_eq_true_iff.mp h
      exact ss_ex h2.1 ((snd e).e c W X _ g.toGc h2.2)
    · cases h
  | set i e =>
    refine ⟨fun c W X st g hp h => ?_, fun c W X l g hp h => ff h rfl⟩
    unfold chkS at h
    split at h
    · have h2 := Bool.and_eq_true_iff.mp h
      rcases Bool.or_eq_true_iff.mp h2.2 with h3 | h3
      · have h4 := Bool.and_eq_true_iff.mp h3
        obtain ⟨n1, n2, n3⟩ := g.name h2.1
        exact ss_set g.nd n1 n2 n3 h4.1 ((snd e).e c W X _ g.toGc h4.2)
      · exact ss_setX g.toGc h2.1 h3
    · cases h
  | setP is e =>
    refine ⟨fun c W X st g hp h => ?_, fun c W X l g hp h => ff h rfl⟩
    unfold chkS at h
    split at h
    · rename_i ts k p v pos
      split at h
      · rename_i xs q
        simp only [Bool.and_eq_true] at h
        obtain ⟨⟨h1, h2⟩, h3⟩ := h
        obtain ⟨n1, n2⟩ := g.names h1
        have hw : swappedStores [.Tuple ts k p] v X.env = pure none := by
          unfold stNone at h3
          split at h3
          · exact sw_sc (by rw [g.sc]; exact of_decide_eq_true h3)
          · rename_i nt
            refine st_plain ?_
            cases v <;> first | rfl | exact absurd rfl (nt _ _ _)
        rw [nm_of q] at hw ⊢
        exact ss_setP g.calm g.nd n1 n2 ((snd e).e c W X _ g.toGc h2) hw
      · cases h
    · cases h
  | setQ q e =>
    refine ⟨fun c W X st g hp h => ?_, fun c W X l g hp h => ff h rfl⟩
    unfold chkS at h
    split at h
    · rename_i ts k p v pos
      simp only [Bool.and_eq_true] at h
      obtain ⟨⟨h1, h2⟩, h3⟩ := h
      have hw : swappedStores [.Tuple ts k p] v X.env = pure none := by
        unfold stNone at h3
        split at h3
        · exact sw_sc (by rw [g.sc]; exact of_decide_eq_true h3)
        · rename_i nt
          refine st_plain ?_
          cases v <;> first | rfl | exact absurd rfl (nt _ _ _)
      exact ss_setQ ((snd e).e c W X _ g.toGc h2) (g.toGc.pat h1) hw
    · cases h
  | par is es =>
    refine ⟨fun c W X st g hp h => ?_, fun c W X l g hp h => ff h rfl⟩
    unfold chkS at h
    split at h
    · split at h
      · simp only [Bool.and_eq_true, decide_eq_true_eq] at h
        obtain ⟨⟨⟨⟨⟨⟨h1, h2⟩, h3⟩, h4⟩, h5⟩, h6⟩, h7⟩ := h
        exact ss_par2 g.calm g.nd (g.name h1).1 (g.name h2).1 h5 (by rw [g.sc]; exact pl_of h3) (by rw [g.sc]; exact pl_of h4) ((snd es).a c W X _ g.toGc h6) (sw_sc (by rw [g.sc]; exact h7))
      · cases h
    · split at h
      · simp only [Bool.and_eq_true, decide_eq_true_eq] at h
        obtain ⟨⟨⟨⟨⟨⟨⟨⟨⟨⟨h1, h2⟩, h3⟩, h4⟩, h5⟩, h6⟩, h7⟩, h8⟩, h9⟩, h10⟩, h11⟩ := h
        exact ss_par3 g.calm g.nd (g.name h1).1 (g.name h2).1 (g.name h3).1 h7 h8 h9 (by rw [g.sc]; exact pl_of h4) (by rw [g.sc]; exact pl_of h5) (by rw [g.sc]; exact pl_of h6) ((snd es).a c W X _ g.toGc h10) (sw_sc (by rw [g.sc]; exact h11))
      · cases h
    · cases h
  | put a i e =>
    refine ⟨fun c W X st g hp h => ?_, fun c W X l g hp h => ff h rfl⟩
    unfold chkS at h
    split at h
    · rename_i ea ei p v pos
      simp only [Bool.and_eq_true] at h
      obtain ⟨⟨⟨h1, h2⟩, h3⟩, h4⟩ := h
      refine ss_put (plainIx_of h1) ((snd a).e c W X _ g.toGc h2) ((snd i).e c W X _ g.toGc h3) ((snd e).e c W X _ g.toGc h4) fun v => ?_
      cases ei <;> first | rfl | cases h1
    · cases h
  | aug o i e =>
    refine ⟨fun c W X st g hp h => ?_, fun c W X l g hp h => ff h rfl⟩
    unfold chkS at h
    split at h
    · simp only [Bool.and_eq_true, Bool.or_eq_true, decide_eq_true_eq] at h
      obtain ⟨⟨⟨h1, h2⟩, h3⟩, h4⟩ := h
      obtain ⟨n1, n2, n3⟩ := g.name h3
      rw [op_of h2]
      exact ss_aug h1 g.nd n1 n2 n3 ((snd e).e c W X _ g.toGc h4)
    · cases h
  | ite k a b sa sb =>
    refine ⟨fun c W X st g hp h => ?_, fun c W X l g hp h => ff h rfl⟩
    unfold chkS at h
    split at h
    · simp only [Bool.and_eq_true] at h
      exact ss_if ((snd k).t c W X _ g.toGc h.1.1).1 (sa.b c W X _ g hp h.1.2) (sb.b c W X _ g hp h.2)
    · cases h
  | whl k b sb =>
    refine ⟨fun c W X st g hp h => ?_, fun c W X l g hp h => ff h rfl⟩
    unfold chkS at h
    split at h
    · have h2 := Bool.and_eq_true_iff.mp h
      exact ss_while hp ((snd k).t c W X _ g.toGc h2.1).1 (sb.b c W X _ g hp h2.2)
    · cases h
  | «for» p it b sb =>
    refine ⟨fun c W X st g hp h => ?_, fun c W X l g hp h => ff h rfl⟩
    unfold chkS at h
    split at h
    · simp only [Bool.and_eq_true] at h
      obtain ⟨⟨⟨h1, h2⟩, h3⟩, h4⟩ := h
      exact ss_for hp g.calm ((snd it).i c W X _ _ g.toGc h2) (g.pat h3) (sb.b c W X _ g hp h4) (notSet_of h1)
    · cases h
  | ret e =>
    refine ⟨fun c W X st g hp h => ?_, fun c W X l g hp h => ff h rfl⟩
    unfold chkS at h
    split at h
    · exact ss_ret ((snd e).e c W X _ g.toGc h)
    · cases h
  | retN =>
    refine ⟨fun c W X st g hp h => ?_, fun c W X l g hp h => ff h rfl⟩
    unfold chkS at h
    split at h
    · exact ss_retN
    · cases h
  | brk =>
    refine ⟨fun c W X st g hp h => ?_, fun c W X l g hp h => ff h rfl⟩
    unfold chkS at h
    split at h
    · exact ss_brk
    · cases h
  | cnt =>
    refine ⟨fun c W X st g hp h => ?_, fun c W X l g hp h => ff h rfl⟩
    unfold chkS at h
    split at h
    · exact ss_cnt
    · cases h
  | augS o a i e =>
    refine ⟨fun c W X st g hp h => ?_, fun c W X l g hp h => ff h rfl⟩
    unfold chkS at h
    split at h
    · rename_i ea ei p op v pos
      simp only [Bool.and_eq_true, Bool.or_eq_true, decide_eq_true_eq] at h
      obtain ⟨⟨⟨⟨⟨h1, h2⟩, h3⟩, h4⟩, h5⟩, h6⟩ := h
      rw [op_of h2]
      refine ss_augS h1 ((snd a).e c W X _ g.toGc h4) ((snd i).e c W X _ g.toGc h5) ((snd e).e c W X _ g.toGc h6) fun ov iv new => ?_
      cases ei <;> first | rfl | cases h3
    · cases h
  | rse k n es =>
    refine ⟨fun c W X st g hp h => ?_, fun c W X l g hp h => ff h rfl⟩
    unfold chkS at h
    split at h
    · rename_i x p e l p2 p3
      cases q : c.xt[k]? with
      | none => rw [q] at h; exact ff h rfl
      | some y =>
        obtain ⟨y, fs⟩ := y
        rw [q] at h
        simp only [Bool.and_eq_true, decide_eq_true_eq, beq_iff_eq] at h
        obtain ⟨⟨⟨⟨⟨rfl, rfl⟩, h3⟩, h4⟩, h5⟩, h6⟩ := h
        obtain ⟨d, rfl, rfl, xh⟩ := g.xcs k _ fs q
        exact ss_rse g.calm g.tks xh g.two (g.gl h3) ((snd es).a c W X _ g.toGc h6) h4 h5
    · cases h
  | «try» b hs sb =>
    refine ⟨fun c W X st g hp h => ?_, fun c W X l g hp h => ff h rfl⟩
    unfold chkS at h
    split at h
    · have h2 := Bool.and_eq_true_iff.mp h
      obtain ⟨k1, k2⟩ := hds_of g h2.2
      exact ss_try g.stk g.frm g.nd g.tks (fun W' pn xe tk hp' => sb.b c W' (X.tr pn xe) _ (g.tr pn xe tk) hp' h2.1) k1 k2
    · cases h
end
/-! ### all defs, level by level -/
/-- a def's frame as the checker wants it -/
structure Df where
  name : Str
  qual : Str
  params : Arguments
  body : List Stmt
  scope : Scope
  dvs : List V
  N : List Str
  ps : List Str
  fa : Addr
  fd : FuncData
/-- the tables of a law -/
structure Tbl where
  cs : List (Str × D)
  fr : List Str
  db : List (Nat × List D) := []
  kb : List (Nat × Nat × List Str × List Nat) := []
  xt : List (Str × List Str) := []
  ht : List (List Str × List Nat) := []
def scB (N ps : List Str) (sc : Scope) : Bool :=
  decide (sc.kind = .function) && !sc.isCoroutine && !sc.isGenerator && decide N.Nodup && decide (N.take ps.length = ps) && (ps.all fun x => locB sc x) && (sc.names.all fun y => decide (y.2 ≠ .free))
theorem sc_of {N ps : List Str} {sc : Scope} (h : scB N ps sc = true) : FnScope N ps sc := by
  unfold scB at h
  simp only [Bool.and_eq_true, Bool.not_eq_true', decide_eq_true_eq, List.all_eq_true] at h
  obtain ⟨⟨⟨⟨⟨⟨h1, h2⟩, h3⟩, h4⟩, h5⟩, h6⟩, h7⟩ := h
  exact ⟨h1, h2, h3, h4, h5, fun x hx => loc_of (h6 x hx), h7⟩
def ccOf (gn : List Str) (t : Tbl) (N : List Str) (sc : Scope) : CC := ⟨N, sc, fun _ => true, gn, t.cs, t.fr, t.db, t.kb, t.xt, t.ht⟩
def dfB (gn : List Str) (t : Tbl) (d : Df) (fn : Fn) : Bool :=
  scB d.N d.ps d.scope && decide (d.ps.length = fn.np) && decide (fn.nl = d.N.length) && chkB fn.body (ccOf gn t d.N d.scope) d.body
/-- what the head gives -/
structure Hd (P : Program) (w : World) (K : Fg) (mg : Str → Option Value) (base : Heap) (Z : Xt) (ds : List Df) (t : Tbl) : Prop where
  fun_ : ∀ (f : Nat) (d : Df), ds[f]? = some d → FunD K d.name d.qual d.params d.body d.scope d.dvs [] d.fa d.fd ∧ PySem.W.keepIn K (.ref d.fa) = true ∧ Binds K d.fd d.ps [] ∧ mg d.name = some (.ref d.fa) ∧
    (∀ es, (f, es) ∈ t.db → ∃ dvs dus, Binds K d.fd d.ps dus ∧ Vals dvs dus ∧ FlatVs es dvs) ∧ ∀ n ks perm, (f, n, ks, perm) ∈ t.kb → KBn K d.fd d.ps ks n perm
  csk : ∀ x d, (x, d) ∈ t.cs → ∃ v u, mg x = some u ∧ RelV v u ∧ ∀ B m H, (∀ a ∈ m, H a ≠ none) → RelD K B m H d v
  fre : ∀ x, x ∈ t.fr → mg x = none
  xcs : ∀ k x fs, t.xt[k]? = some (x, fs) → ∃ d : XcD, d.name = x ∧ d.flds = fs ∧ ∀ X : Cx, X.prog = P → X.w = w → X.K = K → X.mg = mg → X.base = base → XcH X Z k d
  hts : ∀ xs ids, (xs, ids) ∈ t.ht → ∃ vs : List Value, vs.length = xs.length ∧ (∀ (i : Nat) (x : Str), xs[i]? = some x → ∃ v, vs[i]? = some v ∧ mg x = some v) ∧ ∀ k C fs, Z[k]? = some (C, fs) → PySem.W.exmAny K (.ref C) vs = some (ids.contains k)
def dfsB (gn : List Str) (t : Tbl) : List Df → List Fn → Bool
  | [], [] => true
  | d :: ds, f :: fs => dfB gn t d f && dfsB gn t ds fs
  | _, _ => false
theorem dfs_of {gn : List Str} {t : Tbl} : ∀ {ds : List Df} {fs : List Fn}, dfsB gn t ds fs = true → ds.length = fs.length ∧ ∀ (i : Nat) (d : Df), ds[i]? = some d → ∃ f, fs[i]? = some f ∧ dfB gn t d f = true
  | [], [], _ => ⟨rfl, fun i d h => by simp at h⟩
  | [], _ :: _, h => by cases h
  | _ :: _, [], h => by cases h
  | d :: ds, f :: fs, h => by
    have h2 := Bool.and_eq_true_iff.mp (show (dfB gn t d f && dfsB gn t ds fs) = true from h)
    obtain ⟨h3, h4⟩ := dfs_of h2.2
    refine ⟨by simp [h3], fun i d' e => ?_⟩
    cases i with
    | zero => simp at e; subst e; exact ⟨f, rfl, h2.1⟩
    | succ i => exact h4 i d' (by simpa using e)
theorem lv_all {P : Program} {w : World} {K : Fg} {mg : Str → Option Value} {base : Heap} {Z : Xt} {ds : List Df} {t : Tbl} {fs : List Fn} {fuel : Nat} (hd : Hd P w K mg base Z ds t) (hc : dfsB (ds.map (·.name)) t ds fs = true) :
    ∀ (l : Nat) (i : Nat) (d : Df), ds[i]? = some d → FnOk P w K mg base (L2.CX P w) l d.fa d.fd d.ps (spF K Z (callF fs fuel l i))
  | 0, i, d, e => ⟨fun vs H Q E ⟨B, m, S, us, t, r, h⟩ => h.elim, fun A outer s H args us vs Q E _ _ _ _ ⟨B, m, S, _, t, r, h⟩ => h.elim⟩
  | l + 1, i, d, e => by
    obtain ⟨hl, hi⟩ := dfs_of hc
    obtain ⟨fn, ef, hb⟩ := hi i d e
    obtain ⟨F, hk, hbi, _⟩ := hd.fun_ i d e
    unfold dfB at hb
    simp only [Bool.and_eq_true, decide_eq_true_eq] at hb
    obtain ⟨⟨⟨b1, b2⟩, b3⟩, b4⟩ := hb
    have ih := lv_all hd hc l (fuel := fuel)
    have main := fun_lv (Z := Z) (P := P) (w := w) (mg := mg) (base := base) (C := ⟨callF fs fuel l, fuel, l⟩) (l := l) F (sc_of b1) b2 b3 fun X W g hp => by
      obtain ⟨h1, h2, h3, h4, h5, gc, gN, gs, gf, gr, gt, gk, g1, g2⟩ := g
      have hx := fun k x fs h => hd.xcs k x fs h
      subst h1 h2 h3 h4 h5
      refine (snds fn.body).b _ W X d.body ⟨⟨gc, by rw [gN]; exact (sc_of b1).nd, gN, gs, gf, by have := gr.un; omega, gt, fun f x hx => ?_, hd.csk, hd.fre⟩, gk, g1, g2, fun h => gr.mono h, fun k x fs h => ?_, hd.hts⟩ hp b4
      · have hx : (ds.map (·.name))[f]? = some x := hx
        rw [List.getElem?_map] at hx
        cases q : ds[f]? with
        | none => rw [q] at hx; cases hx
        | some d2 =>
          rw [q] at hx
          cases hx
          obtain ⟨_, k2, k3, k4, k5, k6⟩ := hd.fun_ f d2 q
          exact ⟨l, d2.fa, d2.fd, d2.ps, ih f d2 q, gr, k4, k2, k3, k5, k6⟩
      · obtain ⟨d, e1, e2, h⟩ := hx k x fs h
        exact ⟨d, e1, e2, h X rfl rfl rfl rfl rfl⟩
    have e2 : callF fs fuel (l + 1) i = fun xs => if xs.length = fn.np then callFn ⟨callF fs fuel l, fuel, l⟩ fn xs else M.bad := by
      funext xs
      show (match fs[i]? with
        | none => M.bad
        | some fn => if xs.length = fn.np then callFn ⟨callF fs fuel l, fuel, l⟩ fn xs else M.bad) = _
      rw [ef]
    rw [e2]
    exact main
end Fb
set_option Elab.async false
set_option linter.all false
set_option maxRecDepth 100000
set_option maxHeartbeats 4000000
/-! Fb16: the head's facts, a law's end. -/
namespace Fb
open PySem PySem.Spec PyProof.Rows L2
/-! ### constants of the module -/
mutual
def valB (K : Fg) : Nat → Value → D → Bool
  | l, .none, .non => true
  | l, .bool b, .bl c => b == c
  | l, .int i _, .int j => i == j
  | l, .str s _, .str x => decide (s = SO x) && okS x
  | l + 1, .ref a, .tup ds => (match K.lookup a with
    | some ⟨.type c, _, .seq its _, _⟩ => c == "tuple" && decide (its.size ≤ sizeLine) && valsB K l its.toList ds
    | _ => false)
  | l + 1, .ref a, .ro ds => (match K.lookup a with
    | some ⟨.type c, none, .seq its _, _⟩ => c == "list" && decide (its.size ≤ sizeLine) && valsB K l its.toList ds
    | _ => false)
  | _, _, _ => false
def valsB (K : Fg) : Nat → List Value → List D → Bool
  | l, [], [] => true
  | l + 1, u :: us, d :: ds => valB K l u d && valsB K l us ds
  | _, _, _ => false
end
mutual
theorem val_of {K : Fg} : ∀ {l : Nat} {u : Value} {d : D}, valB K l u d = true → ∃ v, RelV v u ∧ ∀ B m H, RelD K B m H d v
  | l, .none, d, h => by
    cases d <;> first | exact ⟨.non, rfl, fun _ _ _ => .non⟩ | (cases l <;> cases h)
  | l, .bool b, d, h => by
    cases d with
    | bl c => exact ⟨.bl c, by rw [← eq_of_beq (show (b == c) = true by cases l <;> exact h)]; rfl, fun _ _ _ => .bl c⟩
    | _ => cases l <;> cases h
  | l, .int b t, d, h => by
    cases d with
    | int c => exact ⟨.int c, by rw [← eq_of_beq (show (b == c) = true by cases l <;> exact h)]; exact ⟨t, rfl⟩, fun _ _ _ => .int c⟩
    | _ => cases l <;> cases h
  | l, .str s t, d, h => by
    cases d with
    | str c =>
      have h2 := Bool.and_eq_true_iff.mp (show (decide (s = SO c) && okS c) = true by cases l <;> exact h)
      exact ⟨.str (SO c), by rw [← of_decide_eq_true h2.1]; exact ⟨t, rfl⟩, fun _ _ _ => .str c h2.2⟩
    | _ => cases l <;> cases h
  | l, .ref a, d, h => by
    cases l with
    | zero => cases d <;> cases h
    | succ l =>
      cases d with
      | tup ds =>
        unfold valB at h
        split at h
        · rename_i c od its n sl q
          simp only [Bool.and_eq_true, beq_iff_eq, decide_eq_true_eq] at h
          obtain ⟨⟨rfl, h2⟩, h3⟩ := h
          obtain ⟨vs, r, rd⟩ := vals_of h3
          exact ⟨.ref a, rfl, fun B m H => .tup (.inr ⟨_, its, n, q, rfl, rfl, h2, r⟩) (rd B m H)⟩
        · cases h
      | ro ds =>
        unfold valB at h
        split at h
        · rename_i c its n sl q
          simp only [Bool.and_eq_true, beq_iff_eq, decide_eq_true_eq] at h
          obtain ⟨⟨rfl, h2⟩, h3⟩ := h
          obtain ⟨vs, r, rd⟩ := vals_of h3
          exact ⟨.ref a, rfl, fun B m H => .ro (.inr ⟨_, its, n, q, rfl, rfl, rfl, h2, r⟩) (rd B m H)⟩
        · cases h
      | _ => cases h
  | l, .float .., d, h => by cases l <;> cases d <;> cases h
  | l, .bytes .., d, h => by cases l <;> cases d <;> cases h
  | l, .type .., d, h => by cases l <;> cases d <;> cases h
  | l, .builtin .., d, h => by cases l <;> cases d <;> cases h
  | l, .ellipsis, d, h => by cases l <;> cases d <;> cases h
  | l, .notImplemented, d, h => by cases l <;> cases d <;> cases h
theorem vals_of {K : Fg} : ∀ {l : Nat} {us : List Value} {ds : List D}, valsB K l us ds = true → ∃ vs, Vals vs us ∧ ∀ B m H, RelDs K B m H ds vs
  | l, [], ds, h => by
    cases ds with
    | nil => exact ⟨[], .nil, fun _ _ _ => .nil⟩
    | cons => cases l <;> cases h
  | 0, u :: us, ds, h => by cases ds <;> cases h
  | l + 1, u :: us, ds, h => by
    cases ds with
    | nil => cases h
    | cons d ds =>
      have h2 := Bool.and_eq_true_iff.mp (show (valB K l u d && valsB K l us ds) = true from h)
      obtain ⟨v, r1, r2⟩ := val_of h2.1
      obtain ⟨vs, r3, r4⟩ := vals_of h2.2
      exact ⟨v :: vs, .cons r1 r3, fun B m H => .cons (r2 B m H) (r4 B m H)⟩
end
/-- the module's constants -/
def cstB (K : Fg) (q : Str × D) : Bool := match PySem.W.nsIn K mainGlobals q.1 with
  | some (some u) => valB K 1000 u q.2
  | _ => false
theorem cst_of {K : Fg} {h : Heap} {mg : Str → Option Value} {q : Str × D} (X : K.In h) (G : h.Ns mainGlobals mg) (c : cstB K q = true) : ∃ v u, mg q.1 = some u ∧ RelV v u ∧ ∀ B m H, RelD K B m H q.2 v := by
  unfold cstB at c
  split at c
  · rename_i u e
    obtain ⟨v, r1, r2⟩ := val_of c
    exact ⟨v, u, PySem.W.mg_of X G e, r1, r2⟩
  · cases c
/-! ### the Hook -/
/-- a clause's classes: each a global, and which of the own exceptions they take -/
def htB (K : Fg) (xd : List XcD) (q : List Str × List Nat) : Bool :=
  (q.1.all fun x => He.eqO (PySem.W.nsIn K mainGlobals x) (some (some (.ref (He.ga K x))))) &&
  (xd.zipIdx.all fun d => decide (PySem.W.exmAny K (.ref (He.ga K d.1.name)) (q.1.map fun x => Value.ref (He.ga K x)) = some (q.2.contains d.2)))
def zOf (K : Fg) (xd : List XcD) : Xt := xd.map fun d => (He.ga K d.name, d.flds)
abbrev AlF : Type := Bool × He.AlD × List XW
def obsF (t : Tbl) (file : Str) (xd : List XcD) (fa : List He.Fa) (fn : List He.DefD) (K : Fg) : AlF :=
  ((t.cs.all fun q => cstB K q) && ((xd.all fun d => xcB K file d) && t.ht.all fun q => htB K xd q), He.obsD fa fn K, xd.map fun d => xW K d.at_)
def valF (xd : List XcD) (fn : List He.DefD) : AlF := (true, He.valD fn, xd.map XcD.val)
def obsFG (n : Nat) (t : Tbl) (file : Str) (xd : List XcD) (fa : List He.Fa) (fn : List He.DefD) (g : Addr → Option Obj) : AlF := obsF t file xd fa fn (He.frG g (cStatics :: He.asD g n))
def hookF (n : Nat) (t : Tbl) (file : Str) (xd : List XcD) (fa : List He.Fa) (fn : List He.DefD) : PySem.W.Hook where
  α := AlF
  obs := fun s => obsFG n t file xd fa fn s.heap.get?
  val := fun _ => valF xd fn
  says := fun _ h => ∃ K : Fg, K.In h ∧ obsF t file xd fa fn K = valF xd fn
  of := fun _ _ e => ⟨_, He.frG_in, e⟩
  keeps := fun _ _ _ ⟨K, hK, c⟩ k => ⟨K, PySem.W.Frag.In.keeps hK k, c⟩
theorem obsFG_eq {n : Nat} {t : Tbl} {file : Str} {xd : List XcD} {fa : List He.Fa} {fn : List He.DefD} {g : Addr → Option Obj} {s : Shared} (h : ∀ a, g a = s.heap.get? a) : obsFG n t file xd fa fn g = (hookF n t file xd fa fn).obs s := by
  have e : g = s.heap.get? := funext h
  rw [e] <;> rfl
/-! ### defs as the checker has them -/
def fdOf (K : Fg) (a : Addr) : FuncData := match K.lookup a with
  | some ⟨_, _, .func fd, _⟩ => fd
  | _ => default
def mkDf (K : Fg) (d : He.DefD) (n : List Str × List Str) : Df := ⟨d.name, d.qual, d.params, d.body, d.scope, d.dvs K, n.1, n.2, He.fAd K d.at_, fdOf K (He.fAd K d.at_)⟩
def dsOf (K : Fg) : List He.DefD → List (List Str × List Str) → List Df
  | d :: ds, n :: ns => mkDf K d n :: dsOf K ds ns
  | _, _ => []
/-- n values are written; the defaults from the j-th on fill up -/
def BD (d : He.DefD) (ps : List Str) (n j : Nat) : Prop := ∀ (T : Addr) (kV doc pm : Value) (an : Option Addr) (cdv ct : Value) (us its : List Value), us.length = n → its.length = d.dfl.length →
  ∃ k, bindArgs (PySem.W.fnOf d.name d.qual d.params d.body d.scope (.ref T) kV doc pm an cdv ct) ⟨us, []⟩ = seqItems? (.ref T) >>= k ∧ k (some its.toArray) = pure (ps.zip (us ++ its.drop j))
/-- without defaults -/
def BN (d : He.DefD) (ps : List Str) : Prop := ∀ (kV doc pm : Value) (an : Option Addr) (cdv ct : Value) (us : List Value), us.length = ps.length → bindArgs (PySem.W.fnOf d.name d.qual d.params d.body d.scope .none kV doc pm an cdv ct) ⟨us, []⟩ = pure (ps.zip us)
/-- a call binds its positional values -/
def BA (d : He.DefD) (ps : List Str) : Prop := (d.dfl = [] ∧ BN d ps) ∨ (d.dfl ≠ [] ∧ BD d ps ps.length d.dfl.length)
def BAs : List He.DefD → List (List Str × List Str) → Prop
  | d :: ds, n :: ns => BA d n.2 ∧ BAs ds ns
  | _, _ => True
theorem dsOf_get {K : Fg} {x : Df} : ∀ {ds : List He.DefD} {ns : List (List Str × List Str)} {f : Nat}, BAs ds ns → (dsOf K ds ns)[f]? = some x → ∃ d n, ds[f]? = some d ∧ ns[f]? = some n ∧ BA d n.2 ∧ x = mkDf K d n
  | [], _, f, _, h => by simp [dsOf] at h
  | _ :: _, [], f, _, h => by simp [dsOf] at h
  | d :: ds, n :: ns, 0, b, h => by
    have e : mkDf K d n = x := by simpa [dsOf] using h
    exact ⟨d, n, rfl, rfl, b.1, e.symm⟩
  | d :: ds, n :: ns, f + 1, b, h => dsOf_get (ds := ds) (ns := ns) (f := f) b.2 (by simpa [dsOf] using h)
/-- a default as data -/
def dvB : D → He.Dv → Bool
  | .non, .non => true
  | .bl b, .bl c => b == c
  | .int i, .int j => i == j
  | .str x, .str s => decide (s = SO x) && okS x
  | _, _ => false
def dvsB : List D → List He.Dv → Bool
  | [], [] => true
  | d :: ds, v :: vs => dvB d v && dvsB ds vs
  | _, _ => false
theorem dvs_of {K : Fg} : ∀ {ds : List D} {vs : List He.Dv}, dvsB ds vs = true → FlatVs ds (vs.map (He.Dv.v K))
  | [], [], _ => .nil
  | [], _ :: _, h => by cases h
  | _ :: _, [], h => by cases h
  | d :: ds, v :: vs, h => by
    have h2 := Bool.and_eq_true_iff.mp (show (dvB d v && dvsB ds vs) = true from h)
    refine .cons ?_ (dvs_of h2.2)
    have h1 := h2.1
    unfold dvB at h1
    split at h1
    · rfl
    · rw [eq_of_beq h1]; rfl
    · rw [eq_of_beq h1]; rfl
    · have h3 := Bool.and_eq_true_iff.mp h1
      rw [of_decide_eq_true h3.1]
      show (if okS _ then _ else _) = _
      rw [if_pos h3.2]; rfl
    · cases h1
/-- calls with a default -/
def DBA (fn : List He.DefD) (ns : List (List Str × List Str)) : List (Nat × List D) → Prop
  | [] => True
  | (f, es) :: r => (∃ d n, fn[f]? = some d ∧ ns[f]? = some n ∧ d.dfl ≠ [] ∧ es.length ≤ d.dfl.length ∧ es.length ≤ n.2.length ∧ dvsB es (d.dfl.drop (d.dfl.length - es.length)) = true ∧ BD d n.2 (n.2.length - es.length) (d.dfl.length - es.length)) ∧ DBA fn ns r
def KB1 (d : He.DefD) (ps : List Str) (n : Nat) (ks : List Str) (perm : List Nat) : Prop := ∀ (kV doc pm : Value) (an : Option Addr) (cdv ct : Value) (us ws zs : List Value), us.length = n → ws.length = ks.length → pickL perm (us ++ ws) = some zs →
  bindArgs (PySem.W.fnOf d.name d.qual d.params d.body d.scope .none kV doc pm an cdv ct) ⟨us, ks.zip ws⟩ = pure (ps.zip zs)
/-- calls with keywords -/
def KBA (fn : List He.DefD) (ns : List (List Str × List Str)) : List (Nat × Nat × List Str × List Nat) → Prop
  | [] => True
  | (f, n, ks, perm) :: r => (∃ d nn, fn[f]? = some d ∧ ns[f]? = some nn ∧ d.dfl = [] ∧ KB1 d nn.2 n ks perm) ∧ KBA fn ns r
theorem DBA.get {fn : List He.DefD} {ns : List (List Str × List Str)} {f : Nat} {es : List D} : ∀ {l : List (Nat × List D)}, DBA fn ns l → (f, es) ∈ l → ∃ d n, fn[f]? = some d ∧ ns[f]? = some n ∧ d.dfl ≠ [] ∧ es.length ≤ d.dfl.length ∧ es.length ≤ n.2.length ∧ dvsB es (d.dfl.drop (d.dfl.length - es.length)) = true ∧ BD d n.2 (n.2.length - es.length) (d.dfl.length - es.length)
  | [], _, h => nomatch h
  | (f', es') :: r, b, h => by
    rcases List.mem_cons.mp h with e | h
    · cases e; exact b.1
    · exact DBA.get b.2 h
theorem KBA.get {fn : List He.DefD} {ns : List (List Str × List Str)} {f n : Nat} {ks : List Str} {perm : List Nat} : ∀ {l : List (Nat × Nat × List Str × List Nat)}, KBA fn ns l → (f, n, ks, perm) ∈ l → ∃ d nn, fn[f]? = some d ∧ ns[f]? = some nn ∧ d.dfl = [] ∧ KB1 d nn.2 n ks perm
  | [], _, h => nomatch h
  | (f', n', ks', perm') :: r, b, h => by
    rcases List.mem_cons.mp h with e | h
    · cases e; exact b.1
    · exact KBA.get b.2 h
theorem binds_of {K : Fg} {d : He.DefD} {ps : List Str} {fa : Addr} {fd : FuncData} (F : FunD K d.name d.qual d.params d.body d.scope (d.dvs K) [] fa fd) (b : BA d ps) : Binds K fd ps [] := by
  rcases b with ⟨e, b⟩ | ⟨e, b⟩
  · have e3 : d.dvs K = [] := by unfold He.DefD.dvs; rw [e]; rfl
    rw [e3] at F
    exact F.bindsN b
  · have hl : (d.dvs K).length = d.dfl.length := by unfold He.DefD.dvs; rw [List.length_map]
    obtain ⟨ds, r, h⟩ := F.binds1 (ps := ps) ps.length (d.dvs K).length (fun z => e (List.eq_nil_of_length_eq_zero (by rw [← hl, z]; rfl))) (by omega) fun T kV doc pm an cdv ct us its h1 h2 => by
      have := b T kV doc pm an cdv ct us its h1 (by rw [h2, hl])
      rw [hl]; exact this
    have : ds = [] := by
      have := r.length
      rw [List.length_drop, Nat.sub_self] at this
      exact List.eq_nil_of_length_eq_zero this.symm
    rw [this] at h
    exact h
theorem dbinds_of {K : Fg} {d : He.DefD} {ps : List Str} {fa : Addr} {fd : FuncData} {es : List D} (F : FunD K d.name d.qual d.params d.body d.scope (d.dvs K) [] fa fd) (hn : d.dfl ≠ []) (h1 : es.length ≤ d.dfl.length) (h2 : es.length ≤ ps.length) (h3 : dvsB es (d.dfl.drop (d.dfl.length - es.length)) = true)
    (b : BD d ps (ps.length - es.length) (d.dfl.length - es.length)) : ∃ dvs dus, Binds K fd ps dus ∧ Vals dvs dus ∧ FlatVs es dvs := by
  have hl : (d.dvs K).length = d.dfl.length := by unfold He.DefD.dvs; rw [List.length_map]
  obtain ⟨ds, r, h⟩ := F.binds1 (ps := ps) (ps.length - es.length) (d.dfl.length - es.length) (fun z => hn (List.eq_nil_of_length_eq_zero (by rw [← hl, z]; rfl))) (by omega) fun T kV doc pm an cdv ct us its h1 h2 => b T kV doc pm an cdv ct us its h1 (by rw [h2, hl])
  refine ⟨_, ds, h, r, ?_⟩
  have e : (d.dvs K).drop (d.dfl.length - es.length) = (d.dfl.drop (d.dfl.length - es.length)).map (He.Dv.v K) := by unfold He.DefD.dvs; rw [List.map_drop]
  rw [e]
  exact dvs_of h3
theorem kbinds_of {K : Fg} {d : He.DefD} {ps ks : List Str} {n : Nat} {perm : List Nat} {fa : Addr} {fd : FuncData} (F : FunD K d.name d.qual d.params d.body d.scope (d.dvs K) [] fa fd) (hn : d.dfl = []) (b : KB1 d ps n ks perm) : KBn K fd ps ks n perm := by
  have e3 : d.dvs K = [] := by unfold He.DefD.dvs; rw [hn]; rfl
  rw [e3] at F
  obtain ⟨oc, od, dV, kV, doc, pm, an, cdv, ct, osl, rfl, lk, hcd, hD, hK⟩ := F.ex
  rcases hD with ⟨_, rfl⟩ | ⟨e, _⟩
  · exact fun s us ws zs X h1 h2 h3 => .of_eq (b kV doc pm an cdv ct us ws zs h1 h2 h3)
  · exact absurd rfl e
/-- a def in the plain way: a global of its own name -/
def plainD (d : He.DefD) : Bool := decide (d.at_ = (d.name, none)) && d.kwd.isEmpty
/-- the facts asked for -/
def faOf (fn : List He.DefD) (fr : List Str) : List He.Fa := (fn.map fun d => He.Fa.glo d.name) ++ fr.map .free
/-- a class's lines -/
def clsLines : Stmt → List Stmt
  | .ClassDef _ _ _ b _ _ _ _ _ _ _ => b
  | _ => []
/-- an own exception's text -/
def xdB (d : XcD) : Bool := shapeB d && decide d.flds.Nodup && decide (d.flds.length ≤ 20)
def XBAs : List XcD → Prop
  | [] => True
  | d :: r => XBA d ∧ XBAs r
theorem XBAs.get : ∀ {l : List XcD} {i : Nat} {d : XcD}, XBAs l → l[i]? = some d → XBA d
  | [], i, d, _, h => by simp at h
  | x :: r, 0, d, b, h => by
    have : x = d := by simpa using h
    rw [← this]; exact b.1
  | x :: r, i + 1, d, b, h => XBAs.get (l := r) (i := i) b.2 (by simpa using h)
/-- what the head asks of a law's text -/
structure Lk (P : Program) (t : Tbl) (file : Str) (xd : List XcD) (fn : List He.DefD) (ns : List (List Str × List Str)) : Prop where
  plain : fn.all plainD = true
  ba : BAs fn ns
  db : DBA fn ns t.db
  kb : KBA fn ns t.kb
  xd_ : xd.all xdB = true
  xba : XBAs xd
  xt : t.xt = xd.map fun d => (d.name, d.flds)
  file_ : (P.main.file : Str) = file
  sup : (P.main.scope.names.lookup ("super" : Str)).isSome = false
theorem hd_of {P : Program} {w : World} {K : Fg} {h : Heap} {mg : Str → Option Value} {base : Heap} {t : Tbl} {file : Str} {xd : List XcD} {fn : List He.DefD} {ns : List (List Str × List Str)} (X : K.In h) (G : h.Ns mainGlobals mg)
    (c : obsF t file xd (faOf fn t.fr) fn K = valF xd fn) (L : Lk P t file xd fn ns) : Hd P w K mg base (zOf K xd) (dsOf K fn ns) t := by
  have c0 : ((t.cs.all fun q => cstB K q) && ((xd.all fun d => xcB K file d) && t.ht.all fun q => htB K xd q)) = true := congrArg (fun z : AlF => z.1) c
  have c2 : He.SaysD (faOf fn t.fr) fn K := congrArg (fun z : AlF => z.2.1) c
  have c3 : xd.map (fun d => xW K d.at_) = xd.map XcD.val := congrArg (fun z : AlF => z.2.2) c
  simp only [Bool.and_eq_true, List.all_eq_true] at c0
  obtain ⟨c1, c4, c5⟩ := c0
  have fact : ∀ f ∈ faOf fn t.fr, f.ok K = true := fun f hf => by
    obtain ⟨i, hi, e⟩ := List.mem_iff_getElem.mp hf
    exact c2.fact i (f := f) (by rw [List.getElem?_eq_getElem hi, e])
  have dfl : ∀ d ∈ fn, d.at_ = (d.name, none) ∧ d.kwd = [] := fun d hd => by
    have z := List.all_eq_true.mp L.plain d hd
    unfold plainD at z
    simp only [Bool.and_eq_true, decide_eq_true_eq, List.isEmpty_iff] at z
    exact ⟨z.1, z.2⟩
  have fund : ∀ d ∈ fn, FunD K d.name d.qual d.params d.body d.scope (d.dvs K) [] (He.fAd K d.at_) (fdOf K (He.fAd K d.at_)) := fun d hd => by
    obtain ⟨i, hi, e⟩ := List.mem_iff_getElem.mp hd
    obtain ⟨fd, F⟩ := c2.def_ i (d := d) (by rw [List.getElem?_eq_getElem hi, e])
    obtain ⟨_, e2⟩ := dfl d hd
    have e4 : d.kws K = [] := by unfold He.DefD.kws; rw [e2]; rfl
    rw [e4] at F
    have e5 : fdOf K (He.fAd K d.at_) = fd := by
      obtain ⟨oc, od, dV, kV, doc, pm, an, cdv, ct, osl, rfl, lk, _⟩ := F.ex
      unfold fdOf
      rw [lk]
    rw [e5]; exact F
  refine ⟨fun f x hx => ?_, fun x d hx => ?_, fun x hx => ?_, fun k x fs hk => ?_, fun xs ids hm => ?_⟩
  · obtain ⟨d, n, h1, h2, h3, rfl⟩ := dsOf_get L.ba hx
    have hd : d ∈ fn := List.mem_of_getElem? h1
    have F := fund d hd
    have e := He.glo_ok X G (fact (.glo d.name) (List.mem_append_left _ (List.mem_map.mpr ⟨d, hd, rfl⟩)))
    refine ⟨F, F.kp, binds_of F h3, ?_, fun es he => ?_, fun m ks perm he => ?_⟩
    · show mg d.name = some (.ref (He.fAd K d.at_))
      rw [(dfl d hd).1, e]
      rfl
    · obtain ⟨d', n', g1, g2, g3, g4, g5, g6, g7⟩ := L.db.get he
      rw [h1] at g1; cases g1
      rw [h2] at g2; cases g2
      exact dbinds_of F g3 g4 g5 g6 g7
    · obtain ⟨d', n', g1, g2, g3, g4⟩ := L.kb.get he
      rw [h1] at g1; cases g1
      rw [h2] at g2; cases g2
      exact kbinds_of F g3 g4
  · obtain ⟨v, u, k1, k2, k3⟩ := cst_of X G (c1 (x, d) hx)
    exact ⟨v, u, k1, k2, fun B m H _ => k3 B m H⟩
  · exact He.free_ok X G (fact (.free x) (List.mem_append_right _ (List.mem_map.mpr ⟨x, hx, rfl⟩)))
  · rw [L.xt, List.getElem?_map] at hk
    cases q : xd[k]? with
    | none => rw [q] at hk; cases hk
    | some d =>
      rw [q] at hk
      cases hk
      have hm : d ∈ xd := List.mem_of_getElem? q
      have b1 := List.all_eq_true.mp L.xd_ d hm
      unfold xdB at b1
      simp only [Bool.and_eq_true, decide_eq_true_eq] at b1
      obtain ⟨⟨b1, b2⟩, b3⟩ := b1
      have b4 : xW K d.at_ = d.val := by
        have := congrArg (fun l => l[k]?) c3
        simpa [q] using this
      have b5 := c4 d hm
      have ok := xc_of (P := P) b5 b4 b1 L.file_ L.sup
      have hs : mg "super" = none := by
        unfold xcB at b5
        simp only [Bool.and_eq_true] at b5
        exact PySem.W.mg_none_of X G (He.eqO_ok b5.1.1.1.2)
      refine ⟨d, rfl, rfl, fun X' e1 e2 e3 e4 e5 => ?_⟩
      subst e1 e2 e3 e4 e5
      exact ⟨by unfold zOf; rw [List.getElem?_map, q]; rfl, ok, init_fn ok b1 (L.xba.get q) hs, b2, PySem.W.mg_of X G ok.glo, b3⟩
  · have h5 := c5 (xs, ids) hm
    unfold htB at h5
    simp only [Bool.and_eq_true, List.all_eq_true, decide_eq_true_eq] at h5
    obtain ⟨h6, h7⟩ := h5
    refine ⟨xs.map fun x => Value.ref (He.ga K x), by rw [List.length_map], fun i x hi => ⟨_, by rw [List.getElem?_map, hi]; rfl, PySem.W.mg_of X G (He.eqO_ok (h6 x (List.mem_of_getElem? hi)))⟩, fun k C fs hz => ?_⟩
    unfold zOf at hz
    rw [List.getElem?_map] at hz
    cases q : xd[k]? with
    | none => rw [q] at hz; cases hz
    | some d =>
      rw [q] at hz
      cases hz
      exact h7 (d, k) (List.mem_iff_getElem?.mpr ⟨k, by simp [List.getElem?_zipIdx, q]⟩)
theorem noCX {P : Program} {w : World} (H : Hp) (s : Shared) (e : Value) (s' : Shared) (h : L2.CX P w [] H s (fun _ _ _ => False) e s') : False := by
  obtain ⟨_, _, _, _, _, _, _, _, _, _, _, _, z⟩ := h
  exact z
/-- the evaluator's answer is the law's -/
theorem law_sp {K : Fg} {Z : Xt} {f : List D → M D} {H : Hp} {a : Addr} {ns : List Int} (hS : SqL K H a (ns.map V.int)) (hf : ∃ S, f [.ro (ns.map .int)] [] = .ok (.bl true) S) : spF K Z f [.ref a] H (fun v _ => v = .bl true) fun _ _ _ => False := by
  have ri : ∀ ns : List Int, RelDs K [] [] H (ns.map .int) (ns.map V.int) := fun ns => by
    induction ns with
    | nil => exact .nil
    | cons i r ih => exact .cons (.int i) ih
  refine ⟨[], [], [], [.ro (ns.map .int)], ⟨rfl, .nil, fun _ h => (nomatch h), fun i c a h _ => by simp at h⟩, .cons (.ro (hS.imp (fun h => ⟨h, by simp, by simp⟩) id) (ri ns)) .nil, ?_⟩
  obtain ⟨S, e⟩ := hf
  rw [e]
  exact fun m' H' _ _ v r => r.bl_of
/-- a law by the evaluator -/
theorem law_of {l : PySem.W.OpenLaw} {n k : Nat} {q : Program} {loose : List Str} {XP : (Str → Option Value) → Heap → Prop} {d : DefRec} {x : Str} {hn : Nat} {t : Tbl} {file : Str} {xd : List XcD} {fn : List He.DefD} {ns : List (List Str × List Str)} {fs : List Fn} {fuel L : Nat} {dl : He.DefD} {N : List Str}
    (hm : l.most = some n) (hn2 : n ≤ sizeLine) (hdf : d.params.defaults = []) (hr : Room k callerA) (lk : Lk l.prog t file xd fn ns) (hc : ∀ K, dfsB ((dsOf K fn ns).map (·.name)) t (dsOf K fn ns) fs = true)
    (hL : ∀ K, (dsOf K fn ns)[L]? = some (mkDf K dl (N, [x]))) (hx : dl.name = d.name) (hbl : BN dl [x]) (hdl : dl.dfl = [])
    (ev : ∀ is : List Int, is.length ≤ n → ∃ S, callF fs fuel k L [.ro (is.map .int)] [] = .ok (.bl true) S) :
    PySem.W.WalkO q loose XP (hookF hn t file xd (faOf fn t.fr) fn).says l.row.toRowW d [] (fun f vs => PySem.call f vs) := by
  refine Att.attach_call hm hdf fun w s₀ s₁ mg mb fa o pm cd doc a vs is G Y _ _ _ hmg ha hi hle hgn => ?_
  obtain ⟨K, KX, c⟩ := Y
  have heads : ∀ base : Heap, Hd l.prog w K mg base (zOf K xd) (dsOf K fn ns) t := fun base => hd_of KX G.T.g c lk
  obtain ⟨F, hk, hbi, hmg', _⟩ := (heads s₁.heap).fun_ _ _ (hL K)
  have efa : fa = He.fAd K dl.at_ := by
    have e1 := hmg'
    rw [show (mkDf K dl (N, [x])).name = d.name from hx, hmg] at e1
    exact Value.ref.inj (Option.some.inj e1)
  have lv := fun base => lv_all (fuel := fuel) (heads base) (hc K) k L _ (hL K)
  subst efa
  refine L2.law_call (x := x) KX G.T.g G.T.b G.T.builtins G.T.nolimit hgn ha hi (Nat.le_trans hle hn2) hr (fun base _ _ => lv base) (fun s u => ?_) (fun H _ hS => law_sp hS (ev is hle)) fun H e s' => noCX H s₁ e s'
  have F' : FunD K dl.name dl.qual dl.params dl.body dl.scope (dl.dvs K) [] (He.fAd K dl.at_) (fdOf K (He.fAd K dl.at_)) := F
  have e3 : dl.dvs K = [] := by unfold He.DefD.dvs; rw [hdl]; rfl
  rw [e3] at F'
  exact FunD.bindsA (ps := [x]) F' hbl s [u] rfl
end Fb
set_option Elab.async false
set_option linter.all false
set_option maxRecDepth 100000
set_option maxHeartbeats 0
namespace Lw
open PySem PySem.Spec PyProof.Rows L2 Fb
def top (i : Nat) : Stmt := PySem.Challenge.pw_fewbodies_k52_state_texts.main.body.getD i (.Pass ⟨0, 0, 0, 0⟩)
def dd (i : Nat) (n : String) (dfl : List He.Dv) : He.DefD := ⟨(PySem.Str.ofString n, none), PySem.Str.ofString n, PySem.Str.ofString n, defArgs (top i), defBody (top i), defScope (top i), dfl, []⟩
def dd0 : He.DefD := dd 8 "told_lines" []
def dd1 : He.DefD := dd 9 "need_short" [.int 600]
def dd2 : He.DefD := dd 10 "written_integer" []
def dd3 : He.DefD := dd 11 "last_line" []
def dd4 : He.DefD := dd 13 "frame_text" []
def dd5 : He.DefD := dd 14 "state_text" []
def dd6 : He.DefD := dd 15 "integers_of" []
def dd7 : He.DefD := dd 16 "read_frame" []
def dd8 : He.DefD := dd 17 "read_steps" []
def dd9 : He.DefD := dd 18 "read_out" []
def dd10 : He.DefD := dd 19 "read_state" []
def dd11 : He.DefD := dd 21 "_law_mug" []
def dd12 : He.DefD := dd 22 "_law_gulp" []
def dd13 : He.DefD := dd 23 "_law_of" []
def dd14 : He.DefD := dd 24 "_law_same" []
def dd15 : He.DefD := dd 25 "_law_number" []
def dd16 : He.DefD := dd 26 "_law_state" []
def dd17 : He.DefD := dd 27 "_law_lines" []
def dd18 : He.DefD := dd 28 "_law_is_integer" []
def dd19 : He.DefD := dd 29 "_law_frame" []
def dd20 : He.DefD := dd 30 "_law_reading" []
def dd21 : He.DefD := dd 31 "_law_heard" []
def dd22 : He.DefD := dd 32 "_law_spaced" []
def dd23 : He.DefD := dd 33 "_law_bent" []
def dd24 : He.DefD := dd 34 "_law_asked" []
def dd25 : He.DefD := dd 35 "_law_hand" []
def dd26 : He.DefD := dd 36 "law" []
def fn : List He.DefD := [dd0, dd1, dd2, dd3, dd4, dd5, dd6, dd7, dd8, dd9, dd10, dd11, dd12, dd13, dd14, dd15, dd16, dd17, dd18, dd19, dd20, dd21, dd22, dd23, dd24, dd25, dd26]
def ns0 : List PySem.Str := ["text", "told", "number", "line", "words", "word"]
def ps0 : List PySem.Str := ["text"]
def ns1 : List PySem.Str := ["number", "line", "most"]
def ps1 : List PySem.Str := ["number", "line", "most"]
def ns2 : List PySem.Str := ["word", "figures", "sign"]
def ps2 : List PySem.Str := ["word"]
def ns3 : List PySem.Str := ["text"]
def ps3 : List PySem.Str := ["text"]
def ns4 : List PySem.Str := ["frame", "words", "at", "pairs", "other", "value", "name", "names"]
def ps4 : List PySem.Str := ["frame"]
def ns5 : List PySem.Str := ["state", "told", "frame", "value"]
def ps5 : List PySem.Str := ["state"]
def ns6 : List PySem.Str := ["number", "words", "told", "word"]
def ps6 : List PySem.Str := ["number", "words"]
def ns7 : List PySem.Str := ["number", "words", "ats", "written", "at", "rest", "place", "values"]
def ps7 : List PySem.Str := ["number", "words"]
def ns8 : List PySem.Str := ["number", "words"]
def ps8 : List PySem.Str := ["number", "words"]
def ns9 : List PySem.Str := ["number", "words"]
def ps9 : List PySem.Str := ["number", "words"]
def ns10 : List PySem.Str := ["text", "told", "number", "line", "words"]
def ps10 : List PySem.Str := ["text"]
def ns11 : List PySem.Str := ["script", "great", "stirred", "cell", "size"]
def ps11 : List PySem.Str := ["script"]
def ns12 : List PySem.Str := ["mug", "many", "size"]
def ps12 : List PySem.Str := ["mug", "many"]
def ns13 : List PySem.Str := ["mug", "row"]
def ps13 : List PySem.Str := ["mug", "row"]
def ns14 : List PySem.Str := ["told", "due", "todo", "one", "other", "at"]
def ps14 : List PySem.Str := ["told", "due"]
def ns15 : List PySem.Str := ["mug"]
def ps15 : List PySem.Str := ["mug"]
def ns16 : List PySem.Str := ["mug", "frames", "many", "at", "outputs", "word", "instance", "names", "place", "name", "lap"]
def ps16 : List PySem.Str := ["mug"]
def ns17 : List PySem.Str := ["state", "told", "steps", "outputs", "frames", "instance", "place", "values", "words", "name", "value", "one"]
def ps17 : List PySem.Str := ["state"]
def ns18 : List PySem.Str := ["word", "figures", "sign"]
def ps18 : List PySem.Str := ["word"]
def ns19 : List PySem.Str := ["words", "spot", "behind", "values", "k"]
def ps19 : List PySem.Str := ["words"]
def ns20 : List PySem.Str := ["text", "lines", "told", "frames", "at", "words", "frame", "word"]
def ps20 : List PySem.Str := ["text"]
def ns21 : List PySem.Str := ["text", "error"]
def ps21 : List PySem.Str := ["text"]
def ns22 : List PySem.Str := ["mug", "lines", "text", "words"]
def ps22 : List PySem.Str := ["mug", "lines"]
def ns23 : List PySem.Str := ["mug", "lines", "at", "words", "way", "bad", "spots", "spot", "other", "rest", "odd", "k"]
def ps23 : List PySem.Str := ["mug", "lines"]
def ns24 : List PySem.Str := ["mug", "state", "lines", "text", "lap", "bent", "words"]
def ps24 : List PySem.Str := ["mug"]
def ns25 : List PySem.Str := ["first", "told", "due", "asks", "text", "line", "word"]
def ps25 : List PySem.Str := []
def ns26 : List PySem.Str := ["script", "mug", "lap", "more", "text", "due", "wide"]
def ps26 : List PySem.Str := ["script"]
def ns : List (List PySem.Str × List PySem.Str) := [(ns0, ps0), (ns1, ps1), (ns2, ps2), (ns3, ps3), (ns4, ps4), (ns5, ps5), (ns6, ps6), (ns7, ps7), (ns8, ps8), (ns9, ps9), (ns10, ps10), (ns11, ps11), (ns12, ps12), (ns13, ps13), (ns14, ps14), (ns15, ps15), (ns16, ps16), (ns17, ps17), (ns18, ps18), (ns19, ps19), (ns20, ps20), (ns21, ps21), (ns22, ps22), (ns23, ps23), (ns24, ps24), (ns25, ps25), (ns26, ps26)]
theorem bn0 : BN dd0 ps0 := fun _ _ _ _ _ _ us hl => match us, hl with | [_], _ => rfl
theorem ba0 : BA dd0 ps0 := .inl ⟨rfl, bn0⟩
theorem ba1 : BA dd1 ps1 := .inr ⟨(fun h => nomatch h), fun _ _ _ _ _ _ _ us its h1 h2 => match us, its, h1, h2 with | [_, _, _], [_], _, _ => ⟨_, rfl, rfl⟩⟩
theorem bn2 : BN dd2 ps2 := fun _ _ _ _ _ _ us hl => match us, hl with | [_], _ => rfl
theorem ba2 : BA dd2 ps2 := .inl ⟨rfl, bn2⟩
theorem bn3 : BN dd3 ps3 := fun _ _ _ _ _ _ us hl => match us, hl with | [_], _ => rfl
theorem ba3 : BA dd3 ps3 := .inl ⟨rfl, bn3⟩
theorem bn4 : BN dd4 ps4 := fun _ _ _ _ _ _ us hl => match us, hl with | [_], _ => rfl
theorem ba4 : BA dd4 ps4 := .inl ⟨rfl, bn4⟩
theorem bn5 : BN dd5 ps5 := fun _ _ _ _ _ _ us hl => match us, hl with | [_], _ => rfl
theorem ba5 : BA dd5 ps5 := .inl ⟨rfl, bn5⟩
theorem bn6 : BN dd6 ps6 := fun _ _ _ _ _ _ us hl => match us, hl with | [_, _], _ => rfl
theorem ba6 : BA dd6 ps6 := .inl ⟨rfl, bn6⟩
theorem bn7 : BN dd7 ps7 := fun _ _ _ _ _ _ us hl => match us, hl with | [_, _], _ => rfl
theorem ba7 : BA dd7 ps7 := .inl ⟨rfl, bn7⟩
theorem bn8 : BN dd8 ps8 := fun _ _ _ _ _ _ us hl => match us, hl with | [_, _], _ => rfl
theorem ba8 : BA dd8 ps8 := .inl ⟨rfl, bn8⟩
theorem bn9 : BN dd9 ps9 := fun _ _ _ _ _ _ us hl => match us, hl with | [_, _], _ => rfl
theorem ba9 : BA dd9 ps9 := .inl ⟨rfl, bn9⟩
theorem bn10 : BN dd10 ps10 := fun _ _ _ _ _ _ us hl => match us, hl with | [_], _ => rfl
theorem ba10 : BA dd10 ps10 := .inl ⟨rfl, bn10⟩
theorem bn11 : BN dd11 ps11 := fun _ _ _ _ _ _ us hl => match us, hl with | [_], _ => rfl
theorem ba11 : BA dd11 ps11 := .inl ⟨rfl, bn11⟩
theorem bn12 : BN dd12 ps12 := fun _ _ _ _ _ _ us hl => match us, hl with | [_, _], _ => rfl
theorem ba12 : BA dd12 ps12 := .inl ⟨rfl, bn12⟩
theorem bn13 : BN dd13 ps13 := fun _ _ _ _ _ _ us hl => match us, hl with | [_, _], _ => rfl
theorem ba13 : BA dd13 ps13 := .inl ⟨rfl, bn13⟩
theorem bn14 : BN dd14 ps14 := fun _ _ _ _ _ _ us hl => match us, hl with | [_, _], _ => rfl
theorem ba14 : BA dd14 ps14 := .inl ⟨rfl, bn14⟩
theorem bn15 : BN dd15 ps15 := fun _ _ _ _ _ _ us hl => match us, hl with | [_], _ => rfl
theorem ba15 : BA dd15 ps15 := .inl ⟨rfl, bn15⟩
theorem bn16 : BN dd16 ps16 := fun _ _ _ _ _ _ us hl => match us, hl with | [_], _ => rfl
theorem ba16 : BA dd16 ps16 := .inl ⟨rfl, bn16⟩
theorem bn17 : BN dd17 ps17 := fun _ _ _ _ _ _ us hl => match us, hl with | [_], _ => rfl
theorem ba17 : BA dd17 ps17 := .inl ⟨rfl, bn17⟩
theorem bn18 : BN dd18 ps18 := fun _ _ _ _ _ _ us hl => match us, hl with | [_], _ => rfl
theorem ba18 : BA dd18 ps18 := .inl ⟨rfl, bn18⟩
theorem bn19 : BN dd19 ps19 := fun _ _ _ _ _ _ us hl => match us, hl with | [_], _ => rfl
theorem ba19 : BA dd19 ps19 := .inl ⟨rfl, bn19⟩
theorem bn20 : BN dd20 ps20 := fun _ _ _ _ _ _ us hl => match us, hl with | [_], _ => rfl
theorem ba20 : BA dd20 ps20 := .inl ⟨rfl, bn20⟩
theorem bn21 : BN dd21 ps21 := fun _ _ _ _ _ _ us hl => match us, hl with | [_], _ => rfl
theorem ba21 : BA dd21 ps21 := .inl ⟨rfl, bn21⟩
theorem bn22 : BN dd22 ps22 := fun _ _ _ _ _ _ us hl => match us, hl with | [_, _], _ => rfl
theorem ba22 : BA dd22 ps22 := .inl ⟨rfl, bn22⟩
theorem bn23 : BN dd23 ps23 := fun _ _ _ _ _ _ us hl => match us, hl with | [_, _], _ => rfl
theorem ba23 : BA dd23 ps23 := .inl ⟨rfl, bn23⟩
theorem bn24 : BN dd24 ps24 := fun _ _ _ _ _ _ us hl => match us, hl with | [_], _ => rfl
theorem ba24 : BA dd24 ps24 := .inl ⟨rfl, bn24⟩
theorem bn25 : BN dd25 ps25 := fun _ _ _ _ _ _ us hl => match us, hl with | [], _ => rfl
theorem ba25 : BA dd25 ps25 := .inl ⟨rfl, bn25⟩
theorem bn26 : BN dd26 ps26 := fun _ _ _ _ _ _ us hl => match us, hl with | [_], _ => rfl
theorem ba26 : BA dd26 ps26 := .inl ⟨rfl, bn26⟩
theorem bas : BAs fn ns := ⟨ba0, ba1, ba2, ba3, ba4, ba5, ba6, ba7, ba8, ba9, ba10, ba11, ba12, ba13, ba14, ba15, ba16, ba17, ba18, ba19, ba20, ba21, ba22, ba23, ba24, ba25, ba26, trivial⟩
def cs : List (PySem.Str × D) := [("SIGNS_MOST", (.int 400)), ("FIGURES", (.str [48, 49, 50, 51, 52, 53, 54, 55, 56, 57])), ("FIGURES_MOST", (.int 60))]
def fr : List PySem.Str := ["ValueError", "abs", "bool", "enumerate", "int", "isinstance", "len", "list", "range", "str", "super", "tuple", "zip"]
def db : List (Nat × List D) := [(1, [(.int 600)])]
def kb : List (Nat × Nat × List PySem.Str × List Nat) := [(5, 0, ["state"], [0]), (10, 0, ["text"], [0])]
def xt : List (PySem.Str × List PySem.Str) := [("BadLine", ["line", "word"])]
def ht : List (List PySem.Str × List Nat) := [(["BadLine"], [0]), (["FewError"], [0])]
def tb : Tbl := ⟨cs, fr, db, kb, xt, ht⟩
theorem db0 : BD dd1 ps1 2 0 := fun _ _ _ _ _ _ _ us its h1 h2 => match us, its, h1, h2 with | [_, _], [_], _, _ => ⟨_, rfl, rfl⟩
theorem dbas : DBA fn ns db := ⟨⟨dd1, (ns1, ps1), rfl, rfl, (fun h => nomatch h), by decide, by decide, by kernel_rfl, db0⟩, trivial⟩
theorem kb0 : KB1 dd5 ps5 0 ["state"] [0] := fun _ _ _ _ _ _ us ws zs h1 h2 h3 => match us, ws, h1, h2, h3 with | [], [_], _, _, h3 => by cases h3; rfl
theorem kb1 : KB1 dd10 ps10 0 ["text"] [0] := fun _ _ _ _ _ _ us ws zs h1 h2 h3 => match us, ws, h1, h2, h3 with | [], [_], _, _, h3 => by cases h3; rfl
theorem kbas : KBA fn ns kb := ⟨⟨dd5, (ns5, ps5), rfl, rfl, rfl, kb0⟩, ⟨dd10, (ns10, ps10), rfl, rfl, rfl, kb1⟩, trivial⟩
def xi0 : Stmt := (clsLines (top 2)).getD 0 (.Pass ⟨0, 0, 0, 0⟩)
def xd0 : XcD := ⟨"BadLine", ["line", "word"], "self", "__init__", "BadLine.__init__", defArgs xi0, defBody xi0, defScope xi0⟩
theorem xba0 : XBA xd0 := fun _ _ _ _ _ _ _ us hl => match us, hl with | [_, _, _], _ => rfl
def xd : List XcD := [xd0]
theorem xbas : XBAs xd := ⟨xba0, trivial⟩
abbrev R : PySem.W.OpenRow := PySem.W.OpenLaw.row PySem.Challenge.rw_fewbodies_k52_state_texts
def file : PySem.Str := R.prog.main.file
theorem ck0 (K : PySem.W.Frag) : dfB ((dsOf K fn ns).map (·.name)) tb (mkDf K dd0 (ns0, ps0)) f_told_lines = true := by kernel_rfl
theorem ck1 (K : PySem.W.Frag) : dfB ((dsOf K fn ns).map (·.name)) tb (mkDf K dd1 (ns1, ps1)) f_need_short = true := by kernel_rfl
theorem ck2 (K : PySem.W.Frag) : dfB ((dsOf K fn ns).map (·.name)) tb (mkDf K dd2 (ns2, ps2)) f_written_integer = true := by kernel_rfl
theorem ck3 (K : PySem.W.Frag) : dfB ((dsOf K fn ns).map (·.name)) tb (mkDf K dd3 (ns3, ps3)) f_last_line = true := by kernel_rfl
theorem ck4 (K : PySem.W.Frag) : dfB ((dsOf K fn ns).map (·.name)) tb (mkDf K dd4 (ns4, ps4)) f_frame_text = true := by kernel_rfl
theorem ck5 (K : PySem.W.Frag) : dfB ((dsOf K fn ns).map (·.name)) tb (mkDf K dd5 (ns5, ps5)) f_state_text = true := by kernel_rfl
theorem ck6 (K : PySem.W.Frag) : dfB ((dsOf K fn ns).map (·.name)) tb (mkDf K dd6 (ns6, ps6)) f_integers_of = true := by kernel_rfl
theorem ck7 (K : PySem.W.Frag) : dfB ((dsOf K fn ns).map (·.name)) tb (mkDf K dd7 (ns7, ps7)) f_read_frame = true := by kernel_rfl
theorem ck8 (K : PySem.W.Frag) : dfB ((dsOf K fn ns).map (·.name)) tb (mkDf K dd8 (ns8, ps8)) f_read_steps = true := by kernel_rfl
theorem ck9 (K : PySem.W.Frag) : dfB ((dsOf K fn ns).map (·.name)) tb (mkDf K dd9 (ns9, ps9)) f_read_out = true := by kernel_rfl
theorem ck10 (K : PySem.W.Frag) : dfB ((dsOf K fn ns).map (·.name)) tb (mkDf K dd10 (ns10, ps10)) f_read_state = true := by kernel_rfl
theorem ck11 (K : PySem.W.Frag) : dfB ((dsOf K fn ns).map (·.name)) tb (mkDf K dd11 (ns11, ps11)) f_law_mug = true := by kernel_rfl
theorem ck12 (K : PySem.W.Frag) : dfB ((dsOf K fn ns).map (·.name)) tb (mkDf K dd12 (ns12, ps12)) f_law_gulp = true := by kernel_rfl
theorem ck13 (K : PySem.W.Frag) : dfB ((dsOf K fn ns).map (·.name)) tb (mkDf K dd13 (ns13, ps13)) f_law_of = true := by kernel_rfl
theorem ck14 (K : PySem.W.Frag) : dfB ((dsOf K fn ns).map (·.name)) tb (mkDf K dd14 (ns14, ps14)) f_law_same = true := by kernel_rfl
theorem ck15 (K : PySem.W.Frag) : dfB ((dsOf K fn ns).map (·.name)) tb (mkDf K dd15 (ns15, ps15)) f_law_number = true := by kernel_rfl
theorem ck16 (K : PySem.W.Frag) : dfB ((dsOf K fn ns).map (·.name)) tb (mkDf K dd16 (ns16, ps16)) f_law_state = true := by kernel_rfl
theorem ck17 (K : PySem.W.Frag) : dfB ((dsOf K fn ns).map (·.name)) tb (mkDf K dd17 (ns17, ps17)) f_law_lines = true := by kernel_rfl
theorem ck18 (K : PySem.W.Frag) : dfB ((dsOf K fn ns).map (·.name)) tb (mkDf K dd18 (ns18, ps18)) f_law_is_integer = true := by kernel_rfl
theorem ck19 (K : PySem.W.Frag) : dfB ((dsOf K fn ns).map (·.name)) tb (mkDf K dd19 (ns19, ps19)) f_law_frame = true := by kernel_rfl
theorem ck20 (K : PySem.W.Frag) : dfB ((dsOf K fn ns).map (·.name)) tb (mkDf K dd20 (ns20, ps20)) f_law_reading = true := by kernel_rfl
theorem ck21 (K : PySem.W.Frag) : dfB ((dsOf K fn ns).map (·.name)) tb (mkDf K dd21 (ns21, ps21)) f_law_heard = true := by kernel_rfl
theorem ck22 (K : PySem.W.Frag) : dfB ((dsOf K fn ns).map (·.name)) tb (mkDf K dd22 (ns22, ps22)) f_law_spaced = true := by kernel_rfl
theorem ck23 (K : PySem.W.Frag) : dfB ((dsOf K fn ns).map (·.name)) tb (mkDf K dd23 (ns23, ps23)) f_law_bent = true := by kernel_rfl
theorem ck24 (K : PySem.W.Frag) : dfB ((dsOf K fn ns).map (·.name)) tb (mkDf K dd24 (ns24, ps24)) f_law_asked = true := by kernel_rfl
theorem ck25 (K : PySem.W.Frag) : dfB ((dsOf K fn ns).map (·.name)) tb (mkDf K dd25 (ns25, ps25)) f_law_hand = true := by kernel_rfl
theorem ck26 (K : PySem.W.Frag) : dfB ((dsOf K fn ns).map (·.name)) tb (mkDf K dd26 (ns26, ps26)) f_law = true := by kernel_rfl
theorem ck (K : PySem.W.Frag) : dfsB ((dsOf K fn ns).map (·.name)) tb (dsOf K fn ns) fs = true := by
  show dfsB ((dsOf K fn ns).map (·.name)) tb [mkDf K dd0 (ns0, ps0), mkDf K dd1 (ns1, ps1), mkDf K dd2 (ns2, ps2), mkDf K dd3 (ns3, ps3), mkDf K dd4 (ns4, ps4), mkDf K dd5 (ns5, ps5), mkDf K dd6 (ns6, ps6), mkDf K dd7 (ns7, ps7), mkDf K dd8 (ns8, ps8), mkDf K dd9 (ns9, ps9), mkDf K dd10 (ns10, ps10), mkDf K dd11 (ns11, ps11), mkDf K dd12 (ns12, ps12), mkDf K dd13 (ns13, ps13), mkDf K dd14 (ns14, ps14), mkDf K dd15 (ns15, ps15), mkDf K dd16 (ns16, ps16), mkDf K dd17 (ns17, ps17), mkDf K dd18 (ns18, ps18), mkDf K dd19 (ns19, ps19), mkDf K dd20 (ns20, ps20), mkDf K dd21 (ns21, ps21), mkDf K dd22 (ns22, ps22), mkDf K dd23 (ns23, ps23), mkDf K dd24 (ns24, ps24), mkDf K dd25 (ns25, ps25), mkDf K dd26 (ns26, ps26)] [f_told_lines, f_need_short, f_written_integer, f_last_line, f_frame_text, f_state_text, f_integers_of, f_read_frame, f_read_steps, f_read_out, f_read_state, f_law_mug, f_law_gulp, f_law_of, f_law_same, f_law_number, f_law_state, f_law_lines, f_law_is_integer, f_law_frame, f_law_reading, f_law_heard, f_law_spaced, f_law_bent, f_law_asked, f_law_hand, f_law] = true
  simp only [dfsB, ck0, ck1, ck2, ck3, ck4, ck5, ck6, ck7, ck8, ck9, ck10, ck11, ck12, ck13, ck14, ck15, ck16, ck17, ck18, ck19, ck20, ck21, ck22, ck23, ck24, ck25, ck26, Bool.and_self]
theorem lk : Lk PySem.Challenge.rw_fewbodies_k52_state_texts.prog tb file xd fn ns := ⟨by kernel_rfl, bas, dbas, kbas, by kernel_rfl, xbas, by rfl, by rfl, by kernel_rfl⟩
abbrev hk : PySem.W.Hook := hookF 5 tb file xd (faOf fn fr) fn
def ob (s : PySem.W.SharedT) : AlF := obsFG 5 tb file xd (faOf fn fr) fn (HandSHeadRun.getT s)
theorem ob_eq (s : PySem.W.SharedT) : ob s = hk.obs s.abs := obsFG_eq (HandSHeadRun.getT_eq s)
def lo0 : List PySem.Str := ["FewError", "BadLine", "LINES_MOST", "SIGNS_MOST", "FIGURES_MOST", "FIGURES", "told_lines", "need_short", "written_integer", "last_line", "frame_text", "state_text", "integers_of", "read_frame", "read_steps", "read_out", "read_state", "_law_mug", "_law_gulp", "_law_of", "_law_same", "_law_number", "_law_state", "_law_lines", "_law_is_integer", "_law_frame", "_law_reading", "_law_heard", "_law_spaced", "_law_bent"]
def lo1 : List PySem.Str := ["_law_asked", "_law_hand"]
def loose : List PySem.Str := lo0 ++ lo1
theorem run (w : World) : HandSHeadRun.RunEq R (PySem.W.view R.prog [36]) hk ob 8000 loose w := by
  intro os
  kernel_rfl
theorem done_of (k fuel : Nat) (hr : Room k callerA) (ev : ∀ is : List Int, is.length ≤ 63 → ∃ S, callF fs fuel k 26 [.ro (is.map .int)] [] = .ok (.bl true) S) : PySem.Challenge.rw_fewbodies_k52_state_texts.Holds := by
  w_on; o_law
  refine HandSHeadRun.head_any (r := R) (q := PySem.W.view R.prog [36]) (H := hk) (ob := ob) (M := 8000) (loose := loose) (d := HandSHeadRun.topDef R.prog 36) (kwd := []) ob_eq
    (by kernel_rfl) (fun s => by kernel_rfl) run (by kernel_rfl) (by kernel_rfl) (by kernel_rfl) (by rfl) (by first | assumption | decide +kernel) (by decide +kernel) ⟨rfl, rfl, rfl, rfl, rfl, by decide +kernel⟩ ?hw ?hc
  case hw => w_witness2
  case hc => exact law_of (l := PySem.Challenge.rw_fewbodies_k52_state_texts) (n := 63) (k := k) (x := "script") (hn := 5) (t := tb) (file := file) (xd := xd) (fn := fn) (ns := ns) (fs := fs) (fuel := fuel) (L := 26) (dl := dd26) (N := ns26) rfl (by decide) (by kernel_rfl) hr lk ck (fun K => rfl) (by kernel_rfl) bn26 rfl ev
end Lw
set_option maxHeartbeats 4000000
theorem PySem.Challenge.cw_fewbodies_k52_state_texts_holds : PySem.Challenge.rw_fewbodies_k52_state_texts.Holds := by
  refine Lw.done_of 9 20000 ⟨rfl, by decide, by decide⟩ fun is hn => ?_
  exact Lw.law_ev hn
