import PyProof.Rows.All
import Open.Row
import Wide.All
import OpenK.AllK
import Wide.FinOn
import HandS.ForMost
import HandS.ForExc
import HandS.WordsExc
import HandS.Defaults
import HandS.CallSlots
import HandS.Flow
import HandS.Style
import HandS.TupAny
import HandS.TupMul
import HandS.IsInst
import HandS.Deep
import HandS.RaiseMore
import HandS.Iter
import HandS.Comp
import HandS.TryOnly
import KE.KStateDown
import HandS.Head0
import HandS.Head1
import HandS.Head2
import HandS.HeadEnd
import HandS.HeadHook1
import HandS.HeadHook2
import Lean
import PySem.Challenge.RW_fewbodies_k04_program_text
set_option linter.all false
set_option maxRecDepth 100000
/-! Fb1: plain values, a small store of mutable cells, the IR and its evaluator. No program in sight. -/
namespace Fb
inductive D where
  | non | bl (b : Bool) | int (i : Int) | str (x : List Nat) | tup (xs : List D) | lst (xs : List D) | ro (xs : List D) | cell (n : Nat)
  deriving Inhabited
inductive Cell where
  | lst (xs : List D)
abbrev Store := List Cell
inductive Res (α : Type) where
  | ok (a : α) (S : Store) | exc (c : Nat) (as : List D) (S : Store) | bad
abbrev M (α : Type) := Store → Res α
def M.ret {α : Type} (a : α) : M α := fun S => .ok a S
def M.bind {α β : Type} (m : M α) (f : α → M β) : M β := fun S => match m S with
  | .ok a S' => f a S'
  | .exc c as S' => .exc c as S'
  | .bad => .bad
instance : Monad M where
  pure := M.ret
  bind := M.bind
def M.bad {α : Type} : M α := fun _ => .bad
def M.opt {α : Type} (o : Option α) : M α := fun S => match o with
  | some a => .ok a S
  | none => .bad
def SL : Nat := 16777216
abbrev Ev := List (Option D)

/-! ### what a value holds -/
/-- the items of a list that is the call's own (in either mode) -/
def ownOf (S : Store) : D → Option (List D)
  | .lst xs => some xs
  | .cell n => match S[n]? with
    | some (.lst xs) => some xs
    | none => none
  | _ => none
/-- the items of a list, of one that is but read, too -/
def lstOf (S : Store) : D → Option (List D)
  | .ro xs => some xs
  | d => ownOf S d
/-- the items of a list or tuple -/
def seqOf (S : Store) : D → Option (List D)
  | .tup xs => some xs
  | d => lstOf S d
def truthD (S : Store) : D → Option Bool
  | .non => some false
  | .bl b => some b
  | .int i => some (i != 0)
  | .str x => if x.length ≤ SL then some (!x.isEmpty) else none
  | d => (seqOf S d).map fun xs => !xs.isEmpty
def truthM (d : D) : M Bool := fun S => M.opt (truthD S d) S
mutual
def D.free : D → Bool
  | .tup xs => D.frees xs
  | .lst xs => D.frees xs
  | .ro xs => D.frees xs
  | .cell _ => false
  | _ => true
def D.frees : List D → Bool
  | [] => true
  | x :: xs => D.free x && D.frees xs
end
/-- Python's ==, of cell-free data -/
def beqI (a : Bool) (i : Int) : Bool := (if a then 1 else 0) == i
mutual
def D.eqv : D → D → Bool
  | .non, .non => true
  | .bl a, .bl b => a == b
  | .bl a, .int j => beqI a j
  | .int i, .bl b => beqI b i
  | .int i, .int j => i == j
  | .str x, .str y => x == y
  | .lst xs, .lst ys => D.eqvs xs ys
  | .lst xs, .ro ys => D.eqvs xs ys
  | .ro xs, .lst ys => D.eqvs xs ys
  | .ro xs, .ro ys => D.eqvs xs ys
  | .tup xs, .tup ys => D.eqvs xs ys
  | _, _ => false
def D.eqvs : List D → List D → Bool
  | [], [] => true
  | x :: xs, y :: ys => D.eqv x y && D.eqvs xs ys
  | _, _ => false
end
mutual
def D.depth : D → Nat
  | .tup xs => D.depths xs + 1
  | .lst xs => D.depths xs + 1
  | .ro xs => D.depths xs + 1
  | _ => 0
def D.depths : List D → Nat
  | [] => 0
  | x :: xs => max (D.depth x) (D.depths xs)
end
/-- a flat value: not an object -/
def D.flat : D → Bool
  | .non | .bl _ | .int _ | .str _ => true
  | _ => false

/-! ### operators -/
inductive Bo where
  | add | sub | mul | mod | fdiv | pow | shl
  deriving DecidableEq
inductive Co where
  | eq | ne | lt | le | gt | ge | isIn | notIn
  deriving DecidableEq
def two64 : Int := 18446744073709551616
def mulOk (i j : Int) : Bool := decide ((-two64 < i ∧ i < two64) ∨ (-two64 < j ∧ j < two64))
def cut1 (n : Nat) (o : Option Int) (d : Nat) : Nat := match o with
  | none => d
  | some i => if i < 0 then (i + n).toNat else min i.toNat n
def cutL {α : Type} (xs : List α) (lo hi : Option Int) : List α :=
  (xs.drop (cut1 xs.length lo 0)).take (cut1 xs.length hi xs.length - cut1 xs.length lo 0)
def ixL {α : Type} (xs : List α) (i : Int) : Option α := if i < 0 then (if i + xs.length < 0 then none else xs[(i + xs.length).toNat]?) else xs[i.toNat]?
def addD (S : Store) (x y : D) : Option D := match x, y with
  | .int i, .int j => some (.int (i + j))
  | .str a, .str b => if a.length + b.length ≤ SL then some (.str (a ++ b)) else none
  | .tup a, .tup b => if a.length + b.length ≤ SL then some (.tup (a ++ b)) else none
  | x, y => match ownOf S x, ownOf S y with
    | some a, some b => if a.length + b.length ≤ SL then some (.lst (a ++ b)) else none
    | _, _ => none
def repL {α : Type} (a : List α) (k : Int) : List α := (List.replicate k.toNat a).flatten
def mulD (S : Store) (x y : D) : Option D := match x, y with
  | .int i, .int j => if mulOk i j then some (.int (i * j)) else none
  | .tup a, .int k => if a.length ≤ 1000 ∧ k ≤ 1000 ∧ -1000000 ≤ k then some (.tup (repL a k)) else none
  | .str a, .int k => if a.length ≤ 1000 ∧ k ≤ 1000 ∧ -1000000 ≤ k then some (.str (repL a k)) else none
  | x, .int k => match ownOf S x with
    | some a => if a.length ≤ 1000 ∧ k ≤ 1000 ∧ -1000000 ≤ k then some (.lst (repL a k)) else none
    | none => none
  | _, _ => none
def binD (S : Store) (o : Bo) (x y : D) : Option D := match o with
  | .add => addD S x y
  | .mul => mulD S x y
  | .sub => match x, y with
    | .int i, .int j => some (.int (i - j))
    | _, _ => none
  | .mod => match x, y with
    | .int i, .int j => if 0 < j then some (.int (i % j)) else none
    | _, _ => none
  | .fdiv => match x, y with
    | .int i, .int j => if 0 < j ∧ j < 1073741824 then some (.int (i / j)) else none
    | _, _ => none
  | .pow => match x, y with
    | .int i, .int j => if 0 ≤ j ∧ j ≤ 1000000 ∧ -two64 < i ∧ i < two64 then some (.int (i ^ j.toNat)) else none
    | _, _ => none
  | .shl => match x, y with
    | .int i, .int j => if 0 ≤ j ∧ j ≤ 1000000 ∧ -two64 < i ∧ i < two64 then some (.int (i * 2 ^ j.toNat)) else none
    | _, _ => none
def binM (o : Bo) (x y : D) : M D := fun S => M.opt (binD S o x y) S
/-- x among data -/
def memD (x : D) : List D → Bool
  | [] => false
  | y :: r => D.eqv y x || memD x r
/-- a list in either mode, as data; tuples and lists within stay as they are -/
def dataOf (S : Store) (d : D) : Option D := match d with
  | .cell _ => (lstOf S d).map .lst
  | d => some d
def inD (S : Store) (x y : D) : Option Bool := match y with
  | .str b => match x with
    | .str [c] => some (b.contains c)
    | _ => none
  | .tup ys => if x.flat && ys.all D.flat then some (memD x ys) else none
  | y => match lstOf S y with
    | some ys => if x.free && D.frees ys && decide (D.depth x ≤ 60) && decide (D.depths ys ≤ 60) then some (memD x ys) else none
    | none => none
def eqD (S : Store) (x y : D) : Option Bool := match dataOf S x, dataOf S y with
  | some a, some b => if a.free && b.free && decide (D.depth a ≤ 60) && decide (D.depth b ≤ 60) then some (D.eqv a b) else none
  | _, _ => none
def ltD (f : Int → Int → Bool) (x y : D) : Option Bool := match x, y with
  | .int i, .int j => some (f i j)
  | _, _ => none
def cmpD (S : Store) (o : Co) (x y : D) : Option Bool := match o with
  | .lt => ltD (fun i j => decide (i < j)) x y
  | .le => ltD (fun i j => decide (i ≤ j)) x y
  | .gt => ltD (fun i j => decide (j < i)) x y
  | .ge => ltD (fun i j => decide (j ≤ i)) x y
  | .eq => eqD S x y
  | .ne => (eqD S x y).map (!·)
  | .isIn => inD S x y
  | .notIn => (inD S x y).map (!·)
def cmpM (o : Co) (x y : D) : M Bool := fun S => M.opt (cmpD S o x y) S
def idxM (x y : D) : M D := fun S => match x, y with
  | .str a, .int i => if a.length ≤ SL then M.opt ((ixL a i).map fun c => .str [c]) S else .bad
  | x, .int i => match seqOf S x with
    | some xs => M.opt (ixL xs i) S
    | none => .bad
  | _, _ => .bad
def partI : D → Option (Option Int)
  | .non => some none
  | .int i => some (some i)
  | _ => none
def cutD (S : Store) (x : D) (lo hi : Option Int) : Option D := match x with
  | .str a => if a.length ≤ SL then some (.str (cutL a lo hi)) else none
  | .tup xs => some (.tup (cutL xs lo hi))
  | x => (lstOf S x).map fun xs => .lst (cutL xs lo hi)
def revD (S : Store) (x : D) : Option D := (lstOf S x).map fun xs => .lst xs.reverse

/-! ### built-ins -/
inductive Ty where
  | str | int | bool | tup | lst
  deriving DecidableEq
def D.isTy (S : Store) : D → Ty → Bool
  | .str _, .str => true
  | .int _, .int => true
  | .bl _, .int => true
  | .bl _, .bool => true
  | .tup _, .tup => true
  | .lst _, .lst => true
  | .ro _, .lst => true
  | .cell n, .lst => (ownOf S (.cell n)).isSome
  | _, _ => false
inductive Bt where
  | len | int | str | tuple | list | min | max | abs | all | any | sum
  deriving DecidableEq
inductive Mt where
  | append | pop | popAt | extend | join | split | startswith | upper | index | count
  deriving DecidableEq
def digitsOf (n : Nat) : List Nat := (Nat.toDigits 10 n).map Char.toNat
def intText (i : Int) : List Nat := if i < 0 then 45 :: digitsOf i.natAbs else digitsOf i.natAbs
def boolsOf : List D → Option (List Bool)
  | [] => some []
  | .bl b :: r => (boolsOf r).map (b :: ·)
  | _ => none
def intsOf : List D → Option (List Int)
  | [] => some []
  | .int b :: r => (intsOf r).map (b :: ·)
  | _ => none
def strsOf : List D → Option (List (List Nat))
  | [] => some []
  | .str b :: r => (strsOf r).map (b :: ·)
  | _ => none
def joinD (s : List Nat) : List (List Nat) → List Nat
  | [] => []
  | [x] => x
  | x :: r => x ++ s ++ joinD s r
def bltD (S : Store) (b : Bt) (xs : List D) : Option D := match b, xs with
  | .len, [.str a] => if a.length ≤ SL then some (.int a.length) else none
  | .len, [x] => (seqOf S x).map fun ys => .int ys.length
  | .int, [.int i] => some (.int i)
  | .int, [.bl b] => some (.int (if b then 1 else 0))
  | .str, [.int i] => if i.natAbs.log2 < 1920 then some (.str (intText i)) else none
  | .str, [.str a] => some (.str a)
  | .tuple, [x] => (seqOf S x).map .tup
  | .list, [x] => (seqOf S x).map .lst
  | .min, [.int i, .int j] => some (.int (if j < i then j else i))
  | .max, [.int i, .int j] => some (.int (if j > i then j else i))
  | .abs, [.int i] => some (.int (if i < 0 then -i else i))
  | .all, [x] => match lstOf S x with
    | some ys => (boolsOf ys).map fun bs => .bl (bs.all id)
    | none => none
  | .any, [x] => match lstOf S x with
    | some ys => (boolsOf ys).map fun bs => .bl (bs.any id)
    | none => none
  | .sum, [x] => match lstOf S x with
    | some ys => (intsOf ys).map fun ns => .int ns.sum
    | none => none
  | _, _ => none
/-- a method: its answer and the store behind it -/
def mthD (S : Store) (m : Mt) (x : D) (xs : List D) : Option (D × Store) := match m, x, xs with
  | .append, .cell n, [y] => match S[n]? with
    | some (.lst ys) => if ys.length < SL then some (.non, S.set n (.lst (ys ++ [y]))) else none
    | none => none
  | .extend, .cell n, [y] => match S[n]?, ownOf S y with
    | some (.lst ys), some zs => if ys.length + zs.length ≤ SL then some (.non, S.set n (.lst (ys ++ zs))) else none
    | _, _ => none
  | .pop, .cell n, [] => match S[n]? with
    | some (.lst ys) => (ys[ys.length - 1]?).map fun y => (y, S.set n (.lst ys.dropLast))
    | none => none
  | .popAt, .cell n, [.int i] => match S[n]? with
    | some (.lst ys) => if 0 ≤ i ∧ i < ys.length ∧ ys.length ≤ SL then (ys[i.toNat]?).map fun y => (y, S.set n (.lst (ys.eraseIdx i.toNat))) else none
    | none => none
  | .join, .str s, [x] => match seqOf S x with
    | some ys => match strsOf ys with
      | some zs => if (zs.map (·.length)).sum + zs.length * s.length ≤ SL then some (.str (joinD s zs), S) else none
      | none => none
    | none => none
  | _, _, _ => none

/-- the receiver's kind -/
def recvOk : Mt → D → Bool
  | .append, .cell _ => true
  | .pop, .cell _ => true
  | .popAt, .cell _ => true
  | .extend, .cell _ => true
  | .join, .str _ => true
  | .split, .str _ => true
  | .startswith, .str _ => true
  | .upper, .str _ => true
  | _, _ => false
/-! ### the IR -/
inductive Pat where
  | nm (i : Nat) | tp (is : List Nat)
inductive IE where
  | lit (d : D) | glo (x : List Nat) (d : D) | var (i : Nat) | nil | cons (a r : IE)
  | bin (o : Bo) (a b : IE) | neg (a : IE) | not (a : IE) | and (a b : IE) | or (a b : IE) | ite (c a b : IE)
  | cmp (o : Co) (a b : IE) | chn (o o' : Co) (a b c : IE) | isN (a : IE) | notN (a : IE)
  | tup (es : IE) | lst (es : IE) | idx (a b : IE) | sli (a lo hi : IE) | rev (a : IE)
  | call (f : Nat) (es : IE) | blt (b : Bt) (es : IE) | isi (a : IE) (t : List Ty) | mth (m : Mt) (a es : IE)
  | comp (own : List Nat) (p : Pat) (it c e : IE)
  | rng1 (a : IE) | rng2 (a b : IE) | enum (a : IE) | zip (a b : IE)
  | alloc (a : IE)
inductive IS where
  | skip | seq (a b : IS) | ex (e : IE) | set (i : Nat) (e : IE) | setP (is : List Nat) (e : IE) | par (is : List Nat) (es : IE) | put (a i e : IE)
  | aug (o : Bo) (i : Nat) (e : IE) | ite (c : IE) (a b : IS) | whl (c : IE) (b : IS) | for (p : Pat) (it : IE) (b : IS)
  | ret (e : IE) | retN | brk | cnt
structure Cf where
  call : Nat → List D → M D
  fuel : Nat
/-- what a for walks -/
inductive Src where
  | xs (xs : List D) | cl (n : Nat)
def allocM (d : D) : M D := fun S => match d with
  | .lst xs => .ok (.cell S.length) (S ++ [.lst xs])
  | d => .ok d S
def wipeE (σ : Ev) : List Nat → Ev
  | [] => σ
  | v :: vs => (wipeE σ vs).set v none
def setAll : List Nat → List D → Ev → Option Ev
  | [], [], σ => some σ
  | i :: is, x :: xs, σ => setAll is xs (σ.set i (some x))
  | _, _, _ => none
def patE (p : Pat) (d : D) (S : Store) (σ : Ev) : Option Ev := match p with
  | .nm i => some (σ.set i (some d))
  | .tp is => match seqOf S d with
    | some xs => setAll is xs σ
    | none => none
def rngD (lo : Int) (n : Nat) : List D := (List.range n).map fun (i : Nat) => .int (lo + i)
def big62 : Int := 4611686018427387904
def enumD (i : Nat) : List D → List D
  | [] => []
  | x :: r => .tup [.int i, x] :: enumD (i + 1) r
def zipD : List D → List D → List D
  | x :: xs, y :: ys => .tup [x, y] :: zipD xs ys
  | _, _ => []
def srcD (d : D) : Option Src := match d with
  | .tup xs => some (.xs xs)
  | .lst xs => some (.xs xs)
  | .ro xs => some (.xs xs)
  | .str x => some (.xs (x.map fun c => .str [c]))
  | .cell n => some (.cl n)
  | _ => none
/-- no error leaves a comprehension -/
def M.nox {α : Type} (f : M α) : M α := fun S => match f S with
  | .exc _ _ _ => .bad
  | r => r
/-- a comprehension's loop: f tells an item's element, or none -/
def compM (f : D → M (Option D)) : List D → Nat → M (List D)
  | [], _ => M.ret []
  | x :: r, k => M.bind (f x) fun o => match o with
    | none => compM f r k
    | some y => if k < SL then M.bind (compM f r (k + 1)) fun ys => M.ret (y :: ys) else M.bad
/-- .. over a cell as it stands at each turn -/
def compN (f : D → M (Option D)) (n : Nat) : Nat → Nat → Nat → M (List D)
  | 0, _, _ => M.bad
  | l + 1, i, k => fun S => match lstOf S (.cell n) with
    | none => .bad
    | some xs => match xs[i]? with
      | none => .ok [] S
      | some x => M.bind (f x) (fun o => match o with
        | none => compN f n l (i + 1) k
        | some y => if k < SL then M.bind (compN f n l (i + 1) (k + 1)) fun ys => M.ret (y :: ys) else M.bad) S
def compS (f : D → M (Option D)) (l : Nat) (s : Src) : M (List D) := match s with
  | .xs xs => compM f xs 0
  | .cl n => compN f n l 0 0
mutual
def evE (C : Cf) : IE → Ev → M D
  | .lit d, _ => M.ret d
  | .glo _ d, _ => M.ret d
  | .var i, σ => M.opt (σ[i]?.join)
  | .bin o a b, σ => M.bind (evE C a σ) fun x => M.bind (evE C b σ) fun y => binM o x y
  | .neg a, σ => M.bind (evE C a σ) fun x => match x with
    | .int i => M.ret (.int (-i))
    | _ => M.bad
  | .not a, σ => M.bind (M.bind (evE C a σ) truthM) fun b => M.ret (.bl !b)
  | .and a b, σ => M.bind (evE C a σ) fun x => M.bind (truthM x) fun t => if t then evE C b σ else M.ret x
  | .or a b, σ => M.bind (evE C a σ) fun x => M.bind (truthM x) fun t => if t then M.ret x else evE C b σ
  | .ite c a b, σ => M.bind (M.bind (evE C c σ) truthM) fun t => if t then evE C a σ else evE C b σ
  | .cmp o a b, σ => M.bind (evE C a σ) fun x => M.bind (evE C b σ) fun y => M.bind (cmpM o x y) fun t => M.ret (.bl t)
  | .chn o o' a b c, σ => M.bind (evE C a σ) fun x => M.bind (evE C b σ) fun y => M.bind (cmpM o x y) fun t =>
      if t then M.bind (evE C c σ) fun z => M.bind (cmpM o' y z) fun t' => M.ret (.bl t') else M.ret (.bl false)
  | .isN a, σ => M.bind (evE C a σ) fun x => M.ret (.bl (match x with
    | .non => true
    | _ => false))
  | .notN a, σ => M.bind (evE C a σ) fun x => M.ret (.bl (match x with
    | .non => false
    | _ => true))
  | .tup es, σ => M.bind (evA C es σ) fun xs => if xs.length ≤ SL then M.ret (.tup xs) else M.bad
  | .lst es, σ => M.bind (evA C es σ) fun xs => if xs.length ≤ SL then M.ret (.lst xs) else M.bad
  | .idx a b, σ => M.bind (evE C a σ) fun x => M.bind (evE C b σ) fun y => idxM x y
  | .sli a lo hi, σ => M.bind (evE C a σ) fun x => M.bind (evP C lo σ) fun l => M.bind (evP C hi σ) fun h => fun S => M.opt (cutD S x l h) S
  | .rev a, σ => M.bind (evE C a σ) fun x => fun S => M.opt (revD S x) S
  | .call f es, σ => M.bind (evA C es σ) fun xs => C.call f xs
  | .blt b es, σ => M.bind (evA C es σ) fun xs => fun S => M.opt (bltD S b xs) S
  | .isi a t, σ => M.bind (evE C a σ) fun x => fun S => .ok (.bl (t.any (D.isTy S x))) S
  | .mth m a es, σ => M.bind (evE C a σ) fun x => if recvOk m x then M.bind (evA C es σ) fun xs => fun S => match mthD S m x xs with
    | some (d, S') => .ok d S'
    | none => .bad
    else M.bad
  | .comp own p it c e, σ => M.bind (evI C it σ) fun s =>
      M.bind (compS (fun x => M.nox fun S => match patE p x S (wipeE σ own) with
        | none => .bad
        | some σ' => M.bind (evC C c σ') (fun t => if t then M.bind (evE C e σ') fun y => M.ret (some y) else M.ret none) S) C.fuel s) fun ys => M.ret (.lst ys)
  | .alloc a, σ => M.bind (evE C a σ) allocM
  | _, _ => M.bad
/-- an argument list -/
def evA (C : Cf) : IE → Ev → M (List D)
  | .nil, _ => M.ret []
  | .cons a r, σ => M.bind (evE C a σ) fun x => M.bind (evA C r σ) fun xs => M.ret (x :: xs)
  | _, _ => M.bad
/-- a slice's part -/
def evP (C : Cf) : IE → Ev → M (Option Int)
  | .nil, _ => M.ret none
  | .cons a _, σ => M.bind (evE C a σ) fun x => match x with
    | .int i => M.ret (some i)
    | _ => M.bad
  | _, _ => M.bad
/-- a clause's test -/
def evC (C : Cf) : IE → Ev → M Bool
  | .nil, _ => M.ret true
  | .cons a _, σ => M.bind (evE C a σ) truthM
  | _, _ => M.bad
/-- what is walked -/
def evI (C : Cf) : IE → Ev → M Src
  | .rng1 a, σ => M.bind (evE C a σ) fun x => match x with
    | .int j => if -big62 ≤ j ∧ j < big62 then M.ret (.xs (rngD 0 j.toNat)) else M.bad
    | _ => M.bad
  | .rng2 a b, σ => M.bind (evE C a σ) fun x => M.bind (evE C b σ) fun y => match x, y with
    | .int i, .int j => if -big62 ≤ i ∧ i < big62 ∧ -big62 ≤ j ∧ j < big62 then M.ret (.xs (rngD i (j - i).toNat)) else M.bad
    | _, _ => M.bad
  | .enum a, σ => M.bind (evE C a σ) fun x => fun S => match seqOf S x with
    | some xs => .ok (.xs (enumD 0 xs)) S
    | none => .bad
  | .zip a b, σ => M.bind (evE C a σ) fun x => M.bind (evE C b σ) fun y => fun S => match seqOf S x, seqOf S y with
    | some xs, some ys => .ok (.xs (zipD xs ys)) S
    | _, _ => .bad
  | .cons a _, σ => M.bind (evE C a σ) fun x => M.opt (srcD x)
  | _, _ => M.bad
end
/-- as a test -/
def evT (C : Cf) (e : IE) (σ : Ev) : M Bool := M.bind (evE C e σ) truthM
/-! ### statements -/
inductive Fl where
  | nx (σ : Ev) | rt (d : D) | bk (σ : Ev) | ct (σ : Ev) | xc (c : Nat) (as : List D) (σ : Ev)
/-- an expression within a statement: an error is kept with the slots -/
def liftE {α : Type} (f : M α) (σ : Ev) (k : α → M Fl) : M Fl := fun S => match f S with
  | .ok a S' => k a S'
  | .exc c as S' => .ok (.xc c as σ) S'
  | .bad => .bad
def forL (f : D → Ev → M Fl) : List D → Ev → M Fl
  | [], σ => M.ret (.nx σ)
  | x :: r, σ => M.bind (f x σ) fun o => match o with
    | .nx σ' => forL f r σ'
    | .ct σ' => forL f r σ'
    | .bk σ' => M.ret (.nx σ')
    | .rt d => M.ret (.rt d)
    | .xc c as σ' => M.ret (.xc c as σ')
/-- over a cell as it stands at each turn -/
def forN (f : D → Ev → M Fl) (n : Nat) : Nat → Nat → Ev → M Fl
  | 0, _, _ => M.bad
  | k + 1, i, σ => fun S => match lstOf S (.cell n) with
    | none => .bad
    | some xs => match xs[i]? with
      | none => .ok (.nx σ) S
      | some x => M.bind (f x σ) (fun o => match o with
        | .nx σ' => forN f n k (i + 1) σ'
        | .ct σ' => forN f n k (i + 1) σ'
        | .bk σ' => M.ret (.nx σ')
        | .rt d => M.ret (.rt d)
        | .xc c as σ' => M.ret (.xc c as σ')) S
def whlN (c : Ev → M Bool) (f : Ev → M Fl) : Nat → Ev → M Fl
  | 0, _ => M.bad
  | k + 1, σ => liftE (c σ) σ fun t => if t then M.bind (f σ) fun o => match o with
      | .nx σ' => whlN c f k σ'
      | .ct σ' => whlN c f k σ'
      | .bk σ' => M.ret (.nx σ')
      | .rt d => M.ret (.rt d)
      | .xc c as σ' => M.ret (.xc c as σ')
    else M.ret (.nx σ)
/-- x[i] = v -/
def putD (S : Store) (x i v : D) : Option Store := match x, i with
  | .cell n, .int k => match S[n]? with
    | some (.lst ys) => if k < 0 then (if 0 ≤ k + ys.length then some (S.set n (.lst (ys.set (k + ys.length).toNat v))) else none)
        else if k < ys.length then some (S.set n (.lst (ys.set k.toNat v))) else none
    | none => none
  | _, _ => none
def putM (x i v : D) : M Unit := fun S => match putD S x i v with
  | some S' => .ok () S'
  | none => .bad
/-- x op= y, of ints -/
def augM (o : Bo) (x y : D) : M D := match o, x, y with
  | .add, .int i, .int j => M.ret (.int (i + j))
  | .sub, .int i, .int j => M.ret (.int (i - j))
  | _, _, _ => M.bad
/-- an item to its target, then the body -/
def patB (p : Pat) (k : Ev → M Fl) (x : D) (σ : Ev) : M Fl := fun S => match patE p x S σ with
  | some σ' => k σ' S
  | none => .bad
def exS (C : Cf) : IS → Ev → M Fl
  | .skip, σ => M.ret (.nx σ)
  | .seq a b, σ => M.bind (exS C a σ) fun o => match o with
    | .nx σ' => exS C b σ'
    | o => M.ret o
  | .ex e, σ => liftE (evE C e σ) σ fun _ => M.ret (.nx σ)
  | .set i e, σ => liftE (evE C e σ) σ fun x => M.ret (.nx (σ.set i (some x)))
  | .setP is e, σ => liftE (evE C e σ) σ fun x => patB (.tp is) (fun σ' => M.ret (.nx σ')) x σ
  | .par is es, σ => liftE (evA C es σ) σ fun xs => patB (.tp is) (fun σ' => M.ret (.nx σ')) (.tup xs) σ
  | .put a i e, σ => liftE (evE C e σ) σ fun v => liftE (evE C a σ) σ fun x => liftE (evE C i σ) σ fun k => liftE (putM x k v) σ fun _ => M.ret (.nx σ)
  | .aug o i e, σ => liftE (M.opt (σ[i]?.join)) σ fun x => liftE (evE C e σ) σ fun y => liftE (augM o x y) σ fun z => M.ret (.nx (σ.set i (some z)))
  | .ite c a b, σ => liftE (evT C c σ) σ fun t => if t then exS C a σ else exS C b σ
  | .whl c b, σ => whlN (fun σ => evT C c σ) (fun σ => exS C b σ) C.fuel σ
  | .for p it b, σ => liftE (evI C it σ) σ fun s => match s with
    | .xs xs => forL (patB p fun σ' => exS C b σ') xs σ
    | .cl n => forN (patB p fun σ' => exS C b σ') n C.fuel 0 σ
  | .ret e, σ => liftE (evE C e σ) σ fun x => M.ret (.rt x)
  | .retN, _ => M.ret (.rt .non)
  | .brk, σ => M.ret (.bk σ)
  | .cnt, σ => M.ret (.ct σ)

/-! ### calls -/
structure Fn where
  np : Nat
  nl : Nat
  keep : Bool
  body : IS
mutual
def D.sub (g : Nat → Option D) : D → Option D
  | .tup xs => (D.subs g xs).map .tup
  | .lst xs => (D.subs g xs).map .lst
  | .ro xs => (D.subs g xs).map .ro
  | .cell n => g n
  | d => some d
def D.subs (g : Nat → Option D) : List D → Option (List D)
  | [] => some []
  | x :: xs => match D.sub g x, D.subs g xs with
    | some y, some ys => some (y :: ys)
    | _, _ => none
end
/-- cells from k on become what they hold; l: how deep -/
def frz (k : Nat) (S : Store) : Nat → D → Option D
  | 0 => D.sub fun n => if n < k then some (.cell n) else none
  | l + 1 => D.sub fun n => if n < k then some (.cell n) else match S[n]? with
    | some (.lst xs) => (xs.mapM (frz k S l)).map .lst
    | none => none
def frzC (k : Nat) (S : Store) : Cell → Option Cell
  | .lst xs => (xs.mapM (frz k S 4)).map .lst
def frzS (k : Nat) (S : Store) : Option Store := (S.take k).mapM (frzC k S)
/-- at a def's end: the own cells are let go -/
def leave (k : Nat) (d : D) (S : Store) : Res D := match frz k S 4 d, frzS k S with
  | some d', some S' => .ok d' S'
  | _, _ => .bad
def runFn (C : Cf) (fn : Fn) (xs : List D) : M D := fun S =>
  match exS C fn.body (xs.map some ++ List.replicate (fn.nl - fn.np) none) S with
  | .ok (.rt d) S' => .ok d S'
  | .ok (.nx _) S' => .ok .non S'
  | .ok (.xc c as _) S' => .exc c as S'
  | .ok _ _ => .bad
  | .exc _ _ _ => .bad
  | .bad => .bad
def callFn (C : Cf) (fn : Fn) (xs : List D) : M D := fun S =>
  if fn.keep then runFn C fn xs S
  else if D.frees xs then match runFn C fn xs [] with
    | .ok d S' => (match frz 0 S' 4 d with
      | some d' => .ok d' S
      | none => .bad)
    | .exc c as S' => (match as.mapM (frz 0 S' 4) with
      | some as' => .exc c as' S
      | none => .bad)
    | .bad => .bad
  else match runFn C fn xs S with
    | .ok d S' => leave S.length d S'
    | .exc c as S' => (match as.mapM (frz S.length S' 4), frzS S.length S' with
      | some as', some S'' => .exc c as' S''
      | _, _ => .bad)
    | .bad => .bad
def callF (P : List Fn) (fuel : Nat) : Nat → Nat → List D → M D
  | 0, _, _ => M.bad
  | l + 1, f, xs => match P[f]? with
    | none => M.bad
    | some fn => if xs.length = fn.np then callFn ⟨callF P fuel l, fuel⟩ fn xs else M.bad
end Fb
set_option linter.all false
set_option maxRecDepth 100000
set_option maxHeartbeats 1000000
/-! Pw: weakest preconditions of the evaluator. -/
namespace Fb
def W {α : Type} (f : M α) (S : Store) (Q : α → Store → Prop) (E : Nat → List D → Store → Prop) : Prop := match f S with
  | .ok a S' => Q a S'
  | .exc c as S' => E c as S'
  | .bad => False
abbrev NE : Nat → List D → Store → Prop := fun _ _ _ => False
section
variable {α β : Type} {f : M α} {g : α → M β} {S S' : Store} {E : Nat → List D → Store → Prop}
theorem W_bind {Q : β → Store → Prop} : W (M.bind f g) S Q E ↔ W f S (fun a S1 => W (g a) S1 Q E) E := by
  unfold W M.bind
  cases f S <;> rfl
theorem W_ret {a : α} {Q : α → Store → Prop} : W (M.ret a) S Q E ↔ Q a S := Iff.rfl
theorem W_bad {Q : α → Store → Prop} : W (M.bad : M α) S Q E ↔ False := Iff.rfl
theorem W_opt {o : Option α} {Q : α → Store → Prop} : W (M.opt o) S Q E ↔ ∃ a, o = some a ∧ Q a S := by
  cases o with
  | none => exact ⟨fun h => h.elim, fun ⟨_, h, _⟩ => by cases h⟩
  | some a => exact ⟨fun h => ⟨a, rfl, h⟩, fun ⟨_, h, q⟩ => by cases h; exact q⟩
theorem W_optS {o : Store → Option α} {Q : α → Store → Prop} : W (fun S => M.opt (o S) S) S Q E ↔ ∃ a, o S = some a ∧ Q a S := W_opt (o := o S) (S := S)
theorem W_ok {o : Store → α} {Q : α → Store → Prop} : W (fun S => .ok (o S) S) S Q E ↔ Q (o S) S := Iff.rfl
theorem W_mono {Q Q' : α → Store → Prop} {E' : Nat → List D → Store → Prop} (h : W f S Q E) (hq : ∀ a S, Q a S → Q' a S) (he : ∀ c as S, E c as S → E' c as S) : W f S Q' E' := by
  unfold W at *
  cases q : f S with
  | ok a S' => rw [q] at h; exact hq _ _ h
  | exc c as S' => rw [q] at h; exact he _ _ _ h
  | bad => rw [q] at h; exact h
theorem W_mono' {Q Q' : α → Store → Prop} (h : W f S Q NE) (hq : ∀ a S, Q a S → Q' a S) : W f S Q' E := W_mono h hq fun _ _ _ z => z.elim
theorem W_eq {a : α} {Q : α → Store → Prop} (h : f S = .ok a S') (q : Q a S') : W f S Q E := by unfold W; rw [h]; exact q
theorem W_eq_iff {a : α} {Q : α → Store → Prop} (h : f S = .ok a S') : W f S Q E ↔ Q a S' := by unfold W; rw [h]
theorem W_get {Q : α → Store → Prop} (h : W f S Q NE) : ∃ a S', f S = .ok a S' ∧ Q a S' := by
  unfold W at h
  cases q : f S with
  | ok a S' => rw [q] at h; exact ⟨a, S', rfl, h⟩
  | exc c as S' => rw [q] at h; exact h.elim
  | bad => rw [q] at h; exact h.elim
theorem W_lift {σ : Ev} {k : α → M Fl} {Q : Fl → Store → Prop} : W (liftE f σ k) S Q E ↔ W f S (fun a S1 => W (k a) S1 Q E) (fun c as S1 => Q (.xc c as σ) S1) := by
  unfold W liftE
  cases f S <;> rfl
theorem W_seq {C : Cf} {a b : IS} {σ : Ev} {Q : Fl → Store → Prop} : W (exS C (.seq a b) σ) S Q E ↔ W (exS C a σ) S (fun o S1 => match o with
    | .nx σ' => W (exS C b σ') S1 Q E
    | o => Q o S1) E := by
  show W (M.bind (exS C a σ) _) S Q E ↔ _
  rw [W_bind]
  unfold W
  cases exS C a σ S with
  | ok o S1 => cases o <;> rfl
  | exc => rfl
  | bad => rfl
/-- a for over data, with an invariant by the items left -/
theorem W_forL {f : D → Ev → M Fl} {Q : Fl → Store → Prop} (I : List D → Ev → Store → Prop) :
    ∀ {xs : List D} {σ : Ev} {S : Store}, I xs σ S → (∀ x r σ S, I (x :: r) σ S → W (f x σ) S (fun o S1 => match o with
      | .nx σ' => I r σ' S1
      | .ct σ' => I r σ' S1
      | .bk σ' => Q (.nx σ') S1
      | .rt d => Q (.rt d) S1
      | .xc c as σ' => Q (.xc c as σ') S1) E) → (∀ σ S, I [] σ S → Q (.nx σ) S) → W (forL f xs σ) S Q E
  | [], σ, S, h, _, he => he σ S h
  | x :: r, σ, S, h, hs, he => by
    show W (M.bind (f x σ) _) S Q E
    rw [W_bind]
    have h1 := hs x r σ S h
    unfold W at h1
    show W (f x σ) S _ E
    unfold W
    cases q : f x σ S with
    | bad => rw [q] at h1; exact h1
    | exc c as S1 => rw [q] at h1; exact h1
    | ok o S1 =>
      rw [q] at h1
      cases o with
      | nx σ' => exact W_forL I h1 hs he
      | ct σ' => exact W_forL I h1 hs he
      | bk σ' => exact h1
      | rt d => exact h1
      | xc c as σ' => exact h1
/-- a comprehension's loop over data: items, elements so far, left -/
theorem W_compM {f : D → M (Option D)} {Q : List D → Store → Prop} (I : List D → List D → Store → Prop) :
    ∀ {xs acc : List D} {S : Store} {k : Nat}, I xs acc S → k = acc.length → (∀ x r acc S, I (x :: r) acc S → W (f x) S (fun o S1 => match o with
      | none => I r acc S1
      | some y => acc.length < SL ∧ I r (acc ++ [y]) S1) E) → (∀ acc S, I [] acc S → Q acc S) → W (compM f xs k) S (fun ys S1 => Q (acc ++ ys) S1) E
  | [], acc, S, k, h, _, _, he => by
    show Q (acc ++ []) S
    rw [List.append_nil]; exact he acc S h
  | x :: r, acc, S, k, h, hk, hs, he => by
    show W (M.bind (f x) _) S _ E
    rw [W_bind]
    have h1 := hs x r acc S h
    unfold W at h1
    show W (f x) S _ E
    unfold W
    cases q : f x S with
    | bad => rw [q] at h1; exact h1
    | exc c as S1 => rw [q] at h1; exact h1
    | ok o S1 =>
      rw [q] at h1
      cases o with
      | none => exact W_compM I h1 hk hs he
      | some y =>
        have h1 : acc.length < SL ∧ I r (acc ++ [y]) S1 := h1
        show W (if k < SL then M.bind (compM f r (k + 1)) fun ys => M.ret (y :: ys) else M.bad) S1 _ E
        rw [hk, if_pos h1.1, W_bind]
        have h2 := W_compM (Q := Q) I (k := acc.length + 1) h1.2 (by simp) hs he
        refine W_mono h2 (fun ys S2 q2 => ?_) fun _ _ _ z => z
        show Q (acc ++ (y :: ys)) S2
        rw [List.append_assoc] at q2
        exact q2
theorem W_comp {f : D → M (Option D)} {Q : List D → Store → Prop} (I : List D → List D → Store → Prop) {xs : List D} {S : Store} (h0 : I xs [] S) (hs : ∀ x r acc S, I (x :: r) acc S → W (f x) S (fun o S1 => match o with
      | none => I r acc S1
      | some y => acc.length < SL ∧ I r (acc ++ [y]) S1) E) (he : ∀ acc S, I [] acc S → Q acc S) : W (compM f xs 0) S Q E := by
  have h := W_compM (Q := Q) I (acc := []) (k := 0) h0 rfl hs he
  simpa using h
/-- an element with its exceptions barred -/
theorem W_nox {Q : α → Store → Prop} : W (M.nox f) S Q E ↔ W f S Q NE := by
  unfold W M.nox
  cases f S <;> rfl
end
/-! ### calls -/
theorem callF_succ {fs : List Fn} {fuel l f : Nat} {fn : Fn} {xs : List D} (h : fs[f]? = some fn) (hl : xs.length = fn.np) : callF fs fuel (l + 1) f xs = callFn ⟨callF fs fuel l, fuel⟩ fn xs := by
  show (match fs[f]? with
    | none => M.bad
    | some fn => if xs.length = fn.np then callFn ⟨callF fs fuel l, fuel⟩ fn xs else M.bad) = _
  rw [h]
  exact if_pos hl
/-- a body's ends -/
def EndR (Q : D → Store → Prop) (E : Nat → List D → Store → Prop) : Fl → Store → Prop
  | .rt d, S => Q d S
  | .nx _, S => Q .non S
  | .xc c as _, S => E c as S
  | _, _ => False
theorem W_run {C : Cf} {fn : Fn} {xs : List D} {S : Store} {Q : D → Store → Prop} {E : Nat → List D → Store → Prop} (h : W (exS C fn.body (xs.map some ++ List.replicate (fn.nl - fn.np) none)) S (EndR Q E) NE) : W (runFn C fn xs) S Q E := by
  unfold W at *
  unfold runFn
  cases q : exS C fn.body (xs.map some ++ List.replicate (fn.nl - fn.np) none) S with
  | bad => rw [q] at h; exact h
  | exc => rw [q] at h; exact h.elim
  | ok o S1 =>
    rw [q] at h
    cases o with
    | nx => exact h
    | rt => exact h
    | xc => exact h
    | bk => exact h.elim
    | ct => exact h.elim
/-- a def of cell-free arguments that answers cell-free data -/
theorem call_free {C : Cf} {fn : Fn} {xs : List D} {S : Store} {Q : D → Store → Prop} {E : Nat → List D → Store → Prop} (hk : fn.keep = false) (hf : D.frees xs = true) (h : W (exS C fn.body (xs.map some ++ List.replicate (fn.nl - fn.np) none)) [] (EndR (fun d S' => ∃ d', frz 0 S' 4 d = some d' ∧ Q d' S) (fun c as S' => ∃ as', as.mapM (frz 0 S' 4) = some as' ∧ E c as' S)) NE) :
    W (callFn C fn xs) S Q E := by
  have h2 := W_run h
  unfold callFn
  unfold W at *
  rw [hk]
  simp only [Bool.false_eq_true, if_false, hf, if_true]
  cases q : runFn C fn xs [] with
  | bad => rw [q] at h2; exact h2
  | ok d S1 =>
    rw [q] at h2
    obtain ⟨d', e, q2⟩ := h2
    simp only [e]; exact q2
  | exc c as S1 =>
    rw [q] at h2
    obtain ⟨d', e, q2⟩ := h2
    simp only [e]; exact q2
/-- a def that is handed cells -/
theorem call_cells {C : Cf} {fn : Fn} {xs : List D} {S : Store} {Q : D → Store → Prop} (hk : fn.keep = false) (hf : D.frees xs = false)
    (h : W (exS C fn.body (xs.map some ++ List.replicate (fn.nl - fn.np) none)) S (EndR (fun d S' => ∃ d' S'', frz S.length S' 4 d = some d' ∧ frzS S.length S' = some S'' ∧ Q d' S'') NE) NE) : W (callFn C fn xs) S Q NE := by
  have h2 := W_run h
  unfold callFn
  unfold W at *
  rw [hk]
  simp only [Bool.false_eq_true, if_false, hf]
  cases q : runFn C fn xs S with
  | bad => rw [q] at h2; exact h2
  | ok d S1 =>
    rw [q] at h2
    obtain ⟨d', S2, e, e2, q2⟩ := h2
    unfold leave
    simp only [e, e2]; exact q2
  | exc c as S1 => rw [q] at h2; exact h2.elim
theorem call_keep {C : Cf} {fn : Fn} {xs : List D} {S : Store} {Q : D → Store → Prop} {E : Nat → List D → Store → Prop} (hk : fn.keep = true) (h : W (exS C fn.body (xs.map some ++ List.replicate (fn.nl - fn.np) none)) S (EndR Q E) NE) : W (callFn C fn xs) S Q E := by
  unfold callFn
  rw [hk]
  exact W_run h
/-! ### what is frozen -/
mutual
/-- cells below k alone -/
def D.low (k : Nat) : D → Bool
  | .tup xs => D.lows k xs
  | .lst xs => D.lows k xs
  | .ro xs => D.lows k xs
  | .cell n => decide (n < k)
  | _ => true
def D.lows (k : Nat) : List D → Bool
  | [] => true
  | x :: xs => D.low k x && D.lows k xs
end
mutual
theorem sub_low {k : Nat} {g : Nat → Option D} (hg : ∀ n, n < k → g n = some (.cell n)) : ∀ {d : D}, D.low k d = true → D.sub g d = some d
  | .non, _ => rfl
  | .bl _, _ => rfl
  | .int _, _ => rfl
  | .str _, _ => rfl
  | .tup xs, h => by show (D.subs g xs).map D.tup = _; rw [subs_low hg (show D.lows k xs = true from h)]; rfl
  | .lst xs, h => by show (D.subs g xs).map D.lst = _; rw [subs_low hg (show D.lows k xs = true from h)]; rfl
  | .ro xs, h => by show (D.subs g xs).map D.ro = _; rw [subs_low hg (show D.lows k xs = true from h)]; rfl
  | .cell n, h => hg n (of_decide_eq_true h)
theorem subs_low {k : Nat} {g : Nat → Option D} (hg : ∀ n, n < k → g n = some (.cell n)) : ∀ {ds : List D}, D.lows k ds = true → D.subs g ds = some ds
  | [], _ => rfl
  | x :: xs, h => by
    have h2 := Bool.and_eq_true_iff.mp (show (D.low k x && D.lows k xs) = true from h)
    unfold D.subs
    rw [sub_low hg h2.1, subs_low hg h2.2]
end
theorem frz_low {k : Nat} {S : Store} {d : D} (l : Nat) (h : D.low k d = true) : frz k S l d = some d := by
  cases l with
  | zero => exact sub_low (fun n hn => by simp only [hn, if_true]) h
  | succ l => exact sub_low (fun n hn => by simp only [hn, if_true]) h
def Cell.low (k : Nat) : Cell → Bool
  | .lst xs => D.lows k xs
theorem mapM_frz_low {k : Nat} {S : Store} {l : Nat} : ∀ {xs : List D}, D.lows k xs = true → xs.mapM (frz k S l) = some xs
  | [], _ => rfl
  | x :: xs, h => by
    have h2 := Bool.and_eq_true_iff.mp (show (D.low k x && D.lows k xs) = true from h)
    rw [List.mapM_cons, frz_low l h2.1, mapM_frz_low h2.2]; rfl
theorem frzC_low {k : Nat} {S : Store} {c : Cell} (h : c.low k = true) : frzC k S c = some c := by
  cases c with
  | lst xs =>
    show (xs.mapM (frz k S 4)).map Cell.lst = _
    rw [mapM_frz_low (show D.lows k xs = true from h)]; rfl
theorem mapM_id {α : Type} {f : α → Option α} : ∀ {xs : List α}, (∀ x ∈ xs, f x = some x) → xs.mapM f = some xs
  | [], _ => rfl
  | x :: xs, h => by
    rw [List.mapM_cons, h x List.mem_cons_self, mapM_id fun y hy => h y (List.mem_cons_of_mem _ hy)]; rfl
theorem frzS_low {k : Nat} {S : Store} (h : ∀ c ∈ S.take k, c.low k = true) : frzS k S = some (S.take k) := mapM_id fun c hc => frzC_low (h c hc)
mutual
theorem low_mono {k j : Nat} (hkj : k ≤ j) : ∀ {d : D}, D.low k d = true → D.low j d = true
  | .non, _ => rfl
  | .bl _, _ => rfl
  | .int _, _ => rfl
  | .str _, _ => rfl
  | .tup xs, h => lows_mono hkj (show D.lows k xs = true from h)
  | .lst xs, h => lows_mono hkj (show D.lows k xs = true from h)
  | .ro xs, h => lows_mono hkj (show D.lows k xs = true from h)
  | .cell n, h => decide_eq_true (Nat.lt_of_lt_of_le (of_decide_eq_true h) hkj)
theorem lows_mono {k j : Nat} (hkj : k ≤ j) : ∀ {ds : List D}, D.lows k ds = true → D.lows j ds = true
  | [], _ => rfl
  | x :: xs, h => by
    have h2 := Bool.and_eq_true_iff.mp (show (D.low k x && D.lows k xs) = true from h)
    exact Bool.and_eq_true_iff.mpr ⟨low_mono hkj h2.1, lows_mono hkj h2.2⟩
end
mutual
theorem low_free {k : Nat} : ∀ {d : D}, D.free d = true → D.low k d = true
  | .non, _ => rfl
  | .bl _, _ => rfl
  | .int _, _ => rfl
  | .str _, _ => rfl
  | .tup xs, h => lows_free (show D.frees xs = true from h)
  | .lst xs, h => lows_free (show D.frees xs = true from h)
  | .ro xs, h => lows_free (show D.frees xs = true from h)
  | .cell n, h => by cases h
theorem lows_free {k : Nat} : ∀ {ds : List D}, D.frees ds = true → D.lows k ds = true
  | [], _ => rfl
  | x :: xs, h => by
    have h2 := Bool.and_eq_true_iff.mp (show (D.free x && D.frees xs) = true from h)
    exact Bool.and_eq_true_iff.mpr ⟨low_free h2.1, lows_free h2.2⟩
end
/-- a call of cell-free arguments, by an equation -/
theorem call_freeE {C : Cf} {fn : Fn} {xs : List D} {S S' : Store} {d : D} (hk : fn.keep = false) (hf : D.frees xs = true) (hd : D.free d = true) (h : exS C fn.body (xs.map some ++ List.replicate (fn.nl - fn.np) none) [] = .ok (.rt d) S') : callFn C fn xs S = .ok d S := by
  unfold callFn runFn
  rw [hk, hf, h]
  simp only [Bool.false_eq_true, if_false, if_true, frz_low 4 (low_free hd)]
/-- .. the answer frozen -/
theorem call_freeZ {C : Cf} {fn : Fn} {xs : List D} {S S' : Store} {d d' : D} (hk : fn.keep = false) (hf : D.frees xs = true) (h : exS C fn.body (xs.map some ++ List.replicate (fn.nl - fn.np) none) [] = .ok (.rt d) S') (hz : frz 0 S' 4 d = some d') : callFn C fn xs S = .ok d' S := by
  unfold callFn runFn
  rw [hk, hf, h]
  simp only [Bool.false_eq_true, if_false, if_true, hz]
/-- a cell of cell-free items is frozen to a list -/
theorem frz_cell {S : Store} {n : Nat} {xs : List D} (l : Nat) (h : S[n]? = some (.lst xs)) (hf : D.frees xs = true) : frz 0 S (l + 1) (.cell n) = some (.lst xs) := by
  show (if n < 0 then some (D.cell n) else match S[n]? with
    | some (.lst xs) => (xs.mapM (frz 0 S l)).map D.lst
    | none => none) = _
  rw [if_neg (Nat.not_lt_zero n), h]
  simp only [mapM_frz_low (lows_free (k := 0) hf)]
  rfl
theorem call_keepE {C : Cf} {fn : Fn} {xs : List D} {S S' : Store} {d : D} (hk : fn.keep = true) (h : exS C fn.body (xs.map some ++ List.replicate (fn.nl - fn.np) none) S = .ok (.rt d) S') : callFn C fn xs S = .ok d S' := by
  unfold callFn runFn
  rw [hk, h]
  rfl
theorem perm_erase {α : Type} {l : List α} {i : Nat} (h : i < l.length) : (l[i] :: l.eraseIdx i).Perm l := by
  have e : l = l.take i ++ l[i] :: l.drop (i + 1) := by
    rw [← List.drop_eq_getElem_cons h, List.take_append_drop]
  rw [List.eraseIdx_eq_take_drop_succ]
  exact List.perm_middle.symm.trans (List.Perm.of_eq e.symm)
end Fb
set_option linter.all false
set_option maxRecDepth 100000
set_option maxHeartbeats 1000000
/-! Sx: the evaluator run by simp on terms whose shape is known. -/
namespace Fb
section
variable {α β : Type} {C : Cf} {σ : Ev} {S S' : Store}
def Res.bnd (r : Res α) (g : α → M β) : Res β := match r with
  | .ok a S' => g a S'
  | .exc c as S' => .exc c as S'
  | .bad => .bad
def Res.lft (r : Res α) (σ : Ev) (g : α → M Fl) : Res Fl := match r with
  | .ok a S' => g a S'
  | .exc c as S' => .ok (.xc c as σ) S'
  | .bad => .bad
def Res.sqn (r : Res Fl) (g : Ev → M Fl) : Res Fl := match r with
  | .ok (.nx σ) S' => g σ S'
  | .ok o S' => .ok o S'
  | .exc c as S' => .exc c as S'
  | .bad => .bad
@[simp] theorem bnd_ok {a : α} {g : α → M β} : Res.bnd (.ok a S) g = g a S := (rfl)
@[simp] theorem lft_ok {a : α} {g : α → M Fl} : Res.lft (.ok a S) σ g = g a S := (rfl)
@[simp] theorem sqn_nx {δ : Ev} {g : Ev → M Fl} : Res.sqn (.ok (.nx δ) S) g = g δ S := (rfl)
@[simp] theorem sqn_rt {d : D} {g : Ev → M Fl} : Res.sqn (.ok (.rt d) S) g = .ok (.rt d) S := (rfl)
@[simp] theorem bind_bnd {f : M α} {g : α → M β} : M.bind f g S = Res.bnd (f S) g := (rfl)
@[simp] theorem lift_lft {f : M α} {k : α → M Fl} : liftE f σ k S = Res.lft (f S) σ k := (rfl)
@[simp] theorem ret_ok {a : α} : M.ret a S = .ok a S := (rfl)
@[simp] theorem opt_some {a : α} : M.opt (some a) S = .ok a S := (rfl)
@[simp] theorem x_lit {d : D} : evE C (.lit d) σ S = .ok d S := (rfl)
@[simp] theorem x_glo {x : List Nat} {d : D} : evE C (.glo x d) σ S = .ok d S := (rfl)
@[simp] theorem x_var {i : Nat} : evE C (.var i) σ S = M.opt (σ[i]?.join) S := (rfl)
@[simp] theorem x_bin {o : Bo} {a b : IE} : evE C (.bin o a b) σ S = Res.bnd (evE C a σ S) fun x => M.bind (evE C b σ) fun y => binM o x y := (rfl)
@[simp] theorem x_not {a : IE} : evE C (.not a) σ S = Res.bnd (evT C a σ S) fun b => M.ret (.bl !b) := (rfl)
@[simp] theorem x_and {a b : IE} : evE C (.and a b) σ S = Res.bnd (evE C a σ S) fun x => M.bind (truthM x) fun t => if t then evE C b σ else M.ret x := (rfl)
@[simp] theorem x_or {a b : IE} : evE C (.or a b) σ S = Res.bnd (evE C a σ S) fun x => M.bind (truthM x) fun t => if t then M.ret x else evE C b σ := (rfl)
@[simp] theorem x_ite {c a b : IE} : evE C (.ite c a b) σ S = Res.bnd (evT C c σ S) fun t => if t then evE C a σ else evE C b σ := (rfl)
@[simp] theorem x_evT {a : IE} : evT C a σ S = Res.bnd (evE C a σ S) truthM := (rfl)
@[simp] theorem x_cmp {o : Co} {a b : IE} : evE C (.cmp o a b) σ S = Res.bnd (evE C a σ S) fun x => M.bind (evE C b σ) fun y => M.bind (cmpM o x y) fun t => M.ret (.bl t) := (rfl)
@[simp] theorem x_tup {es : IE} : evE C (.tup es) σ S = Res.bnd (evA C es σ S) fun xs => if xs.length ≤ SL then M.ret (.tup xs) else M.bad := (rfl)
@[simp] theorem x_lst {es : IE} : evE C (.lst es) σ S = Res.bnd (evA C es σ S) fun xs => if xs.length ≤ SL then M.ret (.lst xs) else M.bad := (rfl)
@[simp] theorem x_idx {a b : IE} : evE C (.idx a b) σ S = Res.bnd (evE C a σ S) fun x => M.bind (evE C b σ) fun y => idxM x y := (rfl)
@[simp] theorem x_sli {a lo hi : IE} : evE C (.sli a lo hi) σ S = Res.bnd (evE C a σ S) fun x => M.bind (evP C lo σ) fun l => M.bind (evP C hi σ) fun h => fun S => M.opt (cutD S x l h) S := (rfl)
@[simp] theorem x_call {f : Nat} {es : IE} : evE C (.call f es) σ S = Res.bnd (evA C es σ S) fun xs => C.call f xs := (rfl)
@[simp] theorem x_blt {b : Bt} {es : IE} : evE C (.blt b es) σ S = Res.bnd (evA C es σ S) fun xs => fun S => M.opt (bltD S b xs) S := (rfl)
@[simp] theorem x_isi {a : IE} {t : List Ty} : evE C (.isi a t) σ S = Res.bnd (evE C a σ S) fun x => fun S => .ok (.bl (t.any (D.isTy S x))) S := (rfl)
@[simp] theorem x_mth {m : Mt} {a es : IE} : evE C (.mth m a es) σ S = Res.bnd (evE C a σ S) fun x => if recvOk m x then M.bind (evA C es σ) fun xs => fun S => match mthD S m x xs with
    | some (d, S') => .ok d S'
    | none => .bad
    else M.bad := (rfl)
@[simp] theorem x_alloc {a : IE} : evE C (.alloc a) σ S = Res.bnd (evE C a σ S) allocM := (rfl)
@[simp] theorem x_nil : evA C .nil σ S = .ok [] S := (rfl)
@[simp] theorem x_cons {a r : IE} : evA C (.cons a r) σ S = Res.bnd (evE C a σ S) fun x => M.bind (evA C r σ) fun xs => M.ret (x :: xs) := (rfl)
@[simp] theorem x_pnil : evP C .nil σ S = .ok none S := (rfl)
@[simp] theorem x_pcons {a r : IE} : evP C (.cons a r) σ S = Res.bnd (evE C a σ S) fun x => match x with
    | .int i => M.ret (some i)
    | _ => M.bad := (rfl)
@[simp] theorem x_cnil : evC C .nil σ S = .ok true S := (rfl)
@[simp] theorem x_ccons {a r : IE} : evC C (.cons a r) σ S = Res.bnd (evE C a σ S) truthM := (rfl)
@[simp] theorem x_ival {a r : IE} : evI C (.cons a r) σ S = Res.bnd (evE C a σ S) fun x => M.opt (srcD x) := (rfl)
@[simp] theorem x_comp {own : List Nat} {p : Pat} {it c e : IE} : evE C (.comp own p it c e) σ S = Res.bnd (evI C it σ S) fun s =>
      M.bind (compS (fun x => M.nox fun S => match patE p x S (wipeE σ own) with
        | none => .bad
        | some σ' => M.bind (evC C c σ') (fun t => if t then M.bind (evE C e σ') fun y => M.ret (some y) else M.ret none) S) C.fuel s) fun ys => M.ret (.lst ys) := (rfl)
@[simp] theorem x_skip : exS C .skip σ S = .ok (.nx σ) S := (rfl)
@[simp] theorem x_seq {a b : IS} : exS C (.seq a b) σ S = Res.sqn (exS C a σ S) fun σ' => exS C b σ' := by
  show M.bind (exS C a σ) _ S = _
  unfold M.bind Res.sqn
  cases exS C a σ S with
  | ok o S1 => cases o <;> rfl
  | exc => rfl
  | bad => rfl
@[simp] theorem x_ex {e : IE} : exS C (.ex e) σ S = Res.lft (evE C e σ S) σ fun _ => M.ret (.nx σ) := (rfl)
@[simp] theorem x_set {i : Nat} {e : IE} : exS C (.set i e) σ S = Res.lft (evE C e σ S) σ fun x => M.ret (.nx (σ.set i (some x))) := (rfl)
@[simp] theorem x_setP {is : List Nat} {e : IE} : exS C (.setP is e) σ S = Res.lft (evE C e σ S) σ fun x => patB (.tp is) (fun σ' => M.ret (.nx σ')) x σ := (rfl)
@[simp] theorem x_par {is : List Nat} {es : IE} : exS C (.par is es) σ S = Res.lft (evA C es σ S) σ fun xs => patB (.tp is) (fun σ' => M.ret (.nx σ')) (.tup xs) σ := (rfl)
@[simp] theorem x_put {a i e : IE} : exS C (.put a i e) σ S = Res.lft (evE C e σ S) σ fun v => liftE (evE C a σ) σ fun x => liftE (evE C i σ) σ fun k => liftE (putM x k v) σ fun _ => M.ret (.nx σ) := (rfl)
@[simp] theorem x_sit {c : IE} {a b : IS} : exS C (.ite c a b) σ S = Res.lft (evT C c σ S) σ fun t => if t then exS C a σ else exS C b σ := (rfl)
@[simp] theorem x_for {p : Pat} {it : IE} {b : IS} : exS C (.for p it b) σ S = Res.lft (evI C it σ S) σ fun s => match s with
    | .xs xs => forL (patB p fun σ' => exS C b σ') xs σ
    | .cl n => forN (patB p fun σ' => exS C b σ') n C.fuel 0 σ := (rfl)
@[simp] theorem x_ret {e : IE} : exS C (.ret e) σ S = Res.lft (evE C e σ S) σ fun x => M.ret (.rt x) := (rfl)
@[simp] theorem x_retN : exS C .retN σ S = .ok (.rt .non) S := (rfl)
@[simp] theorem SL_val : SL = 16777216 := (rfl)
/-! targets -/
def setK (is : List Nat) (xs : List D) (σ : Ev) (k : Ev → M Fl) : M Fl := fun S => match setAll is xs σ with
  | some σ' => k σ' S
  | none => .bad
@[simp] theorem p_nm {i : Nat} {k : Ev → M Fl} {x : D} : patB (.nm i) k x σ S = k (σ.set i (some x)) S := (rfl)
@[simp] theorem p_tup {is : List Nat} {k : Ev → M Fl} {xs : List D} : patB (.tp is) k (.tup xs) σ S = setK is xs σ k S := (rfl)
@[simp] theorem p_lst {is : List Nat} {k : Ev → M Fl} {xs : List D} : patB (.tp is) k (.lst xs) σ S = setK is xs σ k S := (rfl)
@[simp] theorem p_cons {i : Nat} {is : List Nat} {k : Ev → M Fl} {x : D} {xs : List D} : setK (i :: is) (x :: xs) σ k S = setK is xs (σ.set i (some x)) k S := (rfl)
@[simp] theorem p_nil {k : Ev → M Fl} : setK [] [] σ k S = k σ S := (rfl)
/-! operators -/
@[simp] theorem t_bl {b : Bool} : truthM (.bl b) S = .ok b S := (rfl)
@[simp] theorem t_int {i : Int} : truthM (.int i) S = .ok (i != 0) S := (rfl)
@[simp] theorem t_tup {xs : List D} : truthM (.tup xs) S = .ok (!xs.isEmpty) S := (rfl)
@[simp] theorem t_lst {xs : List D} : truthM (.lst xs) S = .ok (!xs.isEmpty) S := (rfl)
@[simp] theorem o_addI {i j : Int} : binM .add (.int i) (.int j) S = .ok (.int (i + j)) S := (rfl)
@[simp] theorem o_subI {i j : Int} : binM .sub (.int i) (.int j) S = .ok (.int (i - j)) S := (rfl)
@[simp] theorem o_addS {a b : List Nat} (h : a.length + b.length ≤ 16777216) : binM .add (.str a) (.str b) S = .ok (.str (a ++ b)) S := by
  show M.opt (if a.length + b.length ≤ SL then _ else _) S = _
  rw [if_pos (show a.length + b.length ≤ SL from h)]; rfl
@[simp] theorem o_addT {a b : List D} (h : a.length + b.length ≤ 16777216) : binM .add (.tup a) (.tup b) S = .ok (.tup (a ++ b)) S := by
  show M.opt (if a.length + b.length ≤ SL then _ else _) S = _
  rw [if_pos (show a.length + b.length ≤ SL from h)]; rfl
@[simp] theorem o_addL {a b : List D} (h : a.length + b.length ≤ 16777216) : binM .add (.lst a) (.lst b) S = .ok (.lst (a ++ b)) S := by
  show M.opt (if a.length + b.length ≤ SL then _ else _) S = _
  rw [if_pos (show a.length + b.length ≤ SL from h)]; rfl
@[simp] theorem o_modI {i j : Int} (h : 0 < j) : binM .mod (.int i) (.int j) S = .ok (.int (i % j)) S := by
  show M.opt (if 0 < j then _ else _) S = _
  rw [if_pos h]; rfl
@[simp] theorem o_divI {i j : Int} (h : 0 < j ∧ j < 1073741824) : binM .fdiv (.int i) (.int j) S = .ok (.int (i / j)) S := by
  show M.opt (if 0 < j ∧ j < 1073741824 then _ else _) S = _
  rw [if_pos h]; rfl
@[simp] theorem o_mulI {i j : Int} (h : (-two64 < i ∧ i < two64) ∨ (-two64 < j ∧ j < two64)) : binM .mul (.int i) (.int j) S = .ok (.int (i * j)) S := by
  show M.opt (if mulOk i j = true then _ else _) S = _
  rw [if_pos (show mulOk i j = true from decide_eq_true h)]; rfl
@[simp] theorem o_idxT {xs : List D} {i : Int} (h : 0 ≤ i) : idxM (.tup xs) (.int i) S = M.opt (xs[i.toNat]?) S := by
  show M.opt (ixL xs i) S = _
  unfold ixL
  rw [if_neg (by omega)]
@[simp] theorem o_idxL {xs : List D} {i : Int} (h : 0 ≤ i) : idxM (.lst xs) (.int i) S = M.opt (xs[i.toNat]?) S := by
  show M.opt (ixL xs i) S = _
  unfold ixL
  rw [if_neg (by omega)]
@[simp] theorem o_idxR {xs : List D} {i : Int} (h : 0 ≤ i) : idxM (.ro xs) (.int i) S = M.opt (xs[i.toNat]?) S := by
  show M.opt (ixL xs i) S = _
  unfold ixL
  rw [if_neg (by omega)]
@[simp] theorem o_eqS {a b : List Nat} : cmpM .eq (.str a) (.str b) S = .ok (a == b) S := (rfl)
@[simp] theorem o_neS {a b : List Nat} : cmpM .ne (.str a) (.str b) S = .ok (!(a == b)) S := (rfl)
@[simp] theorem o_eqI {a b : Int} : cmpM .eq (.int a) (.int b) S = .ok (a == b) S := (rfl)
@[simp] theorem o_neI {a b : Int} : cmpM .ne (.int a) (.int b) S = .ok (!(a == b)) S := (rfl)
@[simp] theorem o_ltI {a b : Int} : cmpM .lt (.int a) (.int b) S = .ok (decide (a < b)) S := (rfl)
@[simp] theorem o_leI {a b : Int} : cmpM .le (.int a) (.int b) S = .ok (decide (a ≤ b)) S := (rfl)
@[simp] theorem o_gtI {a b : Int} : cmpM .gt (.int a) (.int b) S = .ok (decide (b < a)) S := (rfl)
@[simp] theorem o_geI {a b : Int} : cmpM .ge (.int a) (.int b) S = .ok (decide (b ≤ a)) S := (rfl)
@[simp] theorem o_inT {x : List Nat} {ys : List D} (h : ys.all D.flat = true) : cmpM .isIn (.str x) (.tup ys) S = .ok (memD (.str x) ys) S := by
  show M.opt (if (true && ys.all D.flat) = true then _ else _) S = _
  rw [h]; rfl
@[simp] theorem mem_str {x y : List Nat} {r : List D} : memD (.str x) (.str y :: r) = ((y == x) || memD (.str x) r) := (rfl)
@[simp] theorem mem_nil {x : D} : memD x [] = false := (rfl)
@[simp] theorem flat_str {x : List Nat} : D.flat (.str x) = true := (rfl)
end
@[simp high] theorem x_lst0 {C : Cf} {σ : Ev} {S : Store} : evE C (.lst .nil) σ S = .ok (.lst []) S := by
  rw [x_lst, x_nil, bnd_ok]
  exact congrFun (if_pos (Nat.zero_le _)) S
/-! ### lists and loops -/
inductive All2 {α β : Type} (R : α → β → Prop) : List α → List β → Prop
  | nil : All2 R [] []
  | cons {a : α} {b : β} {as : List α} {bs : List β} : R a b → All2 R as bs → All2 R (a :: as) (b :: bs)
theorem All2.len {α β : Type} {R : α → β → Prop} {as : List α} {bs : List β} (h : All2 R as bs) : as.length = bs.length := by
  induction h with
  | nil => rfl
  | cons _ _ ih => simp [ih]
theorem strs_map : ∀ zs : List (List Nat), strsOf (zs.map D.str) = some zs
  | [] => rfl
  | z :: r => by
    show (strsOf (r.map D.str)).map (z :: ·) = _
    rw [strs_map r]; rfl
theorem frees_strs : ∀ zs : List (List Nat), D.frees (zs.map D.str) = true
  | [] => rfl
  | z :: r => by show (true && D.frees (r.map D.str)) = true; rw [frees_strs r]; rfl
theorem frees_app : ∀ xs ys : List D, D.frees (xs ++ ys) = (D.frees xs && D.frees ys)
  | [], ys => by simp [D.frees]
  | x :: xs, ys => by simp [D.frees, frees_app xs ys, Bool.and_assoc]
theorem join_seq {S : Store} {s : List Nat} {d : D} {ys : List D} (zs : List (List Nat)) (hq : seqOf S d = some ys) (hy : ys = zs.map D.str) (h : (zs.map (·.length)).sum + zs.length * s.length ≤ 16777216) : mthD S .join (.str s) [d] = some (.str (joinD s zs), S) := by
  show (match seqOf S d with
    | some ys => match strsOf ys with
      | some zs => if (zs.map fun (z : List Nat) => z.length).sum + zs.length * s.length ≤ SL then some (D.str (joinD s zs), S) else none
      | none => none
    | none => none) = _
  rw [hq, hy]
  simp only [strs_map]
  exact if_pos h
theorem sum_le {zs : List (List Nat)} {b : Nat} (h : ∀ z ∈ zs, z.length ≤ b) : (zs.map (·.length)).sum ≤ b * zs.length := by
  induction zs with
  | nil => simp
  | cons z r ih =>
    have h1 := h z List.mem_cons_self
    have h2 := ih fun y hy => h y (List.mem_cons_of_mem _ hy)
    simp only [List.map_cons, List.sum_cons, List.length_cons, Nat.mul_add]
    omega
theorem join_len (s : List Nat) : ∀ zs : List (List Nat), (joinD s zs).length ≤ (zs.map (·.length)).sum + zs.length * s.length
  | [] => by simp [joinD]
  | [x] => by simp [joinD]
  | x :: y :: r => by
    have h := join_len s (y :: r)
    show (x ++ s ++ joinD s (y :: r)).length ≤ _
    simp only [List.length_append, List.map_cons, List.sum_cons, List.length_cons, Nat.add_mul, Nat.one_mul] at h ⊢
    omega
theorem join_nil : ∀ zs : List (List Nat), joinD [] zs = zs.flatten
  | [] => rfl
  | [x] => by simp [joinD]
  | x :: y :: r => by
    show x ++ [] ++ joinD [] (y :: r) = _
    rw [join_nil (y :: r)]; simp
def elG (C : Cf) (own : List Nat) (p : Pat) (c e : IE) (σ : Ev) (x : D) : M (Option D) := M.nox fun S => match patE p x S (wipeE σ own) with
  | none => .bad
  | some σ' => M.bind (evC C c σ') (fun t => if t then M.bind (evE C e σ') fun y => M.ret (some y) else M.ret none) S
theorem x_comp2 {C : Cf} {σ : Ev} {S : Store} {own : List Nat} {p : Pat} {it c e : IE} : evE C (.comp own p it c e) σ S = Res.bnd (evI C it σ S) fun s => M.bind (compS (elG C own p c e σ) C.fuel s) fun ys => M.ret (.lst ys) := (rfl)
theorem wipe_length : ∀ (own : List Nat) (σ : Ev), (wipeE σ own).length = σ.length
  | [], _ => rfl
  | v :: vs, σ => by show ((wipeE σ vs).set v none).length = _; rw [List.length_set, wipe_length vs]
theorem el_nm {C : Cf} {own : List Nat} {i : Nat} {e : IE} {σ : Ev} {x y : D} {S S' : Store} (h : evE C e ((wipeE σ own).set i (some x)) S = .ok y S') : elG C own (.nm i) .nil e σ x S = .ok (some y) S' := by
  have e2 : (M.bind (evC C .nil ((wipeE σ own).set i (some x))) (fun t => if t then M.bind (evE C e ((wipeE σ own).set i (some x))) fun y => M.ret (some y) else M.ret none) S : Res (Option D)) = .ok (some y) S' := by
    rw [bind_bnd, x_cnil, bnd_ok]
    simp only [if_true]
    rw [bind_bnd, h]; rfl
  unfold elG M.nox patE
  simp only
  rw [e2]
/-- a comprehension whose elements leave the store -/
theorem compM_all {f : D → M (Option D)} : ∀ {xs ys : List D} {k : Nat} {S : Store}, All2 (fun x y => ∀ S, f x S = .ok (some y) S) xs ys → xs.length + k ≤ 16777216 → compM f xs k S = .ok ys S
  | [], _, k, S, .nil, _ => rfl
  | x :: r, _, k, S, .cons (b := y) (bs := ys) h hr, hl => by
    show Res.bnd (f x S) _ = _
    rw [h S]
    show (if k < SL then M.bind (compM f r (k + 1)) fun ys => M.ret (y :: ys) else M.bad) S = _
    simp only [List.length_cons] at hl
    rw [if_pos (show k < SL by show k < 16777216; omega)]
    show Res.bnd (compM f r (k + 1) S) _ = _
    rw [compM_all hr (by omega)]
    rfl
/-- .. over a cell -/
theorem compN_all {f : D → M (Option D)} {n : Nat} {S : Store} {xs : List D} (hc : lstOf S (.cell n) = some xs) : ∀ (l : Nat) {ys : List D} {i k : Nat}, All2 (fun x y => f x S = .ok (some y) S) (xs.drop i) ys → (xs.drop i).length < l → (xs.drop i).length + k ≤ 16777216 → compN f n l i k S = .ok ys S
  | 0, _, _, _, _, h, _ => by omega
  | l + 1, ys, i, k, h, hl, hk => by
    unfold compN
    simp only [hc]
    by_cases hi : i < xs.length
    · have e : xs.drop i = xs[i] :: xs.drop (i + 1) := List.drop_eq_getElem_cons hi
      rw [e] at h hl hk
      simp only [List.length_cons] at hl hk
      rw [List.getElem?_eq_getElem hi]
      cases h with
      | @cons a b as bs h1 h2 =>
        show Res.bnd (f xs[i] S) _ = _
        rw [h1]
        show (if k < SL then M.bind (compN f n l (i + 1) (k + 1)) fun ys => M.ret (b :: ys) else M.bad) S = _
        rw [if_pos (show k < SL by show k < 16777216; omega)]
        show Res.bnd (compN f n l (i + 1) (k + 1) S) _ = _
        rw [compN_all hc l h2 (by omega) (by omega)]
        rfl
    · rw [List.drop_eq_nil_of_le (by omega)] at h
      cases h
      rw [List.getElem?_eq_none (by omega)]
theorem forL_nx {f : D → Ev → M Fl} {x : D} {r : List D} {σ σ' : Ev} {S S' : Store} (h : f x σ S = .ok (.nx σ') S') : forL f (x :: r) σ S = forL f r σ' S' := by
  show Res.bnd (f x σ S) _ = _
  rw [h]; rfl
theorem forL_rt {f : D → Ev → M Fl} {x d : D} {r : List D} {σ : Ev} {S S' : Store} (h : f x σ S = .ok (.rt d) S') : forL f (x :: r) σ S = .ok (.rt d) S' := by
  show Res.bnd (f x σ S) _ = _
  rw [h]; rfl
theorem forL_nil {f : D → Ev → M Fl} {σ : Ev} {S : Store} : forL f [] σ S = .ok (.nx σ) S := (rfl)
/-! ### with effects -/
theorem call_low {C : Cf} {fn : Fn} {xs : List D} {S S1 : Store} {d : D} (hk : fn.keep = false) (hf : D.frees xs = false) (h : exS C fn.body (xs.map some ++ List.replicate (fn.nl - fn.np) none) S = .ok (.rt d) S1) (hd : D.low S.length d = true) (hl : ∀ c ∈ S1.take S.length, c.low S.length = true) :
    callFn C fn xs S = .ok d (S1.take S.length) := by
  unfold callFn runFn
  rw [hk, hf, h]
  simp only [Bool.false_eq_true, if_false, leave, frz_low 4 hd, frzS_low hl]
theorem call_lowZ {C : Cf} {fn : Fn} {xs : List D} {S S1 : Store} {d d' : D} (hk : fn.keep = false) (hf : D.frees xs = false) (h : exS C fn.body (xs.map some ++ List.replicate (fn.nl - fn.np) none) S = .ok (.rt d) S1) (hd : frz S.length S1 4 d = some d') (hl : ∀ c ∈ S1.take S.length, c.low S.length = true) :
    callFn C fn xs S = .ok d' (S1.take S.length) := by
  unfold callFn runFn
  rw [hk, hf, h]
  simp only [Bool.false_eq_true, if_false, leave, hd, frzS_low hl]
theorem compM_ex {f : D → M (Option D)} (I : Store → Prop) (P : D → Prop) : ∀ {xs : List D} {k : Nat} {S : Store}, (∀ x ∈ xs, ∀ S, I S → ∃ y S', f x S = .ok (some y) S' ∧ P y ∧ I S') → xs.length + k ≤ 16777216 → I S →
    ∃ ys S', compM f xs k S = .ok ys S' ∧ (∀ y ∈ ys, P y) ∧ ys.length = xs.length ∧ I S'
  | [], k, S, _, _, h => ⟨[], S, rfl, fun y hy => (nomatch hy), rfl, h⟩
  | x :: r, k, S, hx, hl, h => by
    simp only [List.length_cons] at hl
    obtain ⟨y, S1, e1, p1, i1⟩ := hx x List.mem_cons_self S h
    obtain ⟨ys, S2, e2, p2, l2, i2⟩ := compM_ex I P (xs := r) (k := k + 1) (fun z hz => hx z (List.mem_cons_of_mem _ hz)) (by omega) i1
    refine ⟨y :: ys, S2, ?_, fun z hz => ?_, by simp [l2], i2⟩
    · show Res.bnd (f x S) _ = _
      rw [e1]
      show (if k < SL then M.bind (compM f r (k + 1)) fun ys => M.ret (y :: ys) else M.bad) S1 = _
      rw [if_pos (show k < SL by show k < 16777216; omega)]
      show Res.bnd (compM f r (k + 1) S1) _ = _
      rw [e2]; rfl
    · rcases List.mem_cons.mp hz with e | e
      · rw [e]; exact p1
      · exact p2 z e
theorem forL_ix {f : D → Ev → M Fl} (I : Nat → Ev → Store → Prop) : ∀ {xs : List D} {j : Nat} {σ : Ev} {S : Store}, (∀ (i : Nat) (x : D) (σ : Ev) (S : Store), xs[i]? = some x → I (j + i) σ S → ∃ σ' S', f x σ S = .ok (.nx σ') S' ∧ I (j + i + 1) σ' S') → I j σ S →
    ∃ σ' S', forL f xs σ S = .ok (.nx σ') S' ∧ I (j + xs.length) σ' S'
  | [], j, σ, S, _, h => ⟨σ, S, rfl, h⟩
  | x :: r, j, σ, S, hx, h => by
    obtain ⟨σ1, S1, e1, i1⟩ := hx 0 x σ S rfl h
    obtain ⟨σ2, S2, e2, i2⟩ := forL_ix I (xs := r) (j := j + 1) (fun i y σ S hy hi => by
      have := hx (i + 1) y σ S (by simpa using hy) (by rw [show j + (i + 1) = j + 1 + i by omega]; exact hi)
      rw [show j + (i + 1) + 1 = j + 1 + i + 1 by omega] at this
      exact this) i1
    refine ⟨σ2, S2, ?_, ?_⟩
    · rw [forL_nx e1, e2]
    · rw [List.length_cons, show j + (r.length + 1) = j + 1 + r.length by omega]; exact i2
/-- .. that may answer on the way -/
theorem forL_rx {f : D → Ev → M Fl} (I : Nat → Ev → Store → Prop) (R : D → Store → Prop) : ∀ {xs : List D} {j : Nat} {σ : Ev} {S : Store}, (∀ (i : Nat) (x : D) (σ : Ev) (S : Store), xs[i]? = some x → I (j + i) σ S → (∃ σ' S', f x σ S = .ok (.nx σ') S' ∧ I (j + i + 1) σ' S') ∨ ∃ d S', f x σ S = .ok (.rt d) S' ∧ R d S') → I j σ S →
    (∃ σ' S', forL f xs σ S = .ok (.nx σ') S' ∧ I (j + xs.length) σ' S') ∨ ∃ d S', forL f xs σ S = .ok (.rt d) S' ∧ R d S'
  | [], j, σ, S, _, h => .inl ⟨σ, S, rfl, h⟩
  | x :: r, j, σ, S, hx, h => by
    rcases hx 0 x σ S rfl h with ⟨σ1, S1, e1, i1⟩ | ⟨d, S1, e1, r1⟩
    · have q := forL_rx I R (xs := r) (j := j + 1) (σ := σ1) (S := S1) (fun i y σ S hy hi => by
        have := hx (i + 1) y σ S (by simpa using hy) (by rw [show j + (i + 1) = j + 1 + i by omega]; exact hi)
        rw [show j + (i + 1) + 1 = j + 1 + i + 1 by omega] at this
        exact this) i1
      rw [forL_nx e1, List.length_cons, show j + (r.length + 1) = j + 1 + r.length by omega]
      exact q
    · exact .inr ⟨d, S1, forL_rt e1, r1⟩
theorem el_set {own : List Nat} {i : Nat} {σ : Ev} {x : D} (h : i < σ.length) : ((wipeE σ own).set i (some x))[i]? = some (some x) := List.getElem?_set_self (by rw [wipe_length]; exact h)
def rngM (x : D) : M Src := match x with
  | .int j => if -big62 ≤ j ∧ j < big62 then M.ret (.xs (rngD 0 j.toNat)) else M.bad
  | _ => M.bad
@[simp] theorem x_rng1 {C : Cf} {σ : Ev} {S : Store} {a : IE} : evI C (.rng1 a) σ S = Res.bnd (evE C a σ S) rngM := (rfl)
@[simp] theorem x_rngM {j : Int} {S : Store} (h0 : -4611686018427387904 ≤ j) (h1 : j < 4611686018427387904) : rngM (.int j) S = .ok (.xs (rngD 0 j.toNat)) S := by
  show (if -big62 ≤ j ∧ j < big62 then M.ret (Src.xs (rngD 0 j.toNat)) else M.bad) S = _
  rw [if_pos ⟨h0, h1⟩]; rfl
@[simp] theorem x_compS {f : D → M (Option D)} {l : Nat} {xs : List D} {S : Store} : compS f l (.xs xs) S = compM f xs 0 S := (rfl)
@[simp] theorem x_compC {f : D → M (Option D)} {l n : Nat} {S : Store} : compS f l (.cl n) S = compN f n l 0 0 S := (rfl)
theorem rngM_nat {m : Nat} {S : Store} (h : m ≤ 1000000) : rngM (.int m) S = .ok (.xs (rngD 0 m)) S := by
  have := x_rngM (j := (m : Int)) (S := S) (by omega) (by omega)
  rw [Int.toNat_natCast] at this
  exact this
theorem rng_at {n i : Nat} {x : D} (h : (rngD 0 n)[i]? = some x) : x = .int i ∧ i < n := by
  unfold rngD at h
  rw [List.getElem?_map] at h
  by_cases hi : i < n
  · rw [List.getElem?_range hi] at h
    cases h
    exact ⟨by simp, hi⟩
  · rw [List.getElem?_eq_none (by simpa using hi)] at h; cases h
theorem rng_mem {n : Nat} {x : D} (h : x ∈ rngD 0 n) : ∃ i : Nat, x = .int i ∧ i < n := by
  obtain ⟨i, hi, e⟩ := List.getElem_of_mem h
  obtain ⟨h1, h2⟩ := rng_at (show (rngD 0 n)[i]? = some x by rw [List.getElem?_eq_getElem hi, e])
  exact ⟨i, h1, h2⟩
theorem rng_len {n : Nat} : (rngD 0 n).length = n := by simp [rngD]
theorem strs_of {ys : List D} {b : Nat} (h : ∀ y ∈ ys, ∃ z, y = .str z ∧ z.length ≤ b) : ∃ zs : List (List Nat), ys = zs.map .str ∧ ∀ z ∈ zs, z.length ≤ b := by
  induction ys with
  | nil => exact ⟨[], rfl, fun z hz => (nomatch hz)⟩
  | cons y r ih =>
    obtain ⟨z, rfl, hz⟩ := h y List.mem_cons_self
    obtain ⟨zs, rfl, hzs⟩ := ih fun w hw => h w (List.mem_cons_of_mem _ hw)
    refine ⟨z :: zs, rfl, fun w hw => ?_⟩
    rcases List.mem_cons.mp hw with e | e
    · rw [e]; exact hz
    · exact hzs w e
theorem depths_strs : ∀ zs : List (List Nat), D.depths (zs.map D.str) = 0
  | [] => rfl
  | z :: r => by
    show max 0 (D.depths (r.map D.str)) = 0
    rw [depths_strs r]; rfl
theorem o_notT {S : Store} {x : List Nat} {ys : List D} (h : ys.all D.flat = true) : cmpM .notIn (.str x) (.tup ys) S = .ok (!memD (.str x) ys) S := by
  show M.opt ((if (true && ys.all D.flat) = true then some (memD (.str x) ys) else none).map (!·)) S = _
  rw [h]; rfl
theorem o_notL {S : Store} {x : List Nat} {d : D} {zs : List (List Nat)} (h : lstOf S d = some (zs.map .str)) (hd : (∃ xs, d = .lst xs) ∨ ∃ n, d = .cell n) : cmpM .notIn (.str x) d S = .ok (!memD (.str x) (zs.map .str)) S := by
  have e : inD S (.str x) d = some (memD (.str x) (zs.map .str)) := by
    have e2 : inD S (.str x) d = (match lstOf S d with
      | some ys => if (D.free (.str x) && D.frees ys && decide (D.depth (.str x) ≤ 60) && decide (D.depths ys ≤ 60)) = true then some (memD (.str x) ys) else none
      | none => none) := by
      rcases hd with ⟨xs, rfl⟩ | ⟨n, rfl⟩ <;> rfl
    rw [e2, h]
    simp only [frees_strs, depths_strs, D.free, D.depth]
    rfl
  show M.opt ((inD S (.str x) d).map (!·)) S = _
  rw [e]; rfl
end Fb
set_option linter.all false
set_option maxRecDepth 100000
/-! the defs of the law as terms of Fb1; printed by gen.py -/
namespace Lw
open Fb
def f_in_brackets : Fn := ⟨2, 3, false, (.seq (.set 2 (.call 1 (.cons (.var 0) .nil)))
  (.seq (.ret (.ite (.cmp .isIn (.idx (.var 0) (.lit (.int 0))) (.var 1)) (.bin .add (.bin .add (.lit (.str [40])) (.var 2)) (.lit (.str [41]))) (.var 2)))
  .skip))⟩
def f_expression_text : Fn := ⟨1, 2, false, (.seq (.set 1 (.idx (.var 0) (.lit (.int 0))))
  (.seq (.ite (.cmp .isIn (.var 1) (.tup (.cons (.lit (.str [110])) (.cons (.lit (.str [118])) .nil))))
  (.seq (.ret (.blt .str (.cons (.idx (.var 0) (.lit (.int 1))) .nil)))
  .skip)
  .skip)
  (.seq (.ite (.cmp .eq (.var 1) (.lit (.str [42])))
  (.seq (.ret (.bin .add (.bin .add (.call 0 (.cons (.idx (.var 0) (.lit (.int 1))) (.cons (.glo [83, 85, 77, 83] (.tup [(.str [43]), (.str [45])])) .nil))) (.lit (.str [32, 42, 32]))) (.call 0 (.cons (.idx (.var 0) (.lit (.int 2))) (.cons (.glo [83, 73, 71, 78, 69, 68] (.tup [(.str [43]), (.str [45]), (.str [42])])) .nil)))))
  .skip)
  .skip)
  (.seq (.ret (.bin .add (.bin .add (.bin .add (.bin .add (.call 1 (.cons (.idx (.var 0) (.lit (.int 1))) .nil)) (.lit (.str [32]))) (.var 1)) (.lit (.str [32]))) (.call 0 (.cons (.idx (.var 0) (.lit (.int 2))) (.cons (.glo [83, 85, 77, 83] (.tup [(.str [43]), (.str [45])])) .nil)))))
  .skip))))⟩
def f_made_text : Fn := ⟨1, 1, false, (.seq (.ret (.mth .join (.lit (.str [32])) (.cons (.bin .add (.idx (.var 0) (.lit (.int 0))) (.tup (.cons (.idx (.var 0) (.lit (.int 1))) .nil))) .nil)))
  .skip)⟩
def f_call_text : Fn := ⟨1, 8, false, (.seq (.setP [2, 3, 4, 5, 6] (.var 0))
  (.seq (.set 1 (.bin .add (.bin .add (.bin .add (.bin .add (.bin .add (.lit (.str [99, 97, 108, 108, 32])) (.var 3)) (.lit (.str [32, 61, 32]))) (.var 4)) (.lit (.str [32]))) (.call 2 (.cons (.var 5) .nil))))
  (.seq (.ite (.var 6)
  (.seq (.set 1 (.bin .add (.bin .add (.var 1) (.lit (.str [32, 58, 32]))) (.mth .join (.lit (.str [44, 32])) (.cons (.comp [7] (.nm 7) (.cons (.var 6) .nil) .nil (.call 1 (.cons (.var 7) .nil))) .nil))))
  .skip)
  .skip)
  (.seq (.ret (.bin .add (.var 1) (.lit (.str [10]))))
  .skip))))⟩
def f_statement_lines : Fn := ⟨1, 3, false, (.seq (.set 1 (.idx (.var 0) (.lit (.int 0))))
  (.seq (.ite (.cmp .eq (.var 1) (.lit (.str [108, 101, 116])))
  (.seq (.ret (.bin .add (.bin .add (.bin .add (.bin .add (.lit (.str [108, 101, 116, 32])) (.idx (.var 0) (.lit (.int 1)))) (.lit (.str [32, 61, 32]))) (.call 1 (.cons (.idx (.var 0) (.lit (.int 2))) .nil))) (.lit (.str [10]))))
  .skip)
  .skip)
  (.seq (.ite (.cmp .eq (.var 1) (.lit (.str [111, 117, 116])))
  (.seq (.ret (.bin .add (.bin .add (.lit (.str [111, 117, 116, 32])) (.call 1 (.cons (.idx (.var 0) (.lit (.int 1))) .nil))) (.lit (.str [10]))))
  .skip)
  .skip)
  (.seq (.ite (.cmp .eq (.var 1) (.lit (.str [99, 97, 108, 108])))
  (.seq (.ret (.call 3 (.cons (.var 0) .nil)))
  .skip)
  .skip)
  (.seq (.set 2 (.bin .add (.bin .add (.bin .add (.bin .add (.lit (.str [105, 102, 32])) (.call 1 (.cons (.idx (.var 0) (.lit (.int 1))) .nil))) (.lit (.str [32, 60, 32]))) (.call 1 (.cons (.idx (.var 0) (.lit (.int 2))) .nil))) (.lit (.str [10]))))
  (.seq (.set 2 (.bin .add (.var 2) (.call 5 (.cons (.idx (.var 0) (.lit (.int 3))) .nil))))
  (.seq (.ite (.idx (.var 0) (.lit (.int 4)))
  (.seq (.set 2 (.bin .add (.bin .add (.var 2) (.lit (.str [101, 108, 115, 101, 10]))) (.call 5 (.cons (.idx (.var 0) (.lit (.int 4))) .nil))))
  .skip)
  .skip)
  (.seq (.ret (.bin .add (.var 2) (.lit (.str [101, 110, 100, 10]))))
  .skip))))))))⟩
def f_statements_lines : Fn := ⟨1, 2, false, (.seq (.ret (.mth .join (.lit (.str [])) (.cons (.comp [1] (.nm 1) (.cons (.var 0) .nil) .nil (.call 4 (.cons (.var 1) .nil))) .nil)))
  .skip)⟩
def f_block_lines : Fn := ⟨1, 1, false, (.seq (.ret (.bin .add (.bin .add (.bin .add (.call 5 (.cons (.idx (.var 0) (.lit (.int 0))) .nil)) (.lit (.str [103, 105, 118, 101, 32]))) (.call 1 (.cons (.idx (.var 0) (.lit (.int 1))) .nil))) (.lit (.str [10]))))
  .skip)⟩
def f_function_lines : Fn := ⟨1, 4, false, (.seq (.set 1 (.bin .add (.mth .join (.lit (.str [32])) (.cons (.bin .add (.tup (.cons (.lit (.str [102, 117, 110])) (.cons (.idx (.var 0) (.lit (.int 0))) .nil))) (.idx (.var 0) (.lit (.int 1)))) .nil)) (.lit (.str [10]))))
  (.seq (.for (.tp [2, 3]) (.cons (.idx (.var 0) (.lit (.int 2))) .nil)
  (.seq (.set 1 (.bin .add (.bin .add (.var 1) (.ite (.cmp .eq (.var 2) (.lit (.str [45]))) (.lit (.str [])) (.bin .add (.bin .add (.lit (.str [99, 97, 115, 101, 32])) (.var 2)) (.lit (.str [10]))))) (.call 6 (.cons (.var 3) .nil))))
  .skip))
  (.seq (.ret (.var 1))
  .skip)))⟩
def f_program_text : Fn := ⟨1, 5, false, (.seq (.set 1 (.bin .add (.bin .add (.bin .add (.mth .join (.lit (.str [32])) (.cons (.bin .add (.tup (.cons (.lit (.str [119, 114, 97, 112, 115])) .nil)) (.idx (.var 0) (.lit (.int 0)))) .nil)) (.lit (.str [10]))) (.mth .join (.lit (.str [32])) (.cons (.bin .add (.tup (.cons (.lit (.str [103, 114, 111, 117, 110, 100, 115])) .nil)) (.idx (.var 0) (.lit (.int 1)))) .nil))) (.lit (.str [10]))))
  (.seq (.for (.nm 2) (.cons (.idx (.var 0) (.lit (.int 2))) .nil)
  (.seq (.set 1 (.bin .add (.var 1) (.call 7 (.cons (.var 2) .nil))))
  .skip))
  (.seq (.for (.tp [3, 4]) (.cons (.idx (.var 0) (.lit (.int 3))) .nil)
  (.seq (.set 1 (.bin .add (.bin .add (.var 1) (.mth .join (.lit (.str [32])) (.cons (.bin .add (.tup (.cons (.lit (.str [115, 116, 97, 114, 116])) (.cons (.var 3) .nil))) (.var 4)) .nil))) (.lit (.str [10]))))
  .skip))
  (.seq (.ret (.var 1))
  .skip))))⟩
def f_law_sack : Fn := ⟨1, 3, true, (.seq (.set 1 (.comp [2] (.nm 2) (.cons (.sli (.var 0) .nil (.cons (.lit (.int 75)) .nil)) .nil) .nil (.bin .mod (.blt .int (.cons (.var 2) .nil)) (.lit (.int 996629)))))
  (.seq (.ret (.alloc (.lst (.cons (.lit (.int 1)) (.cons (.lit (.int 30011)) (.cons (.bin .add (.var 1) (.lst (.cons (.bin .add (.bin .mod (.blt .len (.cons (.var 0) .nil)) (.lit (.int 67))) (.lit (.int 31))) .nil))) .nil))))))
  .skip))⟩
def f_law_grab : Fn := ⟨2, 3, false, (.seq (.set 2 (.idx (.var 0) (.lit (.int 2))))
  (.seq (.put (.var 0) (.lit (.int 0)) (.bin .add (.idx (.var 0) (.lit (.int 0))) (.lit (.int 1))))
  (.seq (.put (.var 0) (.lit (.int 1)) (.bin .mod (.bin .add (.bin .add (.bin .mul (.idx (.var 0) (.lit (.int 1))) (.lit (.int 127))) (.bin .mul (.idx (.var 2) (.bin .mod (.idx (.var 0) (.lit (.int 0))) (.blt .len (.cons (.var 2) .nil)))) (.lit (.int 71)))) (.bin .mul (.idx (.var 0) (.lit (.int 0))) (.lit (.int 4933)))) (.lit (.int 996629))))
  (.seq (.ret (.bin .mod (.blt .int (.cons (.bin .fdiv (.idx (.var 0) (.lit (.int 1))) (.lit (.int 19))) .nil)) (.var 1)))
  .skip))))⟩
def f_law_habit : Fn := ⟨3, 5, false, (.seq (.set 3 (.idx (.idx (.var 0) (.lit (.int 2))) (.bin .mod (.bin .add (.bin .mul (.var 1) (.lit (.int 7))) (.lit (.int 3))) (.blt .len (.cons (.idx (.var 0) (.lit (.int 2))) .nil)))))
  (.seq (.set 4 (.bin .mod (.bin .add (.bin .fdiv (.var 3) (.lit (.int 13))) (.bin .mul (.var 1) (.lit (.int 2)))) (.lit (.int 7))))
  (.seq (.ite (.cmp .eq (.var 4) (.lit (.int 2)))
  (.seq (.ret (.lit (.int 0)))
  .skip)
  .skip)
  (.seq (.ite (.cmp .eq (.var 4) (.lit (.int 5)))
  (.seq (.ret (.bin .sub (.var 2) (.lit (.int 1))))
  .skip)
  .skip)
  (.seq (.ite (.cmp .eq (.var 4) (.lit (.int 6)))
  (.seq (.ret (.bin .mod (.blt .int (.cons (.bin .fdiv (.var 3) (.lit (.int 37))) .nil)) (.var 2)))
  .skip)
  .skip)
  (.seq (.ret (.call 10 (.cons (.var 0) (.cons (.var 2) .nil))))
  .skip))))))⟩
def f_law_taboo : Fn := ⟨0, 0, false, (.seq (.ret (.tup (.cons (.lit (.str [108, 101, 116])) (.cons (.lit (.str [111, 117, 116])) (.cons (.lit (.str [99, 97, 108, 108])) (.cons (.lit (.str [105, 102])) (.cons (.lit (.str [101, 108, 115, 101])) (.cons (.lit (.str [101, 110, 100])) (.cons (.lit (.str [103, 105, 118, 101])) (.cons (.lit (.str [102, 117, 110])) (.cons (.lit (.str [99, 97, 115, 101])) (.cons (.lit (.str [119, 114, 97, 112, 115])) (.cons (.lit (.str [103, 114, 111, 117, 110, 100, 115])) (.cons (.lit (.str [115, 116, 97, 114, 116])) (.cons (.lit (.str [98, 97, 115, 101])) .nil)))))))))))))))
  .skip)⟩
def f_law_call_it : Fn := ⟨3, 6, false, (.seq (.set 3 (.lit (.str [101, 116, 97, 111, 105, 110, 115, 104, 114, 100, 108, 117, 99, 109, 102, 119, 121, 112, 118, 98, 103, 107, 106, 113, 120, 122])))
  (.seq (.set 4 (.mth .join (.lit (.str [])) (.cons (.comp [5] (.nm 5) (.rng1 (.bin .add (.lit (.int 1)) (.call 11 (.cons (.var 0) (.cons (.var 1) (.cons (.lit (.int 8)) .nil)))))) .nil (.idx (.var 3) (.call 10 (.cons (.var 0) (.cons (.lit (.int 26)) .nil))))) .nil)))
  (.seq (.for (.nm 5) (.rng1 (.lit (.int 180)))
  (.seq (.ite (.and (.cmp .notIn (.var 4) (.var 2)) (.cmp .notIn (.var 4) (.call 12 .nil)))
  (.seq (.ret (.var 4))
  .skip)
  .skip)
  (.seq (.set 4 (.bin .add (.idx (.var 3) (.bin .fdiv (.var 5) (.lit (.int 26)))) (.idx (.var 3) (.bin .mod (.var 5) (.lit (.int 26))))))
  .skip)))
  (.seq (.ret (.var 4))
  .skip))))⟩
def f_law_row_of : Fn := ⟨4, 6, true, (.seq (.set 4 (.alloc (.lst .nil)))
  (.seq (.for (.nm 5) (.rng1 (.var 2))
  (.seq (.ex (.mth .append (.var 4) (.cons (.call 13 (.cons (.var 0) (.cons (.var 1) (.cons (.bin .add (.var 3) (.var 4)) .nil)))) .nil)))
  .skip))
  (.seq (.ret (.var 4))
  .skip)))⟩
def f_law_shuffled : Fn := ⟨2, 5, false, (.seq (.par [3, 4] (.cons (.alloc (.blt .list (.cons (.var 1) .nil))) (.cons (.alloc (.lst .nil)) .nil)))
  (.seq (.for (.nm 2) (.rng1 (.blt .len (.cons (.var 1) .nil)))
  (.seq (.ex (.mth .append (.var 4) (.cons (.mth .popAt (.var 3) (.cons (.call 10 (.cons (.var 0) (.cons (.blt .len (.cons (.var 3) .nil)) .nil))) .nil)) .nil)))
  .skip))
  (.seq (.ret (.var 4))
  .skip)))⟩
def f_law_many_looks : Fn := ⟨3, 5, false, (.seq (.set 3 (.lit (.int 1)))
  (.seq (.for (.nm 4) (.rng1 (.var 2))
  (.seq (.set 3 (.bin .add (.var 1) (.bin .mul (.var 0) (.var 3))))
  .skip))
  (.seq (.ret (.var 3))
  .skip)))⟩
def f_law_outlines : Fn := ⟨3, 9, false, (.seq (.set 3 (.call 14 (.cons (.var 0) (.cons (.lit (.int 21)) (.cons (.bin .add (.lit (.int 1)) (.call 11 (.cons (.var 0) (.cons (.lit (.int 22)) (.cons (.lit (.int 12)) .nil))))) (.cons (.lst .nil) .nil))))))
  (.seq (.ite (.and (.cmp .eq (.call 10 (.cons (.var 0) (.cons (.lit (.int 4)) .nil))) (.lit (.int 0))) (.cmp .notIn (.idx (.var 2) (.lit (.int 0))) (.var 3)))
  (.seq (.put (.var 3) (.lit (.int 0)) (.idx (.var 2) (.lit (.int 0))))
  .skip)
  .skip)
  (.seq (.set 4 (.call 11 (.cons (.var 0) (.cons (.lit (.int 23)) (.cons (.lit (.int 4)) .nil)))))
  (.seq (.for (.nm 5) (.rng1 (.lit (.int 3)))
  (.seq (.ite (.and (.cmp .gt (.bin .mul (.blt .len (.cons (.var 3) .nil)) (.call 16 (.cons (.blt .len (.cons (.var 1) .nil)) (.cons (.blt .len (.cons (.var 2) .nil)) (.cons (.bin .add (.var 4) (.lit (.int 1))) .nil))))) (.lit (.int 200))) (.cmp .gt (.var 4) (.lit (.int 0))))
  (.seq (.set 4 (.bin .sub (.var 4) (.lit (.int 1))))
  .skip)
  .skip)
  .skip))
  (.seq (.set 6 (.alloc (.lst .nil)))
  (.seq (.for (.nm 7) (.cons (.var 3) .nil)
  (.seq (.set 8 (.alloc (.sli (.call 15 (.cons (.var 0) (.cons (.bin .add (.var 1) (.var 2)) .nil))) .nil (.cons (.call 11 (.cons (.var 0) (.cons (.lit (.int 24)) (.cons (.bin .add (.bin .add (.blt .len (.cons (.var 1) .nil)) (.blt .len (.cons (.var 2) .nil))) (.lit (.int 1))) .nil)))) .nil))))
  (.seq (.ite (.cmp .eq (.blt .len (.cons (.var 8) .nil)) (.lit (.int 0)))
  (.seq (.set 8 (.alloc (.lst (.cons (.lit (.str [45])) .nil))))
  .skip)
  (.seq (.ite (.cmp .lt (.blt .len (.cons (.var 8) .nil)) (.bin .add (.blt .len (.cons (.var 1) .nil)) (.blt .len (.cons (.var 2) .nil))))
  (.seq (.ex (.mth .append (.var 8) (.cons (.lit (.str [101, 108, 115, 101])) .nil)))
  .skip)
  .skip)
  .skip))
  (.seq (.ex (.mth .append (.var 6) (.cons (.tup (.cons (.var 7) (.cons (.call 14 (.cons (.var 0) (.cons (.lit (.int 25)) (.cons (.call 11 (.cons (.var 0) (.cons (.lit (.int 26)) (.cons (.lit (.int 5)) .nil)))) (.cons (.lst .nil) .nil))))) (.cons (.var 8) (.cons (.call 10 (.cons (.var 0) (.cons (.bin .add (.var 4) (.lit (.int 1))) .nil))) .nil))))) .nil)))
  .skip))))
  (.seq (.ret (.var 6))
  .skip)))))))⟩
def f_law_leaf : Fn := ⟨2, 2, false, (.seq (.ite (.and (.cmp .gt (.blt .len (.cons (.var 1) .nil)) (.lit (.int 0))) (.cmp .eq (.call 10 (.cons (.var 0) (.cons (.lit (.int 2)) .nil))) (.lit (.int 0))))
  (.seq (.ret (.tup (.cons (.lit (.str [118])) (.cons (.idx (.var 1) (.call 10 (.cons (.var 0) (.cons (.blt .len (.cons (.var 1) .nil)) .nil)))) .nil))))
  .skip)
  .skip)
  (.seq (.ret (.tup (.cons (.lit (.str [110])) (.cons (.idx (.tup (.cons (.lit (.int 0)) (.cons (.lit (.int 7)) (.cons (.bin .pow (.lit (.int 10)) (.lit (.int 9))) (.cons (.call 10 (.cons (.var 0) (.cons (.lit (.int 50)) .nil))) (.cons (.bin .sub (.bin .pow (.lit (.int 10)) (.lit (.int 9))) (.call 10 (.cons (.var 0) (.cons (.lit (.int 50)) .nil)))) .nil)))))) (.call 10 (.cons (.var 0) (.cons (.lit (.int 5)) .nil)))) .nil))))
  .skip))⟩
def f_law_sum : Fn := ⟨2, 6, false, (.seq (.set 2 (.bin .add (.lit (.int 1)) (.call 10 (.cons (.var 0) (.cons (.lit (.int 3)) .nil)))))
  (.seq (.ite (.cmp .eq (.call 10 (.cons (.var 0) (.cons (.lit (.int 8)) .nil))) (.lit (.int 0)))
  (.seq (.set 2 (.bin .add (.lit (.int 1)) (.call 11 (.cons (.var 0) (.cons (.lit (.int 27)) (.cons (.lit (.int 15)) .nil))))))
  .skip)
  .skip)
  (.seq (.set 3 (.comp [4] (.nm 4) (.rng1 (.var 2)) .nil (.call 18 (.cons (.var 0) (.cons (.var 1) .nil)))))
  (.seq (.for (.nm 4) (.rng1 (.bin .sub (.var 2) (.lit (.int 1))))
  (.seq (.set 5 (.call 11 (.cons (.var 0) (.cons (.lit (.int 28)) (.cons (.bin .sub (.blt .len (.cons (.var 3) .nil)) (.lit (.int 1))) .nil)))))
  (.seq (.set 3 (.bin .add (.bin .add (.sli (.var 3) .nil (.cons (.var 5) .nil)) (.lst (.cons (.tup (.cons (.idx (.lit (.str [42, 45, 43])) (.call 11 (.cons (.var 0) (.cons (.lit (.int 29)) (.cons (.lit (.int 3)) .nil))))) (.cons (.idx (.var 3) (.var 5)) (.cons (.idx (.var 3) (.bin .add (.var 5) (.lit (.int 1)))) .nil)))) .nil))) (.sli (.var 3) (.cons (.bin .add (.var 5) (.lit (.int 2))) .nil) .nil)))
  .skip)))
  (.seq (.ret (.idx (.var 3) (.lit (.int 0))))
  .skip)))))⟩
def f_law_into : Fn := ⟨2, 2, false, (.seq (.ite (.or (.cmp .gt (.blt .len (.cons (.var 1) .nil)) (.lit (.int 7))) (.and (.cmp .gt (.blt .len (.cons (.var 1) .nil)) (.lit (.int 0))) (.cmp .eq (.call 10 (.cons (.var 0) (.cons (.lit (.int 2)) .nil))) (.lit (.int 0)))))
  (.seq (.ret (.idx (.var 1) (.call 10 (.cons (.var 0) (.cons (.blt .len (.cons (.var 1) .nil)) .nil)))))
  .skip)
  .skip)
  (.seq (.ex (.mth .append (.var 1) (.cons (.call 13 (.cons (.var 0) (.cons (.lit (.int 30)) (.cons (.var 1) .nil)))) .nil)))
  (.seq (.ret (.idx (.var 1) (.neg (.lit (.int 1)))))
  .skip)))⟩
def f_law_goal : Fn := ⟨4, 12, false, (.seq (.setP [7, 8, 9] (.tup (.cons (.idx (.var 1) (.lit (.int 0))) (.cons (.idx (.var 1) (.lit (.int 1))) (.cons (.idx (.var 1) (.lit (.int 2))) .nil)))))
  (.seq (.set 4 (.blt .tuple (.cons (.comp [11] (.nm 11) (.rng1 (.bin .mul (.blt .min (.cons (.lit (.int 1)) (.cons (.blt .len (.cons (.var 7) .nil)) .nil))) (.call 11 (.cons (.var 0) (.cons (.lit (.int 31)) (.cons (.lit (.int 5)) .nil)))))) .nil (.idx (.var 7) (.call 10 (.cons (.var 0) (.cons (.blt .len (.cons (.var 7) .nil)) .nil))))) .nil)))
  (.seq (.set 5 (.comp [10] (.nm 10) (.cons (.var 9) .nil) (.cons (.cmp .lt (.idx (.var 10) (.lit (.int 3))) (.var 2)) .nil) (.var 10)))
  (.seq (.ite (.and (.cmp .isIn (.var 3) (.var 7)) (.and (.cmp .gt (.blt .len (.cons (.var 5) .nil)) (.lit (.int 0))) (.cmp .eq (.call 10 (.cons (.var 0) (.cons (.lit (.int 2)) .nil))) (.lit (.int 0)))))
  (.seq (.ret (.tup (.cons (.tup (.cons (.var 4) (.cons (.lit (.str [85])) .nil))) (.cons (.idx (.var 5) (.call 10 (.cons (.var 0) (.cons (.blt .len (.cons (.var 5) .nil)) .nil)))) .nil))))
  .skip)
  .skip)
  (.seq (.ite (.cmp .eq (.call 10 (.cons (.var 0) (.cons (.lit (.int 3)) .nil))) (.lit (.int 0)))
  (.seq (.ret (.tup (.cons (.tup (.cons (.var 4) (.cons (.idx (.var 8) (.call 10 (.cons (.var 0) (.cons (.blt .len (.cons (.var 8) .nil)) .nil)))) .nil))) (.cons (.idx (.var 9) (.call 10 (.cons (.var 0) (.cons (.blt .len (.cons (.var 9) .nil)) .nil)))) .nil))))
  .skip)
  .skip)
  (.seq (.set 6 (.comp [10] (.nm 10) (.cons (.var 9) .nil) (.cons (.cmp .le (.idx (.var 10) (.lit (.int 3))) (.var 2)) .nil) (.var 10)))
  (.seq (.ret (.tup (.cons (.tup (.cons (.var 4) (.cons (.lit (.str [84])) .nil))) (.cons (.idx (.var 6) (.call 10 (.cons (.var 0) (.cons (.blt .len (.cons (.var 6) .nil)) .nil)))) .nil))))
  .skip)))))))⟩
def f_law_statement : Fn := ⟨6, 14, false, (.seq (.set 6 (.call 11 (.cons (.var 0) (.cons (.bin .add (.lit (.int 32)) (.var 5)) (.cons (.lit (.int 6)) .nil)))))
  (.seq (.ite (.and (.cmp .gt (.var 6) (.lit (.int 3))) (.cmp .lt (.var 5) (.lit (.int 3))))
  (.seq (.par [10, 11] (.cons (.call 19 (.cons (.var 0) (.cons (.var 3) .nil))) (.cons (.call 19 (.cons (.var 0) (.cons (.var 3) .nil))) .nil)))
  (.seq (.set 8 (.call 23 (.cons (.var 0) (.cons (.var 1) (.cons (.var 2) (.cons (.var 3) (.cons (.var 4) (.cons (.bin .add (.var 5) (.lit (.int 1))) .nil))))))))
  (.seq (.ret (.tup (.cons (.lit (.str [105, 102])) (.cons (.var 10) (.cons (.var 11) (.cons (.var 8) (.cons (.call 23 (.cons (.var 0) (.cons (.var 1) (.cons (.var 2) (.cons (.var 3) (.cons (.var 4) (.cons (.bin .add (.var 5) (.lit (.int 1))) .nil))))))) .nil)))))))
  .skip)))
  .skip)
  (.seq (.ite (.cmp .eq (.var 6) (.lit (.int 0)))
  (.seq (.ret (.tup (.cons (.lit (.str [111, 117, 116])) (.cons (.call 19 (.cons (.var 0) (.cons (.var 3) .nil))) .nil))))
  .skip)
  .skip)
  (.seq (.ite (.cmp .lt (.var 6) (.lit (.int 3)))
  (.seq (.setP [12, 13] (.call 21 (.cons (.var 0) (.cons (.var 1) (.cons (.idx (.var 2) (.lit (.int 0))) (.cons (.idx (.var 2) (.lit (.int 1))) .nil))))))
  (.seq (.set 9 (.blt .tuple (.cons (.comp [7] (.nm 7) (.cons (.idx (.var 13) (.lit (.int 1))) .nil) .nil (.call 19 (.cons (.var 0) (.cons (.var 3) .nil)))) .nil)))
  (.seq (.ret (.tup (.cons (.lit (.str [99, 97, 108, 108])) (.cons (.call 20 (.cons (.var 0) (.cons (.var 3) .nil))) (.cons (.idx (.var 13) (.lit (.int 0))) (.cons (.var 12) (.cons (.var 9) .nil)))))))
  .skip)))
  .skip)
  (.seq (.set 7 (.call 20 (.cons (.var 0) (.cons (.var 3) .nil))))
  (.seq (.ret (.tup (.cons (.lit (.str [108, 101, 116])) (.cons (.var 7) (.cons (.call 19 (.cons (.var 0) (.cons (.var 3) .nil))) .nil)))))
  .skip))))))⟩
def f_law_statements : Fn := ⟨6, 8, false, (.seq (.set 6 (.alloc (.lst .nil)))
  (.seq (.for (.nm 7) (.rng1 (.call 11 (.cons (.var 0) (.cons (.bin .add (.lit (.int 36)) (.var 5)) (.cons (.lit (.int 9)) .nil)))))
  (.seq (.ite (.cmp .lt (.idx (.var 4) (.lit (.int 0))) (.lit (.int 1)))
  (.seq (.ret (.blt .tuple (.cons (.var 6) .nil)))
  .skip)
  .skip)
  (.seq (.put (.var 4) (.lit (.int 0)) (.bin .sub (.idx (.var 4) (.lit (.int 0))) (.lit (.int 1))))
  (.seq (.ex (.mth .append (.var 6) (.cons (.call 22 (.cons (.var 0) (.cons (.var 1) (.cons (.var 2) (.cons (.var 3) (.cons (.var 4) (.cons (.var 5) .nil))))))) .nil)))
  .skip))))
  (.seq (.ret (.blt .tuple (.cons (.var 6) .nil)))
  .skip)))⟩
def f_law_blocks : Fn := ⟨4, 9, false, (.seq (.set 4 (.alloc (.lst .nil)))
  (.seq (.for (.nm 5) (.cons (.idx (.var 2) (.lit (.int 2))) .nil)
  (.seq (.par [7, 8] (.cons (.alloc (.blt .list (.cons (.idx (.var 2) (.lit (.int 1))) .nil))) (.cons (.alloc (.lst (.cons (.blt .min (.cons (.idx (.var 3) (.lit (.int 0))) (.cons (.bin .add (.lit (.int 1)) (.call 11 (.cons (.var 0) (.cons (.lit (.int 40)) (.cons (.lit (.int 20)) .nil))))) .nil))) .nil))) .nil)))
  (.seq (.put (.var 3) (.lit (.int 0)) (.bin .sub (.idx (.var 3) (.lit (.int 0))) (.idx (.var 8) (.lit (.int 0)))))
  (.seq (.set 6 (.call 23 (.cons (.var 0) (.cons (.var 1) (.cons (.tup (.cons (.idx (.var 2) (.lit (.int 3))) (.cons (.var 5) .nil))) (.cons (.var 7) (.cons (.var 8) (.cons (.lit (.int 0)) .nil))))))))
  (.seq (.ex (.mth .append (.var 4) (.cons (.tup (.cons (.var 5) (.cons (.tup (.cons (.var 6) (.cons (.call 19 (.cons (.var 0) (.cons (.var 7) .nil))) .nil))) .nil))) .nil)))
  .skip)))))
  (.seq (.ret (.blt .tuple (.cons (.var 4) .nil)))
  .skip)))⟩
def f_law_type : Fn := ⟨3, 5, false, (.seq (.set 3 (.bin .mul (.blt .min (.cons (.lit (.int 1)) (.cons (.blt .len (.cons (.var 1) .nil)) .nil))) (.call 11 (.cons (.var 0) (.cons (.lit (.int 41)) (.cons (.lit (.int 60)) .nil))))))
  (.seq (.ret (.bin .add (.blt .tuple (.cons (.comp [4] (.nm 4) (.rng1 (.var 3)) .nil (.idx (.var 1) (.call 10 (.cons (.var 0) (.cons (.blt .len (.cons (.var 1) .nil)) .nil))))) .nil)) (.tup (.cons (.idx (.var 2) (.call 10 (.cons (.var 0) (.cons (.blt .len (.cons (.var 2) .nil)) .nil)))) .nil))))
  .skip))⟩
def f_law_program : Fn := ⟨1, 10, false, (.seq (.set 1 (.call 14 (.cons (.var 0) (.cons (.lit (.int 42)) (.cons (.call 11 (.cons (.var 0) (.cons (.lit (.int 43)) (.cons (.lit (.int 7)) .nil)))) (.cons (.lst .nil) .nil))))))
  (.seq (.set 2 (.call 14 (.cons (.var 0) (.cons (.lit (.int 44)) (.cons (.bin .add (.lit (.int 1)) (.call 11 (.cons (.var 0) (.cons (.lit (.int 45)) (.cons (.lit (.int 4)) .nil))))) (.cons (.var 1) .nil))))))
  (.seq (.set 3 (.call 17 (.cons (.var 0) (.cons (.var 1) (.cons (.var 2) .nil)))))
  (.seq (.setP [7, 8] (.tup (.cons (.tup (.cons (.var 1) (.cons (.var 2) (.cons (.var 3) .nil)))) (.cons (.alloc (.lst (.cons (.lit (.int 30)) .nil))) .nil))))
  (.seq (.ite (.cmp .eq (.call 10 (.cons (.var 0) (.cons (.lit (.int 11)) .nil))) (.lit (.int 0)))
  (.seq (.set 8 (.alloc (.lst (.cons (.lit (.int 200)) .nil))))
  .skip)
  .skip)
  (.seq (.set 4 (.comp [9] (.nm 9) (.cons (.var 3) .nil) .nil (.tup (.cons (.idx (.var 9) (.lit (.int 0))) (.cons (.blt .tuple (.cons (.idx (.var 9) (.lit (.int 1))) .nil)) (.cons (.call 24 (.cons (.var 0) (.cons (.var 7) (.cons (.var 9) (.cons (.var 8) .nil))))) .nil))))))
  (.seq (.set 5 (.alloc (.lst .nil)))
  (.seq (.for (.nm 6) (.rng1 (.bin .add (.lit (.int 1)) (.call 11 (.cons (.var 0) (.cons (.lit (.int 46)) (.cons (.lit (.int 6)) .nil))))))
  (.seq (.ex (.mth .append (.var 5) (.cons (.tup (.cons (.idx (.idx (.var 3) (.call 10 (.cons (.var 0) (.cons (.blt .len (.cons (.var 3) .nil)) .nil)))) (.lit (.int 0))) (.cons (.call 25 (.cons (.var 0) (.cons (.var 1) (.cons (.var 2) .nil)))) .nil))) .nil)))
  .skip))
  (.seq (.ret (.tup (.cons (.blt .tuple (.cons (.var 1) .nil)) (.cons (.blt .tuple (.cons (.var 2) .nil)) (.cons (.blt .tuple (.cons (.var 4) .nil)) (.cons (.blt .tuple (.cons (.var 5) .nil)) .nil))))))
  .skip)))))))))⟩
def f_law_pump : Fn := ⟨1, 13, false, (.seq (.setP [7, 8, 9, 10, 11, 12] (.call 14 (.cons (.var 0) (.cons (.lit (.int 47)) (.cons (.lit (.int 6)) (.cons (.lst .nil) .nil))))))
  (.seq (.set 1 (.bin .mul (.tup (.cons (.var 7) .nil)) (.bin .add (.lit (.int 1)) (.call 10 (.cons (.var 0) (.cons (.lit (.int 2)) .nil))))))
  (.seq (.set 2 (.tup (.cons (.lit (.str [45])) (.cons (.tup (.cons (.lit (.str [118])) (.cons (.var 11) .nil))) (.cons (.tup (.cons (.lit (.str [110])) (.cons (.lit (.int 1)) .nil))) .nil)))))
  (.seq (.set 3 (.tup (.cons (.lit (.str [105, 102])) (.cons (.tup (.cons (.lit (.str [118])) (.cons (.var 11) .nil))) (.cons (.tup (.cons (.lit (.str [110])) (.cons (.lit (.int 1)) .nil))) (.cons (.tup (.cons (.tup (.cons (.lit (.str [99, 97, 108, 108])) (.cons (.var 12) (.cons (.var 10) (.cons (.tup (.cons (.tup .nil) (.cons (.lit (.str [84])) .nil))) (.cons (.tup .nil) .nil)))))) .nil)) (.cons (.tup (.cons (.tup (.cons (.lit (.str [99, 97, 108, 108])) (.cons (.var 12) (.cons (.var 9) (.cons (.tup (.cons (.var 1) (.cons (.lit (.str [84])) .nil))) (.cons (.tup (.cons (.var 2) .nil)) .nil)))))) .nil)) .nil)))))))
  (.seq (.set 4 (.tup (.cons (.var 9) (.cons (.tup (.cons (.var 11) .nil)) (.cons (.tup (.cons (.tup (.cons (.lit (.str [45])) (.cons (.tup (.cons (.tup (.cons (.var 3) .nil)) (.cons (.tup (.cons (.lit (.str [118])) (.cons (.var 12) .nil))) .nil))) .nil))) .nil)) .nil)))))
  (.seq (.set 5 (.tup (.cons (.tup (.cons (.lit (.str [99, 97, 108, 108])) (.cons (.var 12) (.cons (.var 10) (.cons (.tup (.cons (.tup .nil) (.cons (.lit (.str [85])) .nil))) (.cons (.tup .nil) .nil)))))) .nil)))
  (.seq (.set 6 (.tup (.cons (.var 10) (.cons (.tup .nil) (.cons (.tup (.cons (.tup (.cons (.var 7) (.cons (.tup (.cons (.var 5) (.cons (.tup (.cons (.lit (.str [43])) (.cons (.tup (.cons (.lit (.str [118])) (.cons (.var 12) .nil))) (.cons (.tup (.cons (.lit (.str [110])) (.cons (.lit (.int 1)) .nil))) .nil)))) .nil))) .nil))) (.cons (.tup (.cons (.var 8) (.cons (.tup (.cons (.tup .nil) (.cons (.tup (.cons (.lit (.str [110])) (.cons (.call 10 (.cons (.var 0) (.cons (.lit (.int 9)) .nil))) .nil))) .nil))) .nil))) .nil))) .nil)))))
  (.seq (.ret (.tup (.cons (.tup (.cons (.var 7) .nil)) (.cons (.tup (.cons (.var 8) .nil)) (.cons (.tup (.cons (.var 4) (.cons (.var 6) .nil))) (.cons (.tup (.cons (.tup (.cons (.var 9) (.cons (.tup (.cons (.var 8) .nil)) .nil))) .nil)) .nil))))))
  .skip))))))))⟩
def f_law_turned : Fn := ⟨2, 9, false, (.seq (.set 2 (.alloc (.lst .nil)))
  (.seq (.for (.tp [3, 4, 5]) (.cons (.call 15 (.cons (.var 0) (.cons (.idx (.var 1) (.lit (.int 2))) .nil))) .nil)
  (.seq (.set 6 (.ite (.cmp .eq (.idx (.idx (.var 5) (.neg (.lit (.int 1)))) (.lit (.int 0))) (.lit (.str [101, 108, 115, 101]))) (.sli (.var 5) (.cons (.neg (.lit (.int 1))) .nil) .nil) (.tup .nil)))
  (.seq (.ex (.mth .append (.var 2) (.cons (.tup (.cons (.var 3) (.cons (.var 4) (.cons (.bin .add (.blt .tuple (.cons (.call 15 (.cons (.var 0) (.cons (.sli (.var 5) .nil (.cons (.bin .sub (.blt .len (.cons (.var 5) .nil)) (.blt .len (.cons (.var 6) .nil))) .nil)) .nil))) .nil)) (.var 6)) .nil)))) .nil)))
  .skip)))
  (.seq (.par [7, 8] (.cons (.blt .tuple (.cons (.call 15 (.cons (.var 0) (.cons (.idx (.var 1) (.lit (.int 0))) .nil))) .nil)) (.cons (.blt .tuple (.cons (.call 15 (.cons (.var 0) (.cons (.idx (.var 1) (.lit (.int 1))) .nil))) .nil)) .nil)))
  (.seq (.ret (.tup (.cons (.var 7) (.cons (.var 8) (.cons (.blt .tuple (.cons (.var 2) .nil)) (.cons (.blt .tuple (.cons (.call 15 (.cons (.var 0) (.cons (.idx (.var 1) (.lit (.int 3))) .nil))) .nil)) .nil))))))
  .skip))))⟩
def f_law_spelled : Fn := ⟨1, 3, false, (.seq (.ite (.cmp .isIn (.idx (.var 0) (.lit (.int 0))) (.tup (.cons (.lit (.str [110])) (.cons (.lit (.str [118])) .nil))))
  (.seq (.ret (.blt .str (.cons (.idx (.var 0) (.lit (.int 1))) .nil)))
  .skip)
  .skip)
  (.seq (.par [1, 2] (.cons (.call 29 (.cons (.idx (.var 0) (.lit (.int 1))) .nil)) (.cons (.call 29 (.cons (.idx (.var 0) (.lit (.int 2))) .nil)) .nil)))
  (.seq (.ite (.and (.cmp .eq (.idx (.var 0) (.lit (.int 0))) (.lit (.str [42]))) (.cmp .isIn (.idx (.idx (.var 0) (.lit (.int 1))) (.lit (.int 0))) (.tup (.cons (.lit (.str [43])) (.cons (.lit (.str [45])) .nil)))))
  (.seq (.set 1 (.bin .add (.bin .add (.lit (.str [40])) (.var 1)) (.lit (.str [41]))))
  .skip)
  .skip)
  (.seq (.ite (.or (.cmp .isIn (.idx (.idx (.var 0) (.lit (.int 2))) (.lit (.int 0))) (.tup (.cons (.lit (.str [43])) (.cons (.lit (.str [45])) .nil)))) (.and (.cmp .eq (.idx (.var 0) (.lit (.int 0))) (.lit (.str [42]))) (.cmp .eq (.idx (.idx (.var 0) (.lit (.int 2))) (.lit (.int 0))) (.lit (.str [42])))))
  (.seq (.set 2 (.bin .add (.bin .add (.lit (.str [40])) (.var 2)) (.lit (.str [41]))))
  .skip)
  .skip)
  (.seq (.ret (.bin .add (.bin .add (.bin .add (.bin .add (.var 1) (.lit (.str [32]))) (.idx (.var 0) (.lit (.int 0)))) (.lit (.str [32]))) (.var 2)))
  .skip)))))⟩
def f_law_made : Fn := ⟨1, 1, false, (.seq (.ret (.mth .join (.lit (.str [32])) (.cons (.bin .add (.blt .list (.cons (.idx (.var 0) (.lit (.int 0))) .nil)) (.lst (.cons (.idx (.var 0) (.lit (.int 1))) .nil))) .nil)))
  .skip)⟩
def f_law_lines : Fn := ⟨1, 5, false, (.seq (.set 1 (.alloc (.lst .nil)))
  (.seq (.for (.nm 2) (.cons (.var 0) .nil)
  (.seq (.ite (.cmp .eq (.idx (.var 2) (.lit (.int 0))) (.lit (.str [108, 101, 116])))
  (.seq (.ex (.mth .append (.var 1) (.cons (.bin .add (.bin .add (.bin .add (.lit (.str [108, 101, 116, 32])) (.idx (.var 2) (.lit (.int 1)))) (.lit (.str [32, 61, 32]))) (.call 29 (.cons (.idx (.var 2) (.lit (.int 2))) .nil))) .nil)))
  .skip)
  (.seq (.ite (.cmp .eq (.idx (.var 2) (.lit (.int 0))) (.lit (.str [111, 117, 116])))
  (.seq (.ex (.mth .append (.var 1) (.cons (.bin .add (.lit (.str [111, 117, 116, 32])) (.call 29 (.cons (.idx (.var 2) (.lit (.int 1))) .nil))) .nil)))
  .skip)
  (.seq (.ite (.cmp .eq (.idx (.var 2) (.lit (.int 0))) (.lit (.str [99, 97, 108, 108])))
  (.seq (.set 3 (.mth .join (.lit (.str [44, 32])) (.cons (.comp [4] (.nm 4) (.cons (.idx (.var 2) (.lit (.int 4))) .nil) .nil (.call 29 (.cons (.var 4) .nil))) .nil)))
  (.seq (.ex (.mth .append (.var 1) (.cons (.bin .add (.bin .add (.bin .add (.bin .add (.bin .add (.bin .add (.lit (.str [99, 97, 108, 108, 32])) (.idx (.var 2) (.lit (.int 1)))) (.lit (.str [32, 61, 32]))) (.idx (.var 2) (.lit (.int 2)))) (.lit (.str [32]))) (.call 30 (.cons (.idx (.var 2) (.lit (.int 3))) .nil))) (.ite (.cmp .gt (.blt .len (.cons (.idx (.var 2) (.lit (.int 4))) .nil)) (.lit (.int 0))) (.bin .add (.lit (.str [32, 58, 32])) (.var 3)) (.lit (.str [])))) .nil)))
  .skip))
  (.seq (.ex (.mth .append (.var 1) (.cons (.bin .add (.bin .add (.bin .add (.lit (.str [105, 102, 32])) (.call 29 (.cons (.idx (.var 2) (.lit (.int 1))) .nil))) (.lit (.str [32, 60, 32]))) (.call 29 (.cons (.idx (.var 2) (.lit (.int 2))) .nil))) .nil)))
  (.seq (.set 1 (.alloc (.bin .add (.var 1) (.call 31 (.cons (.idx (.var 2) (.lit (.int 3))) .nil)))))
  (.seq (.ite (.cmp .gt (.blt .len (.cons (.idx (.var 2) (.lit (.int 4))) .nil)) (.lit (.int 0)))
  (.seq (.set 1 (.alloc (.bin .add (.bin .add (.var 1) (.lst (.cons (.lit (.str [101, 108, 115, 101])) .nil))) (.call 31 (.cons (.idx (.var 2) (.lit (.int 4))) .nil)))))
  .skip)
  .skip)
  (.seq (.ex (.mth .append (.var 1) (.cons (.lit (.str [101, 110, 100])) .nil)))
  .skip)))))
  .skip))
  .skip))
  .skip))
  (.seq (.ret (.var 1))
  .skip)))⟩
def f_law_written : Fn := ⟨1, 9, false, (.seq (.set 1 (.alloc (.lst (.cons (.mth .join (.lit (.str [32])) (.cons (.bin .add (.lst (.cons (.lit (.str [119, 114, 97, 112, 115])) .nil)) (.blt .list (.cons (.idx (.var 0) (.lit (.int 0))) .nil))) .nil)) (.cons (.mth .join (.lit (.str [32])) (.cons (.bin .add (.lst (.cons (.lit (.str [103, 114, 111, 117, 110, 100, 115])) .nil)) (.blt .list (.cons (.idx (.var 0) (.lit (.int 1))) .nil))) .nil)) .nil)))))
  (.seq (.for (.tp [2, 3, 4]) (.cons (.idx (.var 0) (.lit (.int 2))) .nil)
  (.seq (.ex (.mth .append (.var 1) (.cons (.mth .join (.lit (.str [32])) (.cons (.bin .add (.lst (.cons (.lit (.str [102, 117, 110])) (.cons (.var 2) .nil))) (.blt .list (.cons (.var 3) .nil))) .nil)) .nil)))
  (.seq (.for (.tp [6, 7]) (.cons (.var 4) .nil)
  (.seq (.ite (.cmp .ne (.var 6) (.lit (.str [45])))
  (.seq (.ex (.mth .append (.var 1) (.cons (.bin .add (.lit (.str [99, 97, 115, 101, 32])) (.var 6)) .nil)))
  .skip)
  .skip)
  (.seq (.set 1 (.alloc (.bin .add (.bin .add (.var 1) (.call 31 (.cons (.idx (.var 7) (.lit (.int 0))) .nil))) (.lst (.cons (.bin .add (.lit (.str [103, 105, 118, 101, 32])) (.call 29 (.cons (.idx (.var 7) (.lit (.int 1))) .nil))) .nil)))))
  .skip)))
  .skip)))
  (.seq (.for (.tp [2, 5]) (.cons (.idx (.var 0) (.lit (.int 3))) .nil)
  (.seq (.ex (.mth .append (.var 1) (.cons (.mth .join (.lit (.str [32])) (.cons (.bin .add (.lst (.cons (.lit (.str [115, 116, 97, 114, 116])) (.cons (.var 2) .nil))) (.blt .list (.cons (.var 5) .nil))) .nil)) .nil)))
  .skip))
  (.seq (.ret (.mth .join (.lit (.str [])) (.cons (.comp [8] (.nm 8) (.cons (.var 1) .nil) .nil (.bin .add (.var 8) (.lit (.str [10])))) .nil)))
  .skip))))⟩
def f_law_text_right : Fn := ⟨1, 2, false, (.seq (.set 1 (.call 8 (.cons (.var 0) .nil)))
  (.seq (.ret (.and (.isi (.var 1) [.str]) (.cmp .eq (.var 1) (.call 32 (.cons (.var 0) .nil)))))
  .skip))⟩
def f_law_mades_right : Fn := ⟨2, 8, false, (.seq (.set 2 (.blt .list (.cons (.idx (.var 1) (.lit (.int 0))) .nil)))
  (.seq (.for (.nm 3) (.cons (.bin .add (.lst (.cons (.lit (.str [84])) (.cons (.lit (.str [85])) .nil))) (.blt .list (.cons (.idx (.var 1) (.lit (.int 1))) .nil))) .nil)
  (.seq (.for (.nm 4) (.cons (.tup (.cons (.lit (.int 0)) (.cons (.call 10 (.cons (.var 0) (.cons (.lit (.int 5)) .nil))) (.cons (.lit (.int 4)) .nil)))) .nil)
  (.seq (.set 5 (.tup (.cons (.blt .tuple (.cons (.comp [7] (.nm 7) (.rng1 (.bin .mul (.var 4) (.blt .min (.cons (.lit (.int 1)) (.cons (.blt .len (.cons (.var 2) .nil)) .nil))))) .nil (.idx (.var 2) (.call 10 (.cons (.var 0) (.cons (.blt .len (.cons (.var 2) .nil)) .nil))))) .nil)) (.cons (.var 3) .nil))))
  (.seq (.set 6 (.call 2 (.cons (.var 5) .nil)))
  (.seq (.ite (.or (.not (.isi (.var 6) [.str])) (.cmp .ne (.var 6) (.call 30 (.cons (.var 5) .nil))))
  (.seq (.ret (.lit (.bl false)))
  .skip)
  .skip)
  .skip))))
  .skip))
  (.seq (.ret (.lit (.bl true)))
  .skip)))⟩
def f_law : Fn := ⟨1, 4, false, (.seq (.set 1 (.call 9 (.cons (.var 0) .nil)))
  (.seq (.for (.nm 2) (.rng1 (.lit (.int 2)))
  (.seq (.set 3 (.call 26 (.cons (.var 1) .nil)))
  (.seq (.ite (.or (.not (.call 34 (.cons (.var 1) (.cons (.var 3) .nil)))) (.not (.call 33 (.cons (.var 3) .nil))))
  (.seq (.ret (.lit (.bl false)))
  .skip)
  .skip)
  (.seq (.ite (.or (.not (.call 33 (.cons (.call 28 (.cons (.var 1) (.cons (.var 3) .nil))) .nil))) (.not (.call 33 (.cons (.var 3) .nil))))
  (.seq (.ret (.lit (.bl false)))
  .skip)
  .skip)
  .skip))))
  (.seq (.ret (.call 33 (.cons (.call 27 (.cons (.var 1) .nil)) .nil)))
  .skip)))⟩
def fs : List Fn := [f_in_brackets, f_expression_text, f_made_text, f_call_text, f_statement_lines, f_statements_lines, f_block_lines, f_function_lines, f_program_text, f_law_sack, f_law_grab, f_law_habit, f_law_taboo, f_law_call_it, f_law_row_of, f_law_shuffled, f_law_many_looks, f_law_outlines, f_law_leaf, f_law_sum, f_law_into, f_law_goal, f_law_statement, f_law_statements, f_law_blocks, f_law_type, f_law_program, f_law_pump, f_law_turned, f_law_spelled, f_law_made, f_law_lines, f_law_written, f_law_text_right, f_law_mades_right, f_law]
end Lw
set_option linter.all false
set_option maxRecDepth 100000
set_option maxHeartbeats 4000000
/-! K4a: expressions and their texts. -/
namespace Lw
open Fb
def br1 (k : Nat) (t : List Nat) : List Nat := if k = 43 ∨ k = 45 then [40] ++ t ++ [41] else t
def br2 (k : Nat) (t : List Nat) : List Nat := if k = 43 ∨ k = 45 ∨ k = 42 then [40] ++ t ++ [41] else t
inductive IsE : D → Nat → List Nat → Nat → Nat → Prop
  | n (i : Int) : 0 ≤ i → i ≤ 1000000000 → IsE (.tup [.str [110], .int i]) 110 (intText i) 1 1
  | v (x : List Nat) : x.length ≤ 8 → IsE (.tup [.str [118], .str x]) 118 x 1 1
  | mul {a b : D} {ka kb : Nat} {ta tb : List Nat} {na nb da db : Nat} : IsE a ka ta na da → IsE b kb tb nb db → IsE (.tup [.str [42], a, b]) 42 (br1 ka ta ++ [32, 42, 32] ++ br2 kb tb) (na + nb) (max da db + 1)
  | add {a b : D} {ka kb : Nat} {ta tb : List Nat} {na nb da db : Nat} (o : Nat) : o = 43 ∨ o = 45 → IsE a ka ta na da → IsE b kb tb nb db → IsE (.tup [.str [o], a, b]) o (ta ++ [32] ++ [o] ++ [32] ++ br1 kb tb) (na + nb) (max da db + 1)
theorem IsE.free {d : D} {k : Nat} {t : List Nat} {n dp : Nat} (h : IsE d k t n dp) : D.free d = true := by
  induction h with
  | n => rfl
  | v => rfl
  | mul _ _ ha hb => simp [D.free, D.frees, ha, hb]
  | add _ _ _ _ ha hb => simp [D.free, D.frees, ha, hb]
theorem digits_core (n f : Nat) : ∀ (m : Nat) (ds : List Char), m < 10 ^ (n + 1) → (Nat.toDigitsCore 10 f m ds).length ≤ n + 1 + ds.length := by
  induction f generalizing n with
  | zero => intro m ds _; simp [Nat.toDigitsCore]
  | succ f ih =>
    intro m ds h
    unfold Nat.toDigitsCore
    simp only
    split
    · simp; omega
    · rename_i hne
      cases n with
      | zero => exact absurd (by omega : m / 10 = 0) hne
      | succ n =>
        have h2 : m / 10 < 10 ^ (n + 1) := by
          rw [Nat.pow_succ] at h
          omega
        have := ih n (m / 10) (Nat.digitChar (m % 10) :: ds) h2
        simp only [List.length_cons] at this
        omega
theorem digits_len (m n : Nat) (h : m < 10 ^ (n + 1)) : (Nat.toDigits 10 m).length ≤ n + 1 := by
  have := digits_core n (m + 1) m [] h
  simpa [Nat.toDigits] using this
theorem intText_len {i : Int} (h0 : 0 ≤ i) (h1 : i ≤ 1000000000) : (intText i).length ≤ 10 := by
  unfold intText
  rw [if_neg (by omega)]
  unfold digitsOf
  rw [List.length_map]
  exact digits_len _ 9 (by omega)
theorem br1_len (k : Nat) (t : List Nat) : (br1 k t).length ≤ t.length + 2 := by
  unfold br1
  split <;> simp
theorem br2_len (k : Nat) (t : List Nat) : (br2 k t).length ≤ t.length + 2 := by
  unfold br2
  split <;> simp
theorem IsE.len {d : D} {k : Nat} {t : List Nat} {n dp : Nat} (h : IsE d k t n dp) : t.length + 7 ≤ 17 * n ∧ 1 ≤ n ∧ 1 ≤ dp := by
  induction h with
  | n i h0 h1 => have := intText_len h0 h1; omega
  | v x h => omega
  | @mul a b ka kb ta tb _ _ _ _ _ _ ha hb =>
    have q1 := br1_len ka ta
    have q2 := br2_len kb tb
    simp only [List.length_append, List.length_cons, List.length_nil]
    omega
  | @add a b ka kb ta tb _ _ _ _ _ _ _ _ ha hb =>
    have q1 := br1_len kb tb
    simp only [List.length_append, List.length_cons, List.length_nil]
    omega
/-- the kinds' first sign -/
theorem IsE.head {d : D} {k : Nat} {t : List Nat} {n dp : Nat} (h : IsE d k t n dp) : ∃ r, d = .tup (.str [k] :: r) := by
  cases h <;> exact ⟨_, rfl⟩
/-- what a def answers, whatever the store -/
def Says (f : M D) (d : D) : Prop := ∀ S, f S = .ok d S
section
variable {fuel l : Nat}
theorem in_sums {d : D} {k : Nat} {t : List Nat} {n dp : Nat} (h : IsE d k t n dp) (hn : n ≤ 1000) (ih : Says (callF fs fuel l 1 [d]) (.str t)) : Says (callF fs fuel (l + 1) 0 [d, .tup [.str [43], .str [45]]]) (.str (br1 k t)) := by
  intro S
  rw [callF_succ (fn := f_in_brackets) rfl rfl]
  have hf := h.free
  have hl := h.len
  obtain ⟨r, rfl⟩ := h.head
  have e1 : ∀ S, callF fs fuel l 1 [.tup (.str [k] :: r)] S = .ok (.str t) S := ih
  refine call_freeE (S' := []) rfl (by simp [D.frees, D.free, hf] at hf ⊢; exact hf) rfl ?_
  by_cases hk : k = 43 ∨ k = 45
  · rcases hk with rfl | rfl <;> simp (disch := (first | decide | assumption | (simp only [List.length_append, List.length_cons, List.length_nil, List.length_map] <;> omega) | omega)) [f_in_brackets, e1, br1]
  · have k1 : ¬ k = 43 := fun z => hk (.inl z)
    have k2 : ¬ k = 45 := fun z => hk (.inr z)
    have k3 : ¬ 43 = k := fun z => k1 z.symm
    have k4 : ¬ 45 = k := fun z => k2 z.symm
    simp (disch := (first | decide | assumption | (simp only [List.length_append, List.length_cons, List.length_nil, List.length_map] <;> omega) | omega)) [f_in_brackets, e1, br1, k1, k2, k3, k4]
theorem in_signed {d : D} {k : Nat} {t : List Nat} {n dp : Nat} (h : IsE d k t n dp) (hn : n ≤ 1000) (ih : Says (callF fs fuel l 1 [d]) (.str t)) : Says (callF fs fuel (l + 1) 0 [d, .tup [.str [43], .str [45], .str [42]]]) (.str (br2 k t)) := by
  intro S
  rw [callF_succ (fn := f_in_brackets) rfl rfl]
  have hf := h.free
  have hl := h.len
  obtain ⟨r, rfl⟩ := h.head
  have e1 : ∀ S, callF fs fuel l 1 [.tup (.str [k] :: r)] S = .ok (.str t) S := ih
  refine call_freeE (S' := []) rfl (by simp [D.frees, D.free, hf] at hf ⊢; exact hf) rfl ?_
  by_cases hk : k = 43 ∨ k = 45 ∨ k = 42
  · rcases hk with rfl | rfl | rfl <;> simp (disch := (first | decide | assumption | (simp only [List.length_append, List.length_cons, List.length_nil, List.length_map] <;> omega) | omega)) [f_in_brackets, e1, br2]
  · have k1 : ¬ k = 43 := fun z => hk (.inl z)
    have k2 : ¬ k = 45 := fun z => hk (.inr (.inl z))
    have k5 : ¬ k = 42 := fun z => hk (.inr (.inr z))
    have k3 : ¬ 43 = k := fun z => k1 z.symm
    have k4 : ¬ 45 = k := fun z => k2 z.symm
    have k6 : ¬ 42 = k := fun z => k5 z.symm
    simp (disch := (first | decide | assumption | (simp only [List.length_append, List.length_cons, List.length_nil, List.length_map] <;> omega) | omega)) [f_in_brackets, e1, br2, k1, k2, k3, k4, k5, k6]
theorem bltStrI {i : Int} {S : Store} (h0 : 0 ≤ i) (h1 : i ≤ 1000000000) : bltD S .str [.int i] = some (.str (intText i)) := by
  have : i.natAbs.log2 < 1920 := by
    have h3 : i.natAbs ≠ 0 → i.natAbs.log2 < 1920 := fun hne => by
      rw [Nat.log2_lt hne]
      exact Nat.lt_of_le_of_lt (show i.natAbs ≤ 2 ^ 30 by omega) (Nat.pow_lt_pow_right (by omega) (by omega))
    by_cases h : i.natAbs = 0
    · rw [h]; decide
    · exact h3 h
  show (if i.natAbs.log2 < 1920 then some (D.str (intText i)) else none) = _
  rw [if_pos this]
theorem bltStrS {x : List Nat} {S : Store} : bltD S .str [.str x] = some (.str x) := rfl
/-- an expression's text -/
theorem text_of {d : D} {k : Nat} {t : List Nat} {n dp : Nat} (h : IsE d k t n dp) (hn : n ≤ 1000) : ∀ {l : Nat}, 2 * dp ≤ l → Says (callF fs fuel l 1 [d]) (.str t) := by
  induction h with
  | n i h0 h1 =>
    intro l hl S
    obtain ⟨l, rfl⟩ : ∃ j, l = j + 1 := ⟨l - 1, by omega⟩
    rw [callF_succ (fn := f_expression_text) rfl rfl]
    refine call_freeE (S' := []) rfl rfl rfl ?_
    simp (disch := (first | decide | assumption | (simp only [List.length_append, List.length_cons, List.length_nil, List.length_map] <;> omega) | omega)) [f_expression_text, bltStrI h0 h1]
  | v x hx =>
    intro l hl S
    obtain ⟨l, rfl⟩ : ∃ j, l = j + 1 := ⟨l - 1, by omega⟩
    rw [callF_succ (fn := f_expression_text) rfl rfl]
    refine call_freeE (S' := []) rfl rfl rfl ?_
    simp (disch := (first | decide | assumption | (simp only [List.length_append, List.length_cons, List.length_nil, List.length_map] <;> omega) | omega)) [f_expression_text, bltStrS]
  | @mul a b ka kb ta tb na nb da db ha hb iha ihb =>
    intro l hl S
    have hz := (IsE.mul ha hb).len
    have h1 := ha.len
    have h2 := hb.len
    obtain ⟨l, rfl⟩ : ∃ j, l = j + 2 := ⟨l - 2, by omega⟩
    rw [callF_succ (fn := f_expression_text) rfl rfl]
    refine call_freeE (S' := []) rfl (by simp [D.frees, D.free, ha.free, hb.free]) rfl ?_
    have e1 := in_sums ha (by omega) (iha (by omega) (l := l) (by omega))
    have e2 := in_signed hb (by omega) (ihb (by omega) (l := l) (by omega))
    have e3 : ∀ S, callF fs fuel (l + 1) 0 [a, .tup [.str [43], .str [45]]] S = .ok (.str (br1 ka ta)) S := e1
    have e4 : ∀ S, callF fs fuel (l + 1) 0 [b, .tup [.str [43], .str [45], .str [42]]] S = .ok (.str (br2 kb tb)) S := e2
    have q1 := br1_len ka ta
    have q2 := br2_len kb tb
    simp (disch := (first | decide | assumption | (simp only [List.length_append, List.length_cons, List.length_nil, List.length_map] <;> omega) | omega)) [f_expression_text, e3, e4]
  | @add a b ka kb ta tb na nb da db o ho ha hb iha ihb =>
    intro l hl S
    have hz := (IsE.add o ho ha hb).len
    have h1 := ha.len
    have h2 := hb.len
    obtain ⟨l, rfl⟩ : ∃ j, l = j + 2 := ⟨l - 2, by omega⟩
    rw [callF_succ (fn := f_expression_text) rfl rfl]
    refine call_freeE (S' := []) rfl (by simp [D.frees, D.free, ha.free, hb.free]) rfl ?_
    have e1 := in_sums hb (by omega) (ihb (by omega) (l := l) (by omega))
    have e3 : ∀ S, callF fs fuel (l + 1) 0 [b, .tup [.str [43], .str [45]]] S = .ok (.str (br1 kb tb)) S := e1
    have e4 : ∀ S, callF fs fuel (l + 1) 1 [a] S = .ok (.str ta) S := iha (by omega) (l := l + 1) (by omega)
    have q1 := br1_len kb tb
    rcases ho with rfl | rfl <;> simp (disch := (first | decide | assumption | (simp only [List.length_append, List.length_cons, List.length_nil, List.length_map] <;> omega) | omega)) [f_expression_text, e3, e4]
theorem kc (k : Nat) : k = 43 ∨ k = 45 ∨ k = 42 ∨ (¬ k = 43 ∧ ¬ k = 45 ∧ ¬ k = 42 ∧ ¬ 43 = k ∧ ¬ 45 = k ∧ ¬ 42 = k) := by omega
/-- .. as the law spells it -/
theorem spell_of {d : D} {k : Nat} {t : List Nat} {n dp : Nat} (h : IsE d k t n dp) (hn : n ≤ 1000) : ∀ {l : Nat}, dp ≤ l → Says (callF fs fuel l 29 [d]) (.str t) := by
  induction h with
  | n i h0 h1 =>
    intro l hl S
    obtain ⟨l, rfl⟩ : ∃ j, l = j + 1 := ⟨l - 1, by omega⟩
    rw [callF_succ (fn := f_law_spelled) rfl rfl]
    refine call_freeE (S' := []) rfl rfl rfl ?_
    simp (disch := (first | decide | assumption | (simp only [List.length_append, List.length_cons, List.length_nil, List.length_map] <;> omega) | omega)) [f_law_spelled, bltStrI h0 h1]
  | v x hx =>
    intro l hl S
    obtain ⟨l, rfl⟩ : ∃ j, l = j + 1 := ⟨l - 1, by omega⟩
    rw [callF_succ (fn := f_law_spelled) rfl rfl]
    refine call_freeE (S' := []) rfl rfl rfl ?_
    simp (disch := (first | decide | assumption | (simp only [List.length_append, List.length_cons, List.length_nil, List.length_map] <;> omega) | omega)) [f_law_spelled, bltStrS]
  | @mul a b ka kb ta tb na nb da db ha hb iha ihb =>
    intro l hl S
    have h1 := ha.len
    have h2 := hb.len
    have hz := (IsE.mul ha hb).len
    obtain ⟨l, rfl⟩ : ∃ j, l = j + 1 := ⟨l - 1, by omega⟩
    rw [callF_succ (fn := f_law_spelled) rfl rfl]
    refine call_freeE (S' := []) rfl (by simp [D.frees, D.free, ha.free, hb.free]) rfl ?_
    have e3 : ∀ S, callF fs fuel l 29 [a] S = .ok (.str ta) S := iha (by omega) (by omega)
    have e4 : ∀ S, callF fs fuel l 29 [b] S = .ok (.str tb) S := ihb (by omega) (by omega)
    obtain ⟨ra, rfl⟩ := ha.head
    obtain ⟨rb, rfl⟩ := hb.head
    have q3 : ta.length + tb.length ≤ 17000 := by omega
    clear ha hb iha ihb hz h1 h2
    rcases kc ka with rfl | rfl | rfl | ⟨a1, a2, a3, a4, a5, a6⟩ <;> rcases kc kb with rfl | rfl | rfl | ⟨b1, b2, b3, b4, b5, b6⟩ <;> simp (disch := (first | decide | assumption | (simp only [List.length_append, List.length_cons, List.length_nil, List.length_map] <;> omega) | omega)) [f_law_spelled, br1, br2, *]
  | @add a b ka kb ta tb na nb da db o ho ha hb iha ihb =>
    intro l hl S
    have h1 := ha.len
    have h2 := hb.len
    have hz := (IsE.add o ho ha hb).len
    obtain ⟨l, rfl⟩ : ∃ j, l = j + 1 := ⟨l - 1, by omega⟩
    rw [callF_succ (fn := f_law_spelled) rfl rfl]
    refine call_freeE (S' := []) rfl (by simp [D.frees, D.free, ha.free, hb.free]) rfl ?_
    have e3 : ∀ S, callF fs fuel l 29 [a] S = .ok (.str ta) S := iha (by omega) (by omega)
    have e4 : ∀ S, callF fs fuel l 29 [b] S = .ok (.str tb) S := ihb (by omega) (by omega)
    obtain ⟨ra, rfl⟩ := ha.head
    obtain ⟨rb, rfl⟩ := hb.head
    have q3 : ta.length + tb.length ≤ 17000 := by omega
    clear ha hb iha ihb hz h1 h2
    rcases kc kb with rfl | rfl | rfl | ⟨b1, b2, b3, b4, b5, b6⟩ <;> rcases ho with rfl | rfl <;> simp (disch := (first | decide | assumption | (simp only [List.length_append, List.length_cons, List.length_nil, List.length_map] <;> omega) | omega)) [f_law_spelled, br1, br2, *]
end
end Lw
set_option linter.all false
set_option maxRecDepth 100000
set_option maxHeartbeats 4000000
/-! K4b: statements and their texts. -/
namespace Lw
open Fb
def cat (ls : List (List Nat)) : List Nat := (ls.map fun l => l ++ [10]).flatten
theorem cat_app (a b : List (List Nat)) : cat (a ++ b) = cat a ++ cat b := by simp [cat]
theorem cat_one (a : List Nat) : cat [a] = a ++ [10] := by simp [cat]
theorem cat_nil : cat [] = [] := rfl
theorem cat_cons (a : List Nat) (r : List (List Nat)) : cat (a :: r) = a ++ [10] ++ cat r := by simp [cat]
theorem cat_flat (lss : List (List (List Nat))) : cat lss.flatten = (lss.map cat).flatten := by
  induction lss with
  | nil => rfl
  | cons a r ih => simp [cat_app, ih]
inductive IsM : D → List Nat → Prop
  | mk (ws : List (List Nat)) (src : List Nat) : ws.length ≤ 8 → (∀ w ∈ ws, w.length ≤ 8) → src.length ≤ 8 → IsM (.tup [.tup (ws.map .str), .str src]) (joinD [32] (ws ++ [src]))
inductive IsEs : List D → List (List Nat) → Prop
  | nil : IsEs [] []
  | cons {d : D} {k : Nat} {t : List Nat} {n dp : Nat} {ds : List D} {ts : List (List Nat)} : IsE d k t n dp → n ≤ 16 → dp ≤ 16 → IsEs ds ts → IsEs (d :: ds) (t :: ts)
theorem IsEs.len {ds : List D} {ts : List (List Nat)} (h : IsEs ds ts) : ds.length = ts.length ∧ ∀ t ∈ ts, t.length ≤ 272 := by
  induction h with
  | nil => exact ⟨rfl, fun t ht => by cases ht⟩
  | cons h1 h2 h3 _ ih =>
    have := h1.len
    refine ⟨by simp [ih.1], fun t ht => ?_⟩
    rcases List.mem_cons.mp ht with e | e
    · rw [e]; omega
    · exact ih.2 t e
theorem IsEs.free {ds : List D} {ts : List (List Nat)} (h : IsEs ds ts) : D.frees ds = true := by
  induction h with
  | nil => rfl
  | cons h1 _ _ _ ih => simp [D.frees, h1.free, ih]
def argT (ts : List (List Nat)) : List Nat := if ts.isEmpty then [] else [32, 58, 32] ++ joinD [44, 32] ts
mutual
inductive IsS : D → List (List Nat) → Nat → Nat → Prop
  | let_ {e : D} {k : Nat} {t : List Nat} {n dp : Nat} (x : List Nat) : x.length ≤ 8 → IsE e k t n dp → n ≤ 16 → dp ≤ 16 → IsS (.tup [.str [108, 101, 116], .str x, e]) [[108, 101, 116, 32] ++ x ++ [32, 61, 32] ++ t] 1 0
  | out {e : D} {k : Nat} {t : List Nat} {n dp : Nat} : IsE e k t n dp → n ≤ 16 → dp ≤ 16 → IsS (.tup [.str [111, 117, 116], e]) [[111, 117, 116, 32] ++ t] 1 0
  | call {m : D} {tm : List Nat} {as : List D} {ts : List (List Nat)} (x f : List Nat) : x.length ≤ 8 → f.length ≤ 8 → IsM m tm → IsEs as ts → as.length ≤ 8 →
      IsS (.tup [.str [99, 97, 108, 108], .str x, .str f, m, .tup as]) [[99, 97, 108, 108, 32] ++ x ++ [32, 61, 32] ++ f ++ [32] ++ tm ++ argT ts] 1 0
  | if_ {a b : D} {ka kb : Nat} {ta tb : List Nat} {na nb da db : Nat} {t e : List D} {lt le : List (List (List Nat))} {ct ce dt de : Nat} : IsE a ka ta na da → na ≤ 16 → da ≤ 16 → IsE b kb tb nb db → nb ≤ 16 → db ≤ 16 → IsSs t lt ct dt → IsSs e le ce de →
      IsS (.tup [.str [105, 102], a, b, .tup t, .tup e]) ([[105, 102, 32] ++ ta ++ [32, 60, 32] ++ tb] ++ lt.flatten ++ (if e.isEmpty then [] else [[101, 108, 115, 101]] ++ le.flatten) ++ [[101, 110, 100]]) (ct + ce + 1) (max dt de + 1)
inductive IsSs : List D → List (List (List Nat)) → Nat → Nat → Prop
  | nil : IsSs [] [] 0 0
  | cons {d : D} {ls : List (List Nat)} {c dp : Nat} {ds : List D} {lss : List (List (List Nat))} {cs dps : Nat} : IsS d ls c dp → IsSs ds lss cs dps → IsSs (d :: ds) (ls :: lss) (c + cs) (max dp dps)
end
theorem IsM.len {m : D} {t : List Nat} (h : IsM m t) : t.length ≤ 81 := by
  cases h with
  | mk ws src h1 h2 h3 =>
    have q := join_len [32] (ws ++ [src])
    have q2 := sum_le (zs := ws) (b := 8) h2
    simp only [List.map_append, List.sum_append, List.map_cons, List.map_nil, List.sum_cons, List.sum_nil, List.length_append, List.length_cons, List.length_nil] at q
    omega
theorem IsM.free {m : D} {t : List Nat} (h : IsM m t) : D.free m = true := by
  cases h with
  | mk ws src => simp [D.free, D.frees, frees_strs]
theorem joinEs_len {ds : List D} {ts : List (List Nat)} (h : IsEs ds ts) (hl : ds.length ≤ 8) : (ts.map (·.length)).sum ≤ 2176 ∧ ts.length ≤ 8 ∧ (joinD [44, 32] ts).length ≤ 2192 := by
  obtain ⟨h1, h2⟩ := h.len
  have q := join_len [44, 32] ts
  have q2 := sum_le (zs := ts) (b := 272) h2
  have q3 : 272 * ts.length ≤ 2176 := by omega
  simp only [List.length_cons, List.length_nil] at q
  omega
theorem argT_len {ds : List D} {ts : List (List Nat)} (h : IsEs ds ts) (hl : ds.length ≤ 8) : (argT ts).length ≤ 2195 := by
  have := joinEs_len h hl
  unfold argT
  split
  · simp
  · simp only [List.length_append, List.length_cons, List.length_nil]; omega
mutual
theorem IsS.free : ∀ {d : D} {ls : List (List Nat)} {c dp : Nat}, IsS d ls c dp → D.free d = true
  | _, _, _, _, .let_ x _ h _ _ => by simp [D.free, D.frees, h.free]
  | _, _, _, _, .out h _ _ => by simp [D.free, D.frees, h.free]
  | _, _, _, _, .call x f _ _ hm hs _ => by simp [D.free, D.frees, hm.free, hs.free]
  | _, _, _, _, .if_ ha _ _ hb _ _ ht he => by simp [D.free, D.frees, ha.free, hb.free, IsSs.free ht, IsSs.free he]
theorem IsSs.free : ∀ {ds : List D} {lss : List (List (List Nat))} {c dp : Nat}, IsSs ds lss c dp → D.frees ds = true
  | _, _, _, _, .nil => rfl
  | _, _, _, _, .cons h hs => by simp [D.frees, IsS.free h, IsSs.free hs]
end
mutual
theorem IsS.len : ∀ {d : D} {ls : List (List Nat)} {c dp : Nat}, IsS d ls c dp → (cat ls).length ≤ 2500 * c ∧ 1 ≤ c ∧ ls.length ≤ 3 * c
  | _, _, _, _, .let_ x hx h h1 h2 => by
    have := h.len
    rw [cat_one]
    simp only [List.length_append, List.length_cons, List.length_nil]
    omega
  | _, _, _, _, .out h h1 h2 => by
    have := h.len
    rw [cat_one]
    simp only [List.length_append, List.length_cons, List.length_nil]
    omega
  | _, _, _, _, .call x f hx hf hm hs hl => by
    have h1 := hm.len
    have h2 := argT_len hs hl
    rw [cat_one]
    simp only [List.length_append, List.length_cons, List.length_nil]
    omega
  | _, _, _, _, .if_ (e := e) ha h1 h2 hb h3 h4 ht he => by
    have q1 := ha.len
    have q2 := hb.len
    have q3 := IsSs.len ht
    have q4 := IsSs.len he
    rw [cat_app, cat_app, cat_app, cat_one, cat_one]
    simp only [List.length_append, List.length_cons, List.length_nil]
    cases e with
    | nil =>
      simp only [List.isEmpty_nil, if_true, cat_nil, List.length_nil]
      omega
    | cons y ys =>
      simp only [List.isEmpty_cons, Bool.false_eq_true, if_false]
      rw [cat_app, cat_one]
      simp only [List.length_append, List.length_cons, List.length_nil]
      cases he with
      | cons h5 h6 =>
        have q5 := IsS.len h5
        omega
theorem IsSs.len : ∀ {ds : List D} {lss : List (List (List Nat))} {c dp : Nat}, IsSs ds lss c dp → (cat lss.flatten).length ≤ 2500 * c ∧ ds.length ≤ c ∧ lss.flatten.length ≤ 3 * c ∧ ds.length = lss.length
  | _, _, _, _, .nil => by simp [cat_nil]
  | _, _, _, _, .cons h hs => by
    have h1 := IsS.len h
    have h2 := IsSs.len hs
    simp only [List.flatten_cons, cat_app, List.length_append, List.length_cons, List.length_nil, Nat.mul_add]
    omega
end
section
variable {fuel : Nat}
theorem made_of {m : D} {t : List Nat} (h : IsM m t) {l : Nat} (hl : 1 ≤ l) : Says (callF fs fuel l 2 [m]) (.str t) := by
  intro S
  obtain ⟨l, rfl⟩ : ∃ j, l = j + 1 := ⟨l - 1, by omega⟩
  rw [callF_succ (fn := f_made_text) rfl rfl]
  have hf := h.free
  cases h with
  | mk ws src h1 h2 h3 =>
    refine call_freeE (S' := []) rfl (by simp [D.frees, hf]) rfl ?_
    have q2 := sum_le (zs := ws) (b := 8) h2
    have ej := join_seq (S := []) (s := [32]) (d := .tup (ws.map .str ++ [.str src])) (ws ++ [src]) rfl (by simp) (by
      simp only [List.map_append, List.sum_append, List.map_cons, List.map_nil, List.sum_cons, List.sum_nil, List.length_append, List.length_cons, List.length_nil]
      omega)
    simp (disch := (first | decide | assumption | (simp only [List.length_append, List.length_cons, List.length_nil, List.length_map] <;> omega) | omega)) [f_made_text, recvOk, ej]
theorem lmade_of {m : D} {t : List Nat} (h : IsM m t) {l : Nat} (hl : 1 ≤ l) : Says (callF fs fuel l 30 [m]) (.str t) := by
  intro S
  obtain ⟨l, rfl⟩ : ∃ j, l = j + 1 := ⟨l - 1, by omega⟩
  rw [callF_succ (fn := f_law_made) rfl rfl]
  have hf := h.free
  cases h with
  | mk ws src h1 h2 h3 =>
    refine call_freeE (S' := []) rfl (by simp [D.frees, hf]) rfl ?_
    have q2 := sum_le (zs := ws) (b := 8) h2
    have ej := join_seq (S := []) (s := [32]) (d := .lst (ws.map .str ++ [.str src])) (ws ++ [src]) rfl (by simp) (by
      simp only [List.map_append, List.sum_append, List.map_cons, List.map_nil, List.sum_cons, List.sum_nil, List.length_append, List.length_cons, List.length_nil]
      omega)
    simp (disch := (first | decide | assumption | (simp only [List.length_append, List.length_cons, List.length_nil, List.length_map] <;> omega) | omega)) [f_law_made, recvOk, ej, bltD, seqOf]
/-- the texts of a row of expressions, by a comprehension over slot i -/
theorem es_all {f i : Nat} {C : Cf} {σ : Ev} {as : List D} {ts : List (List Nat)} (h : IsEs as ts) (hf : ∀ d k t n dp, IsE d k t n dp → n ≤ 16 → dp ≤ 16 → ∀ S, C.call f [d] S = .ok (.str t) S) (hi : i < σ.length) :
    All2 (fun x y => ∀ S, elG C [i] (.nm i) .nil (.call f (.cons (.var i) .nil)) σ x S = .ok (some y) S) as (ts.map .str) := by
  induction h with
  | nil => exact .nil
  | cons h1 h2 h3 _ ih =>
    refine .cons (fun S => el_nm ?_) ih
    have := hf _ _ _ _ _ h1 h2 h3 S
    simp [wipe_length, hi, this]
theorem call_text_of {m : D} {tm : List Nat} {as : List D} {ts : List (List Nat)} {x f : List Nat} (hx : x.length ≤ 8) (hf : f.length ≤ 8) (hm : IsM m tm) (hs : IsEs as ts) (hn : as.length ≤ 8) {l : Nat} (hl : 34 ≤ l) :
    Says (callF fs fuel l 3 [.tup [.str [99, 97, 108, 108], .str x, .str f, m, .tup as]]) (.str ([99, 97, 108, 108, 32] ++ x ++ [32, 61, 32] ++ f ++ [32] ++ tm ++ argT ts ++ [10])) := by
  intro S
  obtain ⟨l, rfl⟩ : ∃ j, l = j + 1 := ⟨l - 1, by omega⟩
  rw [callF_succ (fn := f_call_text) rfl rfl]
  refine call_freeE (S' := []) rfl (by simp [D.frees, D.free, hm.free, hs.free]) rfl ?_
  have e1 : ∀ S, callF fs fuel l 2 [m] S = .ok (.str tm) S := made_of hm (by omega)
  have q1 := hm.len
  have q2 := joinEs_len hs hn
  have q4 := hs.len
  have hc : ∀ (σ : Ev) (S : Store), 7 < σ.length → compM (elG ⟨callF fs fuel l, fuel⟩ [7] (.nm 7) .nil (.call 1 (.cons (.var 7) .nil)) σ) as 0 S = .ok (ts.map .str) S := fun σ S hi =>
    compM_all (es_all hs (fun d k t n dp h1 h2 h3 S => text_of h1 (by omega) (by omega) S) hi) (by omega)
  have ej := join_seq (S := []) (s := [44, 32]) (d := .lst (ts.map .str)) ts rfl rfl (by simp only [List.length_cons, List.length_nil]; omega)
  cases hs with
  | nil => simp (disch := (first | decide | assumption | (simp only [List.length_append, List.length_cons, List.length_nil, List.length_map] <;> omega) | omega)) [f_call_text, e1, argT]
  | cons h1 h2 h3 h4 =>
    simp only [List.map_cons] at ej hc
    simp (disch := (first | decide | assumption | (simp only [List.length_append, List.length_cons, List.length_nil, List.length_map] <;> omega) | omega)) [f_call_text, e1, argT, x_comp2, -x_comp, srcD, compS, hc, recvOk, ej]
end
end Lw
set_option linter.all false
set_option maxRecDepth 100000
set_option maxHeartbeats 4000000
/-! K4c: the program's text. -/
namespace Lw
open Fb
section
variable {fuel : Nat}
theorem ss_call {ds : List D} {lss : List (List (List Nat))} {c dp l : Nat} (hs : IsSs ds lss c dp) (hc : c ≤ 1000) (h : All2 (fun d ls => ∀ S, callF fs fuel l 4 [d] S = .ok (.str (cat ls)) S) ds lss) : Says (callF fs fuel (l + 1) 5 [.tup ds]) (.str (cat lss.flatten)) := by
  intro S
  rw [callF_succ (fn := f_statements_lines) rfl rfl]
  refine call_freeE (S' := []) rfl (by simp [D.frees, D.free, hs.free]) rfl ?_
  have q := hs.len
  have ha : ∀ (σ : Ev), 1 < σ.length → All2 (fun x y => ∀ S, elG ⟨callF fs fuel l, fuel⟩ [1] (.nm 1) .nil (.call 4 (.cons (.var 1) .nil)) σ x S = .ok (some y) S) ds ((lss.map cat).map .str) := fun σ hi => by
    clear hs hc q
    induction h with
    | nil => exact .nil
    | cons h1 _ ih =>
      refine .cons (fun S => el_nm ?_) ih
      simp [wipe_length, hi, h1]
  have hcomp : ∀ (σ : Ev) (S : Store), 1 < σ.length → compM (elG ⟨callF fs fuel l, fuel⟩ [1] (.nm 1) .nil (.call 4 (.cons (.var 1) .nil)) σ) ds 0 S = .ok ((lss.map cat).map .str) S := fun σ S hi => compM_all (ha σ hi) (by omega)
  have hsum : ((lss.map cat).map (·.length)).sum = (cat lss.flatten).length := by
    rw [cat_flat, List.length_flatten]
  have ej := join_seq (S := []) (s := []) (d := .lst ((lss.map cat).map .str)) (lss.map cat) rfl rfl (by rw [hsum]; simp only [List.length_nil]; omega)
  rw [join_nil, ← cat_flat] at ej
  rw [List.map_map] at hcomp ej
  simp (disch := (first | decide | assumption | (simp only [List.length_append, List.length_cons, List.length_nil, List.length_map] <;> omega) | omega)) [f_statements_lines, x_comp2, -x_comp, srcD, compS, hcomp, recvOk, ej]
mutual
theorem sl_of : ∀ {d : D} {ls : List (List Nat)} {c dp : Nat}, IsS d ls c dp → c ≤ 1000 → ∀ {l : Nat}, 2 * dp + 36 ≤ l → ∀ S, callF fs fuel l 4 [d] S = .ok (.str (cat ls)) S
  | _, _, _, _, .let_ (e := e) (t := t) x hx h h1 h2, hc, l, hl, S => by
    obtain ⟨l, rfl⟩ : ∃ j, l = j + 1 := ⟨l - 1, by omega⟩
    rw [callF_succ (fn := f_statement_lines) rfl rfl]
    refine call_freeE (S' := []) rfl (by simp [D.frees, D.free, h.free]) rfl ?_
    have e1 : ∀ S, callF fs fuel l 1 [e] S = .ok (.str t) S := text_of h (by omega) (by omega)
    have q := h.len
    simp (disch := (first | decide | assumption | (simp only [List.length_append, List.length_cons, List.length_nil, List.length_map] <;> omega) | omega)) [f_statement_lines, e1, cat]
  | _, _, _, _, .out (e := e) (t := t) h h1 h2, hc, l, hl, S => by
    obtain ⟨l, rfl⟩ : ∃ j, l = j + 1 := ⟨l - 1, by omega⟩
    rw [callF_succ (fn := f_statement_lines) rfl rfl]
    refine call_freeE (S' := []) rfl (by simp [D.frees, D.free, h.free]) rfl ?_
    have e1 : ∀ S, callF fs fuel l 1 [e] S = .ok (.str t) S := text_of h (by omega) (by omega)
    have q := h.len
    simp (disch := (first | decide | assumption | (simp only [List.length_append, List.length_cons, List.length_nil, List.length_map] <;> omega) | omega)) [f_statement_lines, e1, cat]
  | _, _, _, _, .call (m := m) (tm := tm) (as := as) (ts := ts) x f hx hf hm hs hn, hc, l, hl, S => by
    obtain ⟨l, rfl⟩ : ∃ j, l = j + 1 := ⟨l - 1, by omega⟩
    rw [callF_succ (fn := f_statement_lines) rfl rfl]
    refine call_freeE (S' := []) rfl (by simp [D.frees, D.free, hm.free, hs.free]) rfl ?_
    have e1 : ∀ S, callF fs fuel l 3 [.tup [.str [99, 97, 108, 108], .str x, .str f, m, .tup as]] S = .ok (.str ([99, 97, 108, 108, 32] ++ x ++ [32, 61, 32] ++ f ++ [32] ++ tm ++ argT ts ++ [10])) S := call_text_of hx hf hm hs hn (by omega)
    simp (disch := (first | decide | assumption | (simp only [List.length_append, List.length_cons, List.length_nil, List.length_map] <;> omega) | omega)) [f_statement_lines, e1, cat]
  | _, _, _, _, .if_ (a := a) (b := b) (ta := ta) (tb := tb) (t := t) (e := e) (lt := lt) (le := le) ha h1 h2 hb h3 h4 ht he, hc, l, hl, S => by
    obtain ⟨l, rfl⟩ : ∃ j, l = j + 2 := ⟨l - 2, by omega⟩
    rw [callF_succ (fn := f_statement_lines) rfl rfl]
    refine call_freeE (S' := []) rfl (by simp [D.frees, D.free, ha.free, hb.free, ht.free, he.free]) rfl ?_
    have e1 : ∀ S, callF fs fuel (l + 1) 1 [a] S = .ok (.str ta) S := text_of ha (by omega) (by omega)
    have e2 : ∀ S, callF fs fuel (l + 1) 1 [b] S = .ok (.str tb) S := text_of hb (by omega) (by omega)
    have e3 : ∀ S, callF fs fuel (l + 1) 5 [.tup t] S = .ok (.str (cat lt.flatten)) S := ss_call ht (by omega) (ssl_of ht (by omega) (by omega))
    have e4 : ∀ S, callF fs fuel (l + 1) 5 [.tup e] S = .ok (.str (cat le.flatten)) S := ss_call he (by omega) (ssl_of he (by omega) (by omega))
    have q1 := ha.len
    have q2 := hb.len
    have q3 := ht.len
    have q4 := he.len
    rw [cat_app, cat_app, cat_app, cat_one, cat_one]
    generalize hx1 : cat lt.flatten = T1 at *
    cases e with
    | nil => simp (disch := (first | decide | assumption | (simp only [List.length_append, List.length_cons, List.length_nil, List.length_map] <;> omega) | omega)) [f_statement_lines, e1, e2, e3, cat_nil]
    | cons y ys =>
      simp only [List.isEmpty_cons, Bool.false_eq_true, if_false]
      rw [cat_app, cat_one]
      generalize hx2 : cat le.flatten = T2 at *
      simp (disch := (first | decide | assumption | (simp only [List.length_append, List.length_cons, List.length_nil, List.length_map] <;> omega) | omega)) [f_statement_lines, e1, e2, e3, e4]
theorem ssl_of : ∀ {ds : List D} {lss : List (List (List Nat))} {c dp : Nat}, IsSs ds lss c dp → c ≤ 1000 → ∀ {l : Nat}, 2 * dp + 36 ≤ l → All2 (fun d ls => ∀ S, callF fs fuel l 4 [d] S = .ok (.str (cat ls)) S) ds lss
  | _, _, _, _, .nil, _, _, _ => .nil
  | _, _, _, _, .cons h hs, hc, l, hl => .cons (sl_of h (by omega) (by omega)) (ssl_of hs (by omega) (by omega))
end
theorem ss_text {ds : List D} {lss : List (List (List Nat))} {c dp : Nat} (hs : IsSs ds lss c dp) (hc : c ≤ 1000) {l : Nat} (hl : 2 * dp + 37 ≤ l) : ∀ S, callF fs fuel l 5 [.tup ds] S = .ok (.str (cat lss.flatten)) S := by
  obtain ⟨l, rfl⟩ : ∃ j, l = j + 1 := ⟨l - 1, by omega⟩
  exact ss_call hs hc (ssl_of hs hc (by omega))
end
/-! ### blocks, functions, programs -/
def hdL (head : List Nat) : List (List Nat) := if head = [45] then [] else [[99, 97, 115, 101, 32] ++ head]
inductive IsCs : List D → List (List Nat) → Nat → Prop
  | nil : IsCs [] [] 0
  | cons {ss : List D} {lss : List (List (List Nat))} {c0 dp0 : Nat} {e : D} {k : Nat} {t : List Nat} {n dp : Nat} {ds : List D} {ls : List (List Nat)} {c : Nat} (head : List Nat) : head.length ≤ 8 → IsSs ss lss c0 dp0 → dp0 ≤ 8 → IsE e k t n dp → n ≤ 16 → dp ≤ 16 → IsCs ds ls c →
      IsCs (.tup [.str head, .tup [.tup ss, e]] :: ds) (hdL head ++ lss.flatten ++ [[103, 105, 118, 101, 32] ++ t] ++ ls) (c0 + c)
def funL (name : List Nat) (ps : List (List Nat)) : List Nat := joinD [32] ([102, 117, 110] :: name :: ps)
inductive IsFs : List D → List (List Nat) → Nat → Prop
  | nil : IsFs [] [] 0
  | cons {cs : List D} {ls : List (List Nat)} {c : Nat} {ds : List D} {ls2 : List (List Nat)} {c2 : Nat} (name : List Nat) (ps : List (List Nat)) : name.length ≤ 8 → ps.length ≤ 8 → (∀ p ∈ ps, p.length ≤ 8) → IsCs cs ls c → cs.length ≤ 16 ∧ 1 ≤ cs.length → IsFs ds ls2 c2 →
      IsFs (.tup [.str name, .tup (ps.map .str), .tup cs] :: ds) (funL name ps :: (ls ++ ls2)) (c + c2)
def staL (name : List Nat) (ns : List (List Nat)) : List Nat := joinD [32] ([115, 116, 97, 114, 116] :: name :: ns)
inductive IsTs : List D → List (List Nat) → Prop
  | nil : IsTs [] []
  | cons {ds : List D} {ls : List (List Nat)} (name : List Nat) (ns : List (List Nat)) : name.length ≤ 8 → ns.length ≤ 64 → (∀ p ∈ ns, p.length ≤ 8) → IsTs ds ls → IsTs (.tup [.str name, .tup (ns.map .str)] :: ds) (staL name ns :: ls)
inductive IsP : D → List (List Nat) → Prop
  | mk {fs ts : List D} {lf lt : List (List Nat)} {c : Nat} (ws gs : List (List Nat)) : ws.length ≤ 16 → (∀ p ∈ ws, p.length ≤ 8) → gs.length ≤ 16 → (∀ p ∈ gs, p.length ≤ 8) → IsFs fs lf c → c ≤ 1000 → fs.length ≤ 16 → IsTs ts lt → ts.length ≤ 16 →
      IsP (.tup [.tup (ws.map .str), .tup (gs.map .str), .tup fs, .tup ts]) (joinD [32] ([119, 114, 97, 112, 115] :: ws) :: joinD [32] ([103, 114, 111, 117, 110, 100, 115] :: gs) :: (lf ++ lt))
theorem IsCs.free {ds : List D} {ls : List (List Nat)} {c : Nat} (h : IsCs ds ls c) : D.frees ds = true := by
  induction h with
  | nil => rfl
  | cons head _ h1 _ h2 _ _ _ ih => simp [D.frees, D.free, h1.free, h2.free, ih]
theorem IsFs.free {ds : List D} {ls : List (List Nat)} {c : Nat} (h : IsFs ds ls c) : D.frees ds = true := by
  induction h with
  | nil => rfl
  | cons name ps _ _ _ h1 _ _ ih => simp [D.frees, D.free, h1.free, frees_strs, ih]
theorem IsTs.free {ds : List D} {ls : List (List Nat)} (h : IsTs ds ls) : D.frees ds = true := by
  induction h with
  | nil => rfl
  | cons name ps _ _ _ _ ih => simp [D.frees, D.free, frees_strs, ih]
theorem IsP.free {d : D} {ls : List (List Nat)} (h : IsP d ls) : D.free d = true := by
  cases h with
  | mk ws gs _ _ _ _ h1 _ _ h2 _ => simp [D.frees, D.free, frees_strs, h1.free, h2.free]
theorem hdL_len (head : List Nat) (h : head.length ≤ 8) : (cat (hdL head)).length ≤ 14 ∧ (hdL head).length ≤ 1 := by
  unfold hdL
  split
  · simp [cat_nil]
  · simp only [cat_one, List.length_append, List.length_cons, List.length_nil]; omega
theorem IsCs.len {ds : List D} {ls : List (List Nat)} {c : Nat} (h : IsCs ds ls c) : (cat ls).length ≤ 2500 * c + 320 * ds.length ∧ ls.length ≤ 3 * c + 2 * ds.length := by
  induction h with
  | nil => simp [cat_nil]
  | cons head hh h1 _ h2 _ _ _ ih =>
    have q1 := h1.len
    have q2 := h2.len
    have q3 := hdL_len head hh
    rw [cat_app, cat_app, cat_app, cat_one]
    simp only [List.length_append, List.length_cons, List.length_nil, Nat.mul_add]
    omega
theorem joinN_len (a : List Nat) (ns : List (List Nat)) (h : ∀ p ∈ ns, p.length ≤ 8) : ((a :: ns).map (·.length)).sum + (a :: ns).length * 1 ≤ a.length + 9 * ns.length + 1 := by
  have := sum_le h
  simp only [List.map_cons, List.sum_cons, List.length_cons]
  omega
theorem funL_len (name : List Nat) (ps : List (List Nat)) (h0 : name.length ≤ 8) (h : ∀ p ∈ ps, p.length ≤ 8) : (([102, 117, 110] :: name :: ps).map (·.length)).sum + ([102, 117, 110] :: name :: ps).length * 1 ≤ 13 + 9 * ps.length ∧ (funL name ps).length ≤ 13 + 9 * ps.length := by
  have h2 := join_len [32] ([102, 117, 110] :: name :: ps)
  have := sum_le h
  unfold funL
  simp only [List.map_cons, List.sum_cons, List.length_cons, List.length_nil] at h2 ⊢
  omega
theorem staL_len (name : List Nat) (ps : List (List Nat)) (h0 : name.length ≤ 8) (h : ∀ p ∈ ps, p.length ≤ 8) : (([115, 116, 97, 114, 116] :: name :: ps).map (·.length)).sum + ([115, 116, 97, 114, 116] :: name :: ps).length * 1 ≤ 15 + 9 * ps.length ∧ (staL name ps).length ≤ 15 + 9 * ps.length := by
  have h2 := join_len [32] ([115, 116, 97, 114, 116] :: name :: ps)
  have := sum_le h
  unfold staL
  simp only [List.map_cons, List.sum_cons, List.length_cons, List.length_nil] at h2 ⊢
  omega
theorem IsFs.len {ds : List D} {ls : List (List Nat)} {c : Nat} (h : IsFs ds ls c) : (cat ls).length ≤ 2500 * c + 6000 * ds.length ∧ ls.length ≤ 3 * c + 40 * ds.length := by
  induction h with
  | nil => simp [cat_nil]
  | cons name ps hn hp hq h1 h2 _ ih =>
    have q1 := h1.len
    have q2 := (funL_len name ps hn hq).2
    rw [cat_cons, cat_app]
    simp only [List.length_append, List.length_cons, List.length_nil, Nat.mul_add]
    omega
theorem IsTs.len {ds : List D} {ls : List (List Nat)} (h : IsTs ds ls) : (cat ls).length ≤ 1000 * ds.length ∧ ls.length = ds.length := by
  induction h with
  | nil => simp [cat_nil]
  | cons name ps hn hp hq _ ih =>
    have q2 := (staL_len name ps hn hq).2
    rw [cat_cons]
    simp only [List.length_append, List.length_cons, List.length_nil, Nat.mul_add]
    omega
end Lw
set_option linter.all false
set_option maxRecDepth 100000
set_option maxHeartbeats 4000000
/-! K4d: the program's text, by the program. -/
namespace Lw
open Fb
section
variable {fuel : Nat}
theorem block_of {ss : List D} {lss : List (List (List Nat))} {c dp : Nat} {e : D} {k : Nat} {t : List Nat} {n de : Nat} (hs : IsSs ss lss c dp) (hc : c ≤ 1000) (hd : dp ≤ 8) (he : IsE e k t n de) (hn : n ≤ 16) (hde : de ≤ 16) {l : Nat} (hl : 60 ≤ l) :
    ∀ S, callF fs fuel l 6 [.tup [.tup ss, e]] S = .ok (.str (cat (lss.flatten ++ [[103, 105, 118, 101, 32] ++ t]))) S := by
  intro S
  obtain ⟨l, rfl⟩ : ∃ j, l = j + 1 := ⟨l - 1, by omega⟩
  rw [callF_succ (fn := f_block_lines) rfl rfl]
  refine call_freeE (S' := []) rfl (by simp [D.frees, D.free, hs.free, he.free]) rfl ?_
  have e1 : ∀ S, callF fs fuel l 1 [e] S = .ok (.str t) S := text_of he (by omega) (by omega)
  have e2 : ∀ S, callF fs fuel l 5 [.tup ss] S = .ok (.str (cat lss.flatten)) S := ss_text hs hc (by omega)
  have q1 := hs.len
  have q2 := he.len
  rw [cat_app, cat_one]
  generalize cat lss.flatten = T1 at *
  simp (disch := (first | decide | assumption | (simp only [List.length_append, List.length_cons, List.length_nil, List.length_map] <;> omega) | omega)) [f_block_lines, e1, e2]
abbrev cBody : IS := (.seq (.set 1 (.bin .add (.bin .add (.var 1) (.ite (.cmp .eq (.var 2) (.lit (.str [45]))) (.lit (.str [])) (.bin .add (.bin .add (.lit (.str [99, 97, 115, 101, 32])) (.var 2)) (.lit (.str [10]))))) (.call 6 (.cons (.var 3) .nil))))
  .skip)
theorem cases_loop {l : Nat} (hl : 60 ≤ l) {ds : List D} {ls : List (List Nat)} {c : Nat} (h : IsCs ds ls c) (hc : c ≤ 1000) : ∀ (F : Option D) (told : List Nat) (a b : Option D) (S : Store), told.length + 2500 * c + 320 * ds.length ≤ 16000000 →
    ∃ a' b', forL (patB (.tp [2, 3]) fun σ' => exS ⟨callF fs fuel l, fuel⟩ cBody σ') ds [F, some (.str told), a, b] S = .ok (.nx [F, some (.str (told ++ cat ls)), a', b']) S := by
  induction h with
  | nil =>
    intro F told a b S _
    exact ⟨a, b, by rw [forL_nil, cat_nil, List.append_nil]⟩
  | @cons ss lss c0 dp0 e k t n dp ds ls c head hh h1 hd h2 hn hdp h3 ih =>
    intro F told a b S hz
    have e1 : ∀ S, callF fs fuel l 6 [.tup [.tup ss, e]] S = .ok (.str (cat (lss.flatten ++ [[103, 105, 118, 101, 32] ++ t]))) S := block_of h1 (by omega) hd h2 hn hdp hl
    have q1 := h1.len
    have q2 := h2.len
    have q3 := hdL_len head hh
    have q4 : (cat (lss.flatten ++ [[103, 105, 118, 101, 32] ++ t])).length ≤ 2500 * c0 + 300 := by
      rw [cat_app, cat_one]
      simp only [List.length_append, List.length_cons, List.length_nil]
      omega
    have step : patB (.tp [2, 3]) (fun σ' => exS ⟨callF fs fuel l, fuel⟩ cBody σ') (.tup [.str head, .tup [.tup ss, e]]) [F, some (.str told), a, b] S = .ok (.nx [F, some (.str (told ++ cat (hdL head) ++ cat (lss.flatten ++ [[103, 105, 118, 101, 32] ++ t]))), some (.str head), some (.tup [.tup ss, e])]) S := by
      simp only [List.length_cons, Nat.mul_add] at hz
      generalize cat (lss.flatten ++ [[103, 105, 118, 101, 32] ++ t]) = T at *
      by_cases hd : head = [45]
      · subst hd
        simp (disch := (first | decide | assumption | (simp only [List.length_append, List.length_cons, List.length_nil, List.length_map] <;> omega) | omega)) [cBody, e1, hdL, cat_nil]
      · simp (disch := (first | decide | assumption | (simp only [List.length_append, List.length_cons, List.length_nil, List.length_map] <;> omega) | omega)) [cBody, e1, hdL, cat_one, hd]
    rw [forL_nx step]
    simp only [List.length_cons, Nat.mul_add] at hz
    have hz2 : (told ++ cat (hdL head) ++ cat (lss.flatten ++ [[103, 105, 118, 101, 32] ++ t])).length + 2500 * c + 320 * ds.length ≤ 16000000 := by
      simp only [List.length_append] at q4 ⊢
      omega
    obtain ⟨a', b', h4⟩ := ih (by omega) F (told ++ cat (hdL head) ++ cat (lss.flatten ++ [[103, 105, 118, 101, 32] ++ t])) (some (.str head)) (some (.tup [.tup ss, e])) S hz2
    refine ⟨a', b', ?_⟩
    rw [h4]
    simp only [cat_app, List.append_assoc]
theorem fun_of {name : List Nat} {ps : List (List Nat)} {cs : List D} {ls : List (List Nat)} {c : Nat} (hn : name.length ≤ 8) (hp : ps.length ≤ 8) (hq : ∀ p ∈ ps, p.length ≤ 8) (h : IsCs cs ls c) (hl2 : cs.length ≤ 16) (hc : c ≤ 1000) {l : Nat} (hl : 61 ≤ l) :
    ∀ S, callF fs fuel l 7 [.tup [.str name, .tup (ps.map .str), .tup cs]] S = .ok (.str (funL name ps ++ [10] ++ cat ls)) S := by
  intro S
  obtain ⟨l, rfl⟩ : ∃ j, l = j + 1 := ⟨l - 1, by omega⟩
  rw [callF_succ (fn := f_function_lines) rfl rfl]
  refine call_freeE (S' := []) rfl (by simp [D.frees, D.free, frees_strs, h.free]) rfl ?_
  obtain ⟨q1, q2⟩ := funL_len name ps hn hq
  have ej := join_seq (S := []) (s := [32]) (d := .tup (.str [102, 117, 110] :: .str name :: ps.map .str)) ([102, 117, 110] :: name :: ps) rfl rfl (by simp only [List.length_cons, List.length_nil] at q1 ⊢; omega)
  obtain ⟨a', b', e3⟩ := cases_loop (fuel := fuel) (l := l) (by omega) h hc (some (.tup [.str name, .tup (ps.map .str), .tup cs])) (funL name ps ++ [10]) none none [] (by simp only [List.length_append, List.length_cons, List.length_nil]; omega)
  have ej2 : mthD [] .join (.str [32]) [.tup (.str [102, 117, 110] :: .str name :: ps.map .str)] = some (.str (funL name ps), []) := ej
  simp only [List.append_assoc, List.cons_append, List.nil_append] at e3 ⊢
  simp (disch := (first | decide | assumption | (simp only [List.length_append, List.length_cons, List.length_nil, List.length_map] <;> omega) | omega)) [f_function_lines, recvOk, ej2, srcD, e3]
abbrev pBody1 : IS := (.seq (.set 1 (.bin .add (.var 1) (.call 7 (.cons (.var 2) .nil))))
  .skip)
theorem funs_loop {l : Nat} (hl : 61 ≤ l) {ds : List D} {ls : List (List Nat)} {c : Nat} (h : IsFs ds ls c) (hc : c ≤ 1000) : ∀ (F : Option D) (told : List Nat) (a b d : Option D) (S : Store), told.length + 2500 * c + 6000 * ds.length ≤ 16000000 →
    ∃ a', forL (patB (.nm 2) fun σ' => exS ⟨callF fs fuel l, fuel⟩ pBody1 σ') ds [F, some (.str told), a, b, d] S = .ok (.nx [F, some (.str (told ++ cat ls)), a', b, d]) S := by
  induction h with
  | nil =>
    intro F told a b d S _
    exact ⟨a, by rw [forL_nil, cat_nil, List.append_nil]⟩
  | @cons cs ls c ds ls2 c2 name ps hn hp hq h1 h2 h3 ih =>
    intro F told a b d S hz
    have e1 : ∀ S, callF fs fuel l 7 [.tup [.str name, .tup (ps.map .str), .tup cs]] S = .ok (.str (funL name ps ++ [10] ++ cat ls)) S := fun_of hn hp hq h1 h2.1 (by omega) hl
    have q1 := h1.len
    have q2 := (funL_len name ps hn hq).2
    have q4 : (funL name ps ++ [10] ++ cat ls).length ≤ 2500 * c + 6000 := by
      simp only [List.length_append, List.length_cons, List.length_nil]
      omega
    simp only [List.length_cons, Nat.mul_add] at hz
    have step : patB (.nm 2) (fun σ' => exS ⟨callF fs fuel l, fuel⟩ pBody1 σ') (.tup [.str name, .tup (ps.map .str), .tup cs]) [F, some (.str told), a, b, d] S = .ok (.nx [F, some (.str (told ++ (funL name ps ++ [10] ++ cat ls))), some (.tup [.str name, .tup (ps.map .str), .tup cs]), b, d]) S := by
      generalize funL name ps ++ [10] ++ cat ls = T at *
      simp (disch := (first | decide | assumption | (simp only [List.length_append, List.length_cons, List.length_nil, List.length_map] <;> omega) | omega)) [pBody1, e1]
    rw [forL_nx step]
    have hz2 : (told ++ (funL name ps ++ [10] ++ cat ls)).length + 2500 * c2 + 6000 * ds.length ≤ 16000000 := by
      rw [List.length_append]
      omega
    obtain ⟨a', h4⟩ := ih (by omega) F (told ++ (funL name ps ++ [10] ++ cat ls)) (some (.tup [.str name, .tup (ps.map .str), .tup cs])) b d S hz2
    refine ⟨a', ?_⟩
    rw [h4, cat_cons, cat_app]
    simp only [List.append_assoc]
abbrev pBody2 : IS := (.seq (.set 1 (.bin .add (.bin .add (.var 1) (.mth .join (.lit (.str [32])) (.cons (.bin .add (.tup (.cons (.lit (.str [115, 116, 97, 114, 116])) (.cons (.var 3) .nil))) (.var 4)) .nil))) (.lit (.str [10]))))
  .skip)
theorem starts_loop {l : Nat} {ds : List D} {ls : List (List Nat)} (h : IsTs ds ls) : ∀ (F : Option D) (told : List Nat) (a b d : Option D) (S : Store), told.length + 1000 * ds.length ≤ 16000000 →
    ∃ b' d', forL (patB (.tp [3, 4]) fun σ' => exS ⟨callF fs fuel l, fuel⟩ pBody2 σ') ds [F, some (.str told), a, b, d] S = .ok (.nx [F, some (.str (told ++ cat ls)), a, b', d']) S := by
  induction h with
  | nil =>
    intro F told a b d S _
    exact ⟨b, d, by rw [forL_nil, cat_nil, List.append_nil]⟩
  | @cons ds ls name ns hn hp hq h3 ih =>
    intro F told a b d S hz
    obtain ⟨q1, q2⟩ := staL_len name ns hn hq
    have ej : mthD S .join (.str [32]) [.tup (.str [115, 116, 97, 114, 116] :: .str name :: ns.map .str)] = some (.str (staL name ns), S) :=
      join_seq (S := S) (s := [32]) (d := .tup (.str [115, 116, 97, 114, 116] :: .str name :: ns.map .str)) ([115, 116, 97, 114, 116] :: name :: ns) rfl rfl (by simp only [List.length_cons, List.length_nil] at q1 ⊢; omega)
    simp only [List.length_cons, Nat.mul_add] at hz
    have step : patB (.tp [3, 4]) (fun σ' => exS ⟨callF fs fuel l, fuel⟩ pBody2 σ') (.tup [.str name, .tup (ns.map .str)]) [F, some (.str told), a, b, d] S = .ok (.nx [F, some (.str (told ++ staL name ns ++ [10])), a, some (.str name), some (.tup (ns.map .str))]) S := by
      generalize staL name ns = T at *
      simp (disch := (first | decide | assumption | (simp only [List.length_append, List.length_cons, List.length_nil, List.length_map] <;> omega) | omega)) [pBody2, recvOk, ej]
    rw [forL_nx step]
    obtain ⟨b', d', h4⟩ := ih F (told ++ staL name ns ++ [10]) a (some (.str name)) (some (.tup (ns.map .str))) S (by simp only [List.length_append, List.length_cons, List.length_nil]; omega)
    refine ⟨b', d', ?_⟩
    rw [h4, cat_cons]
    simp only [List.append_assoc]
theorem prog_of {d : D} {ls : List (List Nat)} (h : IsP d ls) {l : Nat} (hl : 62 ≤ l) : ∀ S, callF fs fuel l 8 [d] S = .ok (.str (cat ls)) S := by
  intro S
  obtain ⟨l, rfl⟩ : ∃ j, l = j + 1 := ⟨l - 1, by omega⟩
  rw [callF_succ (fn := f_program_text) rfl rfl]
  have hf := h.free
  cases h with
  | @mk fns ts lf lt c ws gs w1 w2 g1 g2 hF hc hFl hT hTl =>
    refine call_freeE (S' := []) rfl (by simp [D.frees, hf]) rfl ?_
    have j1 := joinN_len [119, 114, 97, 112, 115] ws w2
    have j2 := joinN_len [103, 114, 111, 117, 110, 100, 115] gs g2
    have j3 := join_len [32] ([119, 114, 97, 112, 115] :: ws)
    have j4 := join_len [32] ([103, 114, 111, 117, 110, 100, 115] :: gs)
    have q1 := hF.len
    have q2 := hT.len
    simp only [List.length_cons, List.length_nil] at j1 j2 j3 j4
    have ej1 : mthD [] .join (.str [32]) [.tup (.str [119, 114, 97, 112, 115] :: ws.map .str)] = some (.str (joinD [32] ([119, 114, 97, 112, 115] :: ws)), []) :=
      join_seq (S := []) (s := [32]) (d := .tup (.str [119, 114, 97, 112, 115] :: ws.map .str)) ([119, 114, 97, 112, 115] :: ws) rfl rfl (by simp only [List.length_cons, List.length_nil]; omega)
    have ej2 : mthD [] .join (.str [32]) [.tup (.str [103, 114, 111, 117, 110, 100, 115] :: gs.map .str)] = some (.str (joinD [32] ([103, 114, 111, 117, 110, 100, 115] :: gs)), []) :=
      join_seq (S := []) (s := [32]) (d := .tup (.str [103, 114, 111, 117, 110, 100, 115] :: gs.map .str)) ([103, 114, 111, 117, 110, 100, 115] :: gs) rfl rfl (by simp only [List.length_cons, List.length_nil]; omega)
    rw [cat_cons, cat_cons, cat_app]
    generalize joinD [32] ([119, 114, 97, 112, 115] :: ws) = J1 at *
    generalize joinD [32] ([103, 114, 111, 117, 110, 100, 115] :: gs) = J2 at *
    obtain ⟨a', e1⟩ := funs_loop (fuel := fuel) (l := l) (by omega) hF hc (some (.tup [.tup (ws.map .str), .tup (gs.map .str), .tup fns, .tup ts])) (J1 ++ [10] ++ J2 ++ [10]) none none none [] (by simp only [List.length_append, List.length_cons, List.length_nil]; omega)
    obtain ⟨b', d', e2⟩ := starts_loop (fuel := fuel) (l := l) hT (some (.tup [.tup (ws.map .str), .tup (gs.map .str), .tup fns, .tup ts])) (J1 ++ [10] ++ J2 ++ [10] ++ cat lf) a' none none [] (by simp only [List.length_append, List.length_cons, List.length_nil]; omega)
    simp only [List.append_assoc, List.cons_append, List.nil_append] at e1 e2 ⊢
    simp (disch := (first | decide | assumption | (simp only [List.length_append, List.length_cons, List.length_nil, List.length_map] <;> omega) | omega)) [f_program_text, recvOk, ej1, ej2, srcD, e1, e2]
end
end Lw
set_option linter.all false
set_option maxRecDepth 100000
set_option maxHeartbeats 4000000
/-! K4e: the program's lines, by the law. -/
namespace Lw
open Fb
section
variable {fuel : Nat}
abbrev lBody : IS := (.seq (.ite (.cmp .eq (.idx (.var 2) (.lit (.int 0))) (.lit (.str [108, 101, 116])))
  (.seq (.ex (.mth .append (.var 1) (.cons (.bin .add (.bin .add (.bin .add (.lit (.str [108, 101, 116, 32])) (.idx (.var 2) (.lit (.int 1)))) (.lit (.str [32, 61, 32]))) (.call 29 (.cons (.idx (.var 2) (.lit (.int 2))) .nil))) .nil)))
  .skip)
  (.seq (.ite (.cmp .eq (.idx (.var 2) (.lit (.int 0))) (.lit (.str [111, 117, 116])))
  (.seq (.ex (.mth .append (.var 1) (.cons (.bin .add (.lit (.str [111, 117, 116, 32])) (.call 29 (.cons (.idx (.var 2) (.lit (.int 1))) .nil))) .nil)))
  .skip)
  (.seq (.ite (.cmp .eq (.idx (.var 2) (.lit (.int 0))) (.lit (.str [99, 97, 108, 108])))
  (.seq (.set 3 (.mth .join (.lit (.str [44, 32])) (.cons (.comp [4] (.nm 4) (.cons (.idx (.var 2) (.lit (.int 4))) .nil) .nil (.call 29 (.cons (.var 4) .nil))) .nil)))
  (.seq (.ex (.mth .append (.var 1) (.cons (.bin .add (.bin .add (.bin .add (.bin .add (.bin .add (.bin .add (.lit (.str [99, 97, 108, 108, 32])) (.idx (.var 2) (.lit (.int 1)))) (.lit (.str [32, 61, 32]))) (.idx (.var 2) (.lit (.int 2)))) (.lit (.str [32]))) (.call 30 (.cons (.idx (.var 2) (.lit (.int 3))) .nil))) (.ite (.cmp .gt (.blt .len (.cons (.idx (.var 2) (.lit (.int 4))) .nil)) (.lit (.int 0))) (.bin .add (.lit (.str [32, 58, 32])) (.var 3)) (.lit (.str [])))) .nil)))
  .skip))
  (.seq (.ex (.mth .append (.var 1) (.cons (.bin .add (.bin .add (.bin .add (.lit (.str [105, 102, 32])) (.call 29 (.cons (.idx (.var 2) (.lit (.int 1))) .nil))) (.lit (.str [32, 60, 32]))) (.call 29 (.cons (.idx (.var 2) (.lit (.int 2))) .nil))) .nil)))
  (.seq (.set 1 (.alloc (.bin .add (.var 1) (.call 31 (.cons (.idx (.var 2) (.lit (.int 3))) .nil)))))
  (.seq (.ite (.cmp .gt (.blt .len (.cons (.idx (.var 2) (.lit (.int 4))) .nil)) (.lit (.int 0)))
  (.seq (.set 1 (.alloc (.bin .add (.bin .add (.var 1) (.lst (.cons (.lit (.str [101, 108, 115, 101])) .nil))) (.call 31 (.cons (.idx (.var 2) (.lit (.int 4))) .nil)))))
  .skip)
  .skip)
  (.seq (.ex (.mth .append (.var 1) (.cons (.lit (.str [101, 110, 100])) .nil)))
  .skip)))))
  .skip))
  .skip))
  .skip)
theorem app_eq {S : Store} {n : Nat} {acc : List D} (h : S[n]? = some (.lst acc)) (hl : acc.length < 16777216) (y : D) : mthD S .append (.cell n) [y] = some (.non, S.set n (.lst (acc ++ [y]))) := by
  show (match S[n]? with
    | some (.lst ys) => if ys.length < SL then some (D.non, S.set n (.lst (ys ++ [y]))) else none
    | none => none) = _
  rw [h]
  exact if_pos hl
theorem get_set {S : Store} {n : Nat} {c d : Cell} (h : S[n]? = some c) : (S.set n d)[n]? = some d := List.getElem?_set_self (List.getElem?_eq_some_iff.mp h).1
theorem addCL {S : Store} {n : Nat} {acc b : List D} (h : S[n]? = some (.lst acc)) (hl : acc.length + b.length ≤ 16777216) : binM .add (.cell n) (.lst b) S = .ok (.lst (acc ++ b)) S := by
  show M.opt (match ownOf S (.cell n), ownOf S (.lst b) with
    | some a, some b => if a.length + b.length ≤ SL then some (D.lst (a ++ b)) else none
    | _, _ => none) S = _
  have e : ownOf S (.cell n) = some acc := by
    show (match S[n]? with
      | some (.lst xs) => some xs
      | none => none) = _
    rw [h]
  rw [e]
  show M.opt (if acc.length + b.length ≤ SL then some (D.lst (acc ++ b)) else none) S = _
  rw [if_pos (show acc.length + b.length ≤ SL from hl)]; rfl
@[simp] theorem alloc_lst {xs : List D} {S : Store} : allocM (.lst xs) S = .ok (.cell S.length) (S ++ [.lst xs]) := (rfl)
theorem get_new {S : Store} {c : Cell} : (S ++ [c])[S.length]? = some c := by simp
/-- what the loop's body does with a row -/
def StepL (l : Nat) (d : D) (ls : List (List Nat)) : Prop := ∀ (F b c : Option D) (n : Nat) (S : Store) (acc : List D), S[n]? = some (.lst acc) → acc.length + ls.length ≤ 16000000 →
  ∃ n' b' c' S', exS ⟨callF fs fuel l, fuel⟩ lBody [F, some (.cell n), some d, b, c] S = .ok (.nx [F, some (.cell n'), some d, b', c']) S' ∧ S'[n']? = some (.lst (acc ++ ls.map .str))
def LoopL (l : Nat) (ds : List D) (lss : List (List (List Nat))) : Prop := ∀ (F a b c : Option D) (n : Nat) (S : Store) (acc : List D), S[n]? = some (.lst acc) → acc.length + lss.flatten.length ≤ 16000000 →
  ∃ n' a' b' c' S', forL (patB (.nm 2) fun σ' => exS ⟨callF fs fuel l, fuel⟩ lBody σ') ds [F, some (.cell n), a, b, c] S = .ok (.nx [F, some (.cell n'), a', b', c']) S' ∧ S'[n']? = some (.lst (acc ++ lss.flatten.map .str))
theorem lines_call {l : Nat} {ds : List D} {lss : List (List (List Nat))} (hf : D.frees ds = true) (hl : lss.flatten.length ≤ 16000000) (h : LoopL (fuel := fuel) l ds lss) : ∀ S, callF fs fuel (l + 1) 31 [.tup ds] S = .ok (.lst (lss.flatten.map .str)) S := by
  intro S
  rw [callF_succ (fn := f_law_lines) rfl rfl]
  obtain ⟨n', a', b', c', S', e1, e2⟩ := h (some (.tup ds)) none none none 0 [.lst []] [] rfl (by simpa using hl)
  refine call_freeZ (S' := S') (d := .cell n') rfl (by simp [D.frees, D.free, hf]) ?_ (frz_cell 3 (by simpa using e2) (frees_strs _))
  simp (disch := (first | decide | assumption | (simp only [List.length_append, List.length_cons, List.length_nil, List.length_map] <;> omega) | omega)) [f_law_lines, srcD, e1]
mutual
theorem ln_of : ∀ {d : D} {ls : List (List Nat)} {c dp : Nat}, IsS d ls c dp → c ≤ 1000 → ∀ {l : Nat}, dp + 20 ≤ l → StepL (fuel := fuel) l d ls
  | _, _, _, _, .let_ (e := e) (t := t) x hx h h1 h2, hc, l, hl => fun F b c n S acc hS hz => by
    have e1 : ∀ S, callF fs fuel l 29 [e] S = .ok (.str t) S := spell_of h (by omega) (by omega)
    have q := h.len
    have ea := app_eq hS (by simp at hz; omega)
    refine ⟨n, b, c, _, ?_, get_set hS⟩
    simp (disch := (first | decide | assumption | (simp only [List.length_append, List.length_cons, List.length_nil, List.length_map] <;> omega) | omega)) [lBody, e1, recvOk, ea]
  | _, _, _, _, .out (e := e) (t := t) h h1 h2, hc, l, hl => fun F b c n S acc hS hz => by
    have e1 : ∀ S, callF fs fuel l 29 [e] S = .ok (.str t) S := spell_of h (by omega) (by omega)
    have q := h.len
    have ea := app_eq hS (by simp at hz; omega)
    refine ⟨n, b, c, _, ?_, get_set hS⟩
    simp (disch := (first | decide | assumption | (simp only [List.length_append, List.length_cons, List.length_nil, List.length_map] <;> omega) | omega)) [lBody, e1, recvOk, ea]
  | _, _, _, _, .call (m := m) (tm := tm) (as := as) (ts := ts) x f hx hf hm hs hn, hc, l, hl => fun F b c n S acc hS hz => by
    have e1 : ∀ S, callF fs fuel l 30 [m] S = .ok (.str tm) S := lmade_of hm (by omega)
    have q1 := hm.len
    have q2 := joinEs_len hs hn
    have q4 := hs.len
    have hcm : ∀ (σ : Ev) (S : Store), 4 < σ.length → compM (elG ⟨callF fs fuel l, fuel⟩ [4] (.nm 4) .nil (.call 29 (.cons (.var 4) .nil)) σ) as 0 S = .ok (ts.map .str) S := fun σ S hi =>
      compM_all (es_all hs (fun d k t n dp h1 h2 h3 S => spell_of h1 (by omega) (by omega) S) hi) (by omega)
    have ej : mthD S .join (.str [44, 32]) [.lst (ts.map .str)] = some (.str (joinD [44, 32] ts), S) := join_seq (S := S) (s := [44, 32]) (d := .lst (ts.map .str)) ts rfl rfl (by simp only [List.length_cons, List.length_nil]; omega)
    have ea := app_eq hS (by simp at hz; omega)
    refine ⟨n, some (.str (joinD [44, 32] ts)), c, _, ?_, get_set hS⟩
    cases hs with
    | nil =>
      simp only [List.map_nil] at ej hcm
      simp (disch := (first | decide | assumption | (simp only [List.length_append, List.length_cons, List.length_nil, List.length_map] <;> omega) | omega)) [lBody, e1, argT, x_comp2, -x_comp, srcD, compS, hcm, recvOk, ej, ea, bltD, seqOf]
    | cons h1 h2 h3 h4 =>
      simp only [List.map_cons] at ej hcm
      have hp : ∀ k : Nat, (0 : Int) < (k : Int) + 1 := fun k => by omega
      simp (disch := (first | decide | assumption | (simp only [List.length_append, List.length_cons, List.length_nil, List.length_map] <;> omega) | omega)) [lBody, e1, argT, x_comp2, -x_comp, srcD, compS, hcm, recvOk, ej, ea, bltD, seqOf, hp]
  | _, _, _, _, .if_ (a := a) (b := b) (ta := ta) (tb := tb) (t := t) (e := e) (lt := lt) (le := le) ha h1 h2 hb h3 h4 ht he, hc, l, hl => fun F b2 c n S acc hS hz => by
    obtain ⟨l, rfl⟩ : ∃ j, l = j + 1 := ⟨l - 1, by omega⟩
    have q1 := ha.len
    have q2 := hb.len
    have q3 := ht.len
    have q4 := he.len
    have e1 : ∀ S, callF fs fuel (l + 1) 29 [a] S = .ok (.str ta) S := spell_of ha (by omega) (by omega)
    have e2 : ∀ S, callF fs fuel (l + 1) 29 [b] S = .ok (.str tb) S := spell_of hb (by omega) (by omega)
    have e3 : ∀ S, callF fs fuel (l + 1) 31 [.tup t] S = .ok (.lst (lt.flatten.map .str)) S := lines_call ht.free (by omega) (lnl_of ht (by omega) (by omega))
    have e4 : ∀ S, callF fs fuel (l + 1) 31 [.tup e] S = .ok (.lst (le.flatten.map .str)) S := lines_call he.free (by omega) (lnl_of he (by omega) (by omega))
    have hacc : acc.length ≤ 16000000 := by omega
    have ea := app_eq hS (by omega) (.str ([105, 102, 32] ++ ta ++ [32, 60, 32] ++ tb))
    have hS1 := get_set (d := .lst (acc ++ [.str ([105, 102, 32] ++ ta ++ [32, 60, 32] ++ tb)])) hS
    generalize hg1 : S.set n (.lst (acc ++ [.str ([105, 102, 32] ++ ta ++ [32, 60, 32] ++ tb)])) = S1 at *
    have ec1 : binM .add (.cell n) (.lst (lt.flatten.map .str)) S1 = _ := addCL hS1 (by simp only [List.length_append, List.length_cons, List.length_nil, List.length_map]; omega)
    have hS2 := get_new (S := S1) (c := .lst (acc ++ [.str ([105, 102, 32] ++ ta ++ [32, 60, 32] ++ tb)] ++ lt.flatten.map .str))
    generalize hg2 : S1 ++ [.lst (acc ++ [.str ([105, 102, 32] ++ ta ++ [32, 60, 32] ++ tb)] ++ lt.flatten.map .str)] = S2 at *
    generalize hn2 : S1.length = n2 at *
    generalize hlt : lt.flatten.map D.str = LT at *
    have hLT : LT.length = lt.flatten.length := by rw [← hlt, List.length_map]
    generalize hle : le.flatten.map D.str = LE at *
    have hLE : LE.length = le.flatten.length := by rw [← hle, List.length_map]
    cases e with
    | nil =>
      have ea2 := app_eq hS2 (by simp only [List.length_append, List.length_cons, List.length_nil]; omega) (.str [101, 110, 100])
      refine ⟨n2, b2, c, S2.set n2 (.lst (acc ++ [.str ([105, 102, 32] ++ ta ++ [32, 60, 32] ++ tb)] ++ LT ++ [.str [101, 110, 100]])), ?_, (get_set hS2).trans ?_⟩
      rotate_left
      · simp [hlt]
      · simp only [List.cons_append, List.nil_append, List.append_assoc] at ea ec1 hg2 ea2 ⊢
        simp (disch := (first | decide | assumption | (simp only [List.length_append, List.length_cons, List.length_nil, List.length_map] <;> omega) | omega)) [lBody, e1, e2, e3, recvOk, ea, ec1, hg1, hg2, hn2, ea2, bltD, seqOf]
    | cons y ys =>
      have ec2 : binM .add (.cell n2) (.lst [.str [101, 108, 115, 101]]) S2 = _ := addCL hS2 (by simp only [List.length_append, List.length_cons, List.length_nil]; omega)
      have hS3 := get_new (S := S2) (c := .lst (acc ++ [.str ([105, 102, 32] ++ ta ++ [32, 60, 32] ++ tb)] ++ LT ++ [.str [101, 108, 115, 101]] ++ LE))
      generalize hg3 : S2 ++ [.lst (acc ++ [.str ([105, 102, 32] ++ ta ++ [32, 60, 32] ++ tb)] ++ LT ++ [.str [101, 108, 115, 101]] ++ LE)] = S3 at *
      generalize hn3 : S2.length = n3 at *
      have ea2 := app_eq hS3 (by simp only [List.length_append, List.length_cons, List.length_nil]; omega) (.str [101, 110, 100])
      refine ⟨n3, b2, c, S3.set n3 (.lst (acc ++ [.str ([105, 102, 32] ++ ta ++ [32, 60, 32] ++ tb)] ++ LT ++ [.str [101, 108, 115, 101]] ++ LE ++ [.str [101, 110, 100]])), ?_, (get_set hS3).trans ?_⟩
      rotate_left
      · simp [hlt, hle]
      · have hp : ∀ k : Nat, (0 : Int) < (k : Int) + 1 := fun k => by omega
        simp only [List.cons_append, List.nil_append, List.append_assoc] at ea ec1 ec2 hg2 hg3 ea2 ⊢
        simp (disch := (first | decide | assumption | (simp only [List.length_append, List.length_cons, List.length_nil, List.length_map] <;> omega) | omega)) [lBody, e1, e2, e3, e4, recvOk, ea, ec1, ec2, hg1, hg2, hg3, hn2, hn3, ea2, bltD, seqOf, hp]
theorem lnl_of : ∀ {ds : List D} {lss : List (List (List Nat))} {c dp : Nat}, IsSs ds lss c dp → c ≤ 1000 → ∀ {l : Nat}, dp + 20 ≤ l → LoopL (fuel := fuel) l ds lss
  | _, _, _, _, .nil, _, l, _ => fun F a b c n S acc hS hz => ⟨n, a, b, c, S, forL_nil, by simpa using hS⟩
  | _, _, _, _, .cons (d := d) (ls := ls) (ds := ds) (lss := lss) h hs, hc, l, hl => fun F a b c n S acc hS hz => by
    simp only [List.flatten_cons, List.length_append] at hz
    obtain ⟨n1, b1, c1, S1, e1, g1⟩ := ln_of h (by omega) (l := l) (by omega) F b c n S acc hS (by omega)
    obtain ⟨n2, a2, b2, c2, S2, e2, g2⟩ := lnl_of hs (by omega) (l := l) (by omega) F (some d) b1 c1 n1 S1 (acc ++ ls.map .str) g1 (by simp only [List.length_append, List.length_map]; omega)
    refine ⟨n2, a2, b2, c2, S2, ?_, by simpa using g2⟩
    have step : patB (.nm 2) (fun σ' => exS ⟨callF fs fuel l, fuel⟩ lBody σ') d [F, some (.cell n), a, b, c] S = .ok (.nx [F, some (.cell n1), some d, b1, c1]) S1 := e1
    rw [forL_nx step, e2]
end
end
end Lw
set_option linter.all false
set_option maxRecDepth 100000
set_option maxHeartbeats 4000000
/-! K4f: the law's own text is the program's. -/
namespace Lw
open Fb
section
variable {fuel : Nat}
abbrev wcBody : IS := (.seq (.ite (.cmp .ne (.var 6) (.lit (.str [45])))
  (.seq (.ex (.mth .append (.var 1) (.cons (.bin .add (.lit (.str [99, 97, 115, 101, 32])) (.var 6)) .nil)))
  .skip)
  .skip)
  (.seq (.set 1 (.alloc (.bin .add (.bin .add (.var 1) (.call 31 (.cons (.idx (.var 7) (.lit (.int 0))) .nil))) (.lst (.cons (.bin .add (.lit (.str [103, 105, 118, 101, 32])) (.call 29 (.cons (.idx (.var 7) (.lit (.int 1))) .nil))) .nil)))))
  .skip))
theorem wc_loop {l : Nat} (hl : 30 ≤ l) {ds : List D} {ls : List (List Nat)} {c : Nat} (h : IsCs ds ls c) (hc : c ≤ 1000) : ∀ (p a2 a3 a4 a5 a6 a7 a8 : Option D) (n : Nat) (S : Store) (acc : List D), S[n]? = some (.lst acc) → acc.length + ls.length ≤ 16000000 →
    ∃ n' b6 b7 S', forL (patB (.tp [6, 7]) fun σ' => exS ⟨callF fs fuel l, fuel⟩ wcBody σ') ds [p, some (.cell n), a2, a3, a4, a5, a6, a7, a8] S = .ok (.nx [p, some (.cell n'), a2, a3, a4, a5, b6, b7, a8]) S' ∧ S'[n']? = some (.lst (acc ++ ls.map .str)) := by
  induction h with
  | nil =>
    intro p a2 a3 a4 a5 a6 a7 a8 n S acc hS hz
    exact ⟨n, a6, a7, S, forL_nil, by simpa using hS⟩
  | @cons ss lss c0 dp0 e k t n0 dp ds ls c head hh h1 hd h2 hn hdp h3 ih =>
    intro p a2 a3 a4 a5 a6 a7 a8 n S acc hS hz
    obtain ⟨l, rfl⟩ : ∃ j, l = j + 1 := ⟨l - 1, by omega⟩
    have q1 := h1.len
    have q2 := h2.len
    have q3 := hdL_len head hh
    have e1 : ∀ S, callF fs fuel (l + 1) 31 [.tup ss] S = .ok (.lst (lss.flatten.map .str)) S := lines_call h1.free (by omega) (lnl_of h1 (by omega) (by omega))
    have e2 : ∀ S, callF fs fuel (l + 1) 29 [e] S = .ok (.str t) S := spell_of h2 (by omega) (by omega)
    simp only [List.length_append, List.length_cons, List.length_nil] at hz
    have step : ∃ n1 S1, patB (.tp [6, 7]) (fun σ' => exS ⟨callF fs fuel (l + 1), fuel⟩ wcBody σ') (.tup [.str head, .tup [.tup ss, e]]) [p, some (.cell n), a2, a3, a4, a5, a6, a7, a8] S =
        .ok (.nx [p, some (.cell n1), a2, a3, a4, a5, some (.str head), some (.tup [.tup ss, e]), a8]) S1 ∧ S1[n1]? = some (.lst (acc ++ (hdL head).map .str ++ lss.flatten.map .str ++ [.str ([103, 105, 118, 101, 32] ++ t)])) := by
      generalize hLT : lss.flatten.map D.str = LT at *
      have hL : LT.length = lss.flatten.length := by rw [← hLT, List.length_map]
      by_cases hd : head = [45]
      · subst hd
        have ec := addCL (b := LT) hS (by omega)
        refine ⟨S.length, S ++ [.lst (acc ++ (hdL [45]).map .str ++ LT ++ [.str ([103, 105, 118, 101, 32] ++ t)])], ?_, get_new⟩
        have e0 : hdL [45] = [] := rfl
        rw [e0]
        simp (disch := (first | decide | assumption | (simp only [List.length_append, List.length_cons, List.length_nil, List.length_map] <;> omega) | omega)) [wcBody, e1, e2, ec]
      · have ea := app_eq hS (by omega) (.str ([99, 97, 115, 101, 32] ++ head))
        have hS1 := get_set (d := .lst (acc ++ [.str ([99, 97, 115, 101, 32] ++ head)])) hS
        generalize hg1 : S.set n (.lst (acc ++ [.str ([99, 97, 115, 101, 32] ++ head)])) = S1 at *
        have ec := addCL (b := LT) hS1 (by simp only [List.length_append, List.length_cons, List.length_nil]; omega)
        have e0 : hdL head = [[99, 97, 115, 101, 32] ++ head] := if_neg hd
        refine ⟨S1.length, S1 ++ [.lst (acc ++ (hdL head).map .str ++ LT ++ [.str ([103, 105, 118, 101, 32] ++ t)])], ?_, get_new⟩
        rw [e0]
        simp only [List.cons_append, List.nil_append] at ea hg1 ec
        simp (disch := (first | decide | assumption | (simp only [List.length_append, List.length_cons, List.length_nil, List.length_map] <;> omega) | omega)) [wcBody, e1, e2, ec, hd, ea, hg1, recvOk]
    obtain ⟨n1, S1, st1, g1⟩ := step
    obtain ⟨n2, b6, b7, S2, st2, g2⟩ := ih (by omega) p a2 a3 a4 a5 (some (.str head)) (some (.tup [.tup ss, e])) a8 n1 S1 _ g1 (by simp only [List.length_append, List.length_cons, List.length_nil, List.length_map]; omega)
    refine ⟨n2, b6, b7, S2, ?_, by simpa using g2⟩
    rw [forL_nx st1, st2]
abbrev wfBody : IS := (.seq (.ex (.mth .append (.var 1) (.cons (.mth .join (.lit (.str [32])) (.cons (.bin .add (.lst (.cons (.lit (.str [102, 117, 110])) (.cons (.var 2) .nil))) (.blt .list (.cons (.var 3) .nil))) .nil)) .nil)))
  (.seq (.for (.tp [6, 7]) (.cons (.var 4) .nil) wcBody)
  .skip))
theorem wf_loop {l : Nat} (hl : 30 ≤ l) {ds : List D} {ls : List (List Nat)} {c : Nat} (h : IsFs ds ls c) (hc : c ≤ 1000) : ∀ (p a2 a3 a4 a5 a6 a7 a8 : Option D) (n : Nat) (S : Store) (acc : List D), S[n]? = some (.lst acc) → acc.length + ls.length ≤ 16000000 →
    ∃ n' b2 b3 b4 b6 b7 S', forL (patB (.tp [2, 3, 4]) fun σ' => exS ⟨callF fs fuel l, fuel⟩ wfBody σ') ds [p, some (.cell n), a2, a3, a4, a5, a6, a7, a8] S = .ok (.nx [p, some (.cell n'), b2, b3, b4, a5, b6, b7, a8]) S' ∧ S'[n']? = some (.lst (acc ++ ls.map .str)) := by
  induction h with
  | nil =>
    intro p a2 a3 a4 a5 a6 a7 a8 n S acc hS hz
    exact ⟨n, a2, a3, a4, a6, a7, S, forL_nil, by simpa using hS⟩
  | @cons cs ls c ds ls2 c2 name ps hn hp hq h1 h2 h3 ih =>
    intro p a2 a3 a4 a5 a6 a7 a8 n S acc hS hz
    obtain ⟨q1, q2⟩ := funL_len name ps hn hq
    simp only [List.length_append, List.length_cons, List.length_nil] at hz
    have ej : mthD S .join (.str [32]) [.lst (.str [102, 117, 110] :: .str name :: ps.map .str)] = some (.str (funL name ps), S) :=
      join_seq (S := S) (s := [32]) (d := .lst (.str [102, 117, 110] :: .str name :: ps.map .str)) ([102, 117, 110] :: name :: ps) rfl rfl (by simp only [List.length_cons, List.length_nil] at q1 ⊢; omega)
    have ea := app_eq hS (by omega) (.str (funL name ps))
    have hS1 := get_set (d := .lst (acc ++ [.str (funL name ps)])) hS
    obtain ⟨n1, b6, b7, S1, st1, g1⟩ := wc_loop (fuel := fuel) hl h1 (by omega) p (some (.str name)) (some (.tup (ps.map .str))) (some (.tup cs)) a5 a6 a7 a8 n _ _ hS1 (by simp only [List.length_append, List.length_cons, List.length_nil]; omega)
    have step : patB (.tp [2, 3, 4]) (fun σ' => exS ⟨callF fs fuel l, fuel⟩ wfBody σ') (.tup [.str name, .tup (ps.map .str), .tup cs]) [p, some (.cell n), a2, a3, a4, a5, a6, a7, a8] S =
        .ok (.nx [p, some (.cell n1), some (.str name), some (.tup (ps.map .str)), some (.tup cs), a5, b6, b7, a8]) S1 := by
      simp (disch := (first | decide | assumption | (simp only [List.length_append, List.length_cons, List.length_nil, List.length_map] <;> omega) | omega)) [wfBody, recvOk, ej, ea, srcD, st1, bltD, seqOf]
    obtain ⟨n2, b2, b3, b4, c6, c7, S2, st2, g2⟩ := ih (by omega) p (some (.str name)) (some (.tup (ps.map .str))) (some (.tup cs)) a5 b6 b7 a8 n1 S1 _ g1 (by simp only [List.length_append, List.length_cons, List.length_nil, List.length_map]; omega)
    refine ⟨n2, b2, b3, b4, c6, c7, S2, ?_, by simpa using g2⟩
    rw [forL_nx step, st2]
abbrev wtBody : IS := (.seq (.ex (.mth .append (.var 1) (.cons (.mth .join (.lit (.str [32])) (.cons (.bin .add (.lst (.cons (.lit (.str [115, 116, 97, 114, 116])) (.cons (.var 2) .nil))) (.blt .list (.cons (.var 5) .nil))) .nil)) .nil)))
  .skip)
theorem wt_loop {l : Nat} {ds : List D} {ls : List (List Nat)} (h : IsTs ds ls) : ∀ (p a2 a3 a4 a5 a6 a7 a8 : Option D) (n : Nat) (S : Store) (acc : List D), S[n]? = some (.lst acc) → acc.length + ls.length ≤ 16000000 →
    ∃ b2 b5 S', forL (patB (.tp [2, 5]) fun σ' => exS ⟨callF fs fuel l, fuel⟩ wtBody σ') ds [p, some (.cell n), a2, a3, a4, a5, a6, a7, a8] S = .ok (.nx [p, some (.cell n), b2, a3, a4, b5, a6, a7, a8]) S' ∧ S'[n]? = some (.lst (acc ++ ls.map .str)) := by
  induction h with
  | nil =>
    intro p a2 a3 a4 a5 a6 a7 a8 n S acc hS hz
    exact ⟨a2, a5, S, forL_nil, by simpa using hS⟩
  | @cons ds ls name ns hn hp hq h3 ih =>
    intro p a2 a3 a4 a5 a6 a7 a8 n S acc hS hz
    obtain ⟨q1, q2⟩ := staL_len name ns hn hq
    simp only [List.length_append, List.length_cons, List.length_nil] at hz
    have ej : mthD S .join (.str [32]) [.lst (.str [115, 116, 97, 114, 116] :: .str name :: ns.map .str)] = some (.str (staL name ns), S) :=
      join_seq (S := S) (s := [32]) (d := .lst (.str [115, 116, 97, 114, 116] :: .str name :: ns.map .str)) ([115, 116, 97, 114, 116] :: name :: ns) rfl rfl (by simp only [List.length_cons, List.length_nil] at q1 ⊢; omega)
    have ea := app_eq hS (by omega) (.str (staL name ns))
    have hS1 := get_set (d := .lst (acc ++ [.str (staL name ns)])) hS
    have step : patB (.tp [2, 5]) (fun σ' => exS ⟨callF fs fuel l, fuel⟩ wtBody σ') (.tup [.str name, .tup (ns.map .str)]) [p, some (.cell n), a2, a3, a4, a5, a6, a7, a8] S =
        .ok (.nx [p, some (.cell n), some (.str name), a3, a4, some (.tup (ns.map .str)), a6, a7, a8]) (S.set n (.lst (acc ++ [.str (staL name ns)]))) := by
      simp (disch := (first | decide | assumption | (simp only [List.length_append, List.length_cons, List.length_nil, List.length_map] <;> omega) | omega)) [wtBody, recvOk, ej, ea, bltD, seqOf]
    obtain ⟨b2, b5, S2, st2, g2⟩ := ih p (some (.str name)) a3 a4 (some (.tup (ns.map .str))) a6 a7 a8 n _ _ hS1 (by simp only [List.length_append, List.length_cons, List.length_nil]; omega)
    refine ⟨b2, b5, S2, ?_, by simpa using g2⟩
    rw [forL_nx step, st2]
theorem lines_all {l : Nat} (σ : Ev) (S : Store) (hi : 8 < σ.length) : ∀ (ls : List (List Nat)), (cat ls).length ≤ 16000000 → All2 (fun x y => elG ⟨callF fs fuel l, fuel⟩ [8] (.nm 8) .nil (.bin .add (.var 8) (.lit (.str [10]))) σ x S = .ok (some y) S) (ls.map .str) ((ls.map fun z => z ++ [10]).map .str)
  | [], _ => .nil
  | z :: r, hz => by
    rw [cat_cons] at hz
    simp only [List.length_append, List.length_cons, List.length_nil] at hz
    refine .cons (el_nm ?_) (lines_all σ S hi r (by omega))
    have e8 : (List.set (wipeE σ [8]) 8 (some (D.str z)))[8]? = some (some (D.str z)) := List.getElem?_set_self (by rw [wipe_length]; exact hi)
    simp (disch := (first | decide | assumption | (simp only [List.length_append, List.length_cons, List.length_nil, List.length_map] <;> omega) | omega)) [e8]
theorem written_of {d : D} {ls : List (List Nat)} (h : IsP d ls) {l : Nat} (hl : 31 ≤ l) (hfu : 10000 ≤ fuel) : ∀ S, callF fs fuel l 32 [d] S = .ok (.str (cat ls)) S := by
  intro S
  obtain ⟨l, rfl⟩ : ∃ j, l = j + 1 := ⟨l - 1, by omega⟩
  rw [callF_succ (fn := f_law_written) rfl rfl]
  have hf := h.free
  cases h with
  | @mk fns ts lf lt c ws gs w1 w2 g1 g2 hF hc hFl hT hTl =>
    have j1 := joinN_len [119, 114, 97, 112, 115] ws w2
    have j2 := joinN_len [103, 114, 111, 117, 110, 100, 115] gs g2
    have j3 := join_len [32] ([119, 114, 97, 112, 115] :: ws)
    have j4 := join_len [32] ([103, 114, 111, 117, 110, 100, 115] :: gs)
    have q1 := hF.len
    have q2 := hT.len
    simp only [List.length_cons, List.length_nil] at j1 j2 j3 j4
    have ej1 : mthD [] .join (.str [32]) [.lst (.str [119, 114, 97, 112, 115] :: ws.map .str)] = some (.str (joinD [32] ([119, 114, 97, 112, 115] :: ws)), []) :=
      join_seq (S := []) (s := [32]) (d := .lst (.str [119, 114, 97, 112, 115] :: ws.map .str)) ([119, 114, 97, 112, 115] :: ws) rfl rfl (by simp only [List.length_cons, List.length_nil]; omega)
    have ej2 : mthD [] .join (.str [32]) [.lst (.str [103, 114, 111, 117, 110, 100, 115] :: gs.map .str)] = some (.str (joinD [32] ([103, 114, 111, 117, 110, 100, 115] :: gs)), []) :=
      join_seq (S := []) (s := [32]) (d := .lst (.str [103, 114, 111, 117, 110, 100, 115] :: gs.map .str)) ([103, 114, 111, 117, 110, 100, 115] :: gs) rfl rfl (by simp only [List.length_cons, List.length_nil]; omega)
    have hcat : (cat (joinD [32] ([119, 114, 97, 112, 115] :: ws) :: joinD [32] ([103, 114, 111, 117, 110, 100, 115] :: gs) :: (lf ++ lt))).length ≤ 16000000 := by
      rw [cat_cons, cat_cons, cat_app]
      simp only [List.length_append, List.length_cons, List.length_nil]
      omega
    generalize joinD [32] ([119, 114, 97, 112, 115] :: ws) = J1 at *
    generalize joinD [32] ([103, 114, 111, 117, 110, 100, 115] :: gs) = J2 at *
    obtain ⟨n1, b2, b3, b4, b6, b7, S1, e1, g1'⟩ := wf_loop (fuel := fuel) (l := l) (by omega) hF hc (some (.tup [.tup (ws.map .str), .tup (gs.map .str), .tup fns, .tup ts])) none none none none none none none 0 [.lst [.str J1, .str J2]] _ rfl (by simp only [List.length_cons, List.length_nil]; omega)
    obtain ⟨c2, c5, S2, e2, g2'⟩ := wt_loop (fuel := fuel) (l := l) hT (some (.tup [.tup (ws.map .str), .tup (gs.map .str), .tup fns, .tup ts])) b2 b3 b4 none b6 b7 none n1 S1 _ g1' (by simp only [List.length_append, List.length_cons, List.length_nil, List.length_map]; omega)
    have hls : S2[n1]? = some (.lst ((J1 :: J2 :: (lf ++ lt)).map .str)) := by simpa using g2'
    have hlo : lstOf S2 (.cell n1) = some ((J1 :: J2 :: (lf ++ lt)).map .str) := by
      show (match S2[n1]? with
        | some (.lst xs) => some xs
        | none => none) = _
      rw [hls]
    generalize hLS : J1 :: J2 :: (lf ++ lt) = LS at *
    have hLl : LS.length ≤ 5000 := by rw [← hLS]; simp only [List.length_cons, List.length_append]; omega
    have hcomp : ∀ σ : Ev, 8 < σ.length → compN (elG ⟨callF fs fuel l, fuel⟩ [8] (.nm 8) .nil (.bin .add (.var 8) (.lit (.str [10]))) σ) n1 fuel 0 0 S2 = .ok ((LS.map fun z => z ++ [10]).map .str) S2 := fun σ hi =>
      compN_all hlo fuel (by rw [List.drop_zero]; exact lines_all σ S2 hi LS hcat) (by rw [List.drop_zero, List.length_map]; omega) (by rw [List.drop_zero, List.length_map]; omega)
    have hsum : ((LS.map fun z => z ++ [10]).map (·.length)).sum = (cat LS).length := by rw [cat, List.length_flatten]
    have ej3 := join_seq (S := S2) (s := []) (d := .lst ((LS.map fun z => z ++ [10]).map .str)) (LS.map fun z => z ++ [10]) rfl rfl (by rw [hsum]; simp only [List.length_nil]; omega)
    rw [join_nil] at ej3
    refine call_freeE (S' := S2) rfl (by simp [D.frees, hf]) rfl ?_
    generalize (LS.map fun z => z ++ [10]).map D.str = LX at *
    simp (disch := (first | decide | assumption | (simp only [List.length_append, List.length_cons, List.length_nil, List.length_map] <;> omega) | omega)) [f_law_written, recvOk, ej1, ej2, srcD, e1, e2, bltD, seqOf, x_comp2, -x_comp, compS, hcomp, ej3, cat]
theorem right_of {d : D} {ls : List (List Nat)} (h : IsP d ls) {l : Nat} (hl : 64 ≤ l) (hfu : 10000 ≤ fuel) : ∀ S, callF fs fuel l 33 [d] S = .ok (.bl true) S := by
  intro S
  obtain ⟨l, rfl⟩ : ∃ j, l = j + 1 := ⟨l - 1, by omega⟩
  rw [callF_succ (fn := f_law_text_right) rfl rfl]
  refine call_freeE (S' := []) rfl (by simp [D.frees, h.free]) rfl ?_
  have e1 : ∀ S, callF fs fuel l 8 [d] S = .ok (.str (cat ls)) S := prog_of h (by omega)
  have e2 : ∀ S, callF fs fuel l 32 [d] S = .ok (.str (cat ls)) S := written_of h (by omega) hfu
  simp (disch := (first | decide | assumption | (simp only [List.length_append, List.length_cons, List.length_nil, List.length_map] <;> omega) | omega)) [f_law_text_right, e1, e2, D.isTy]
end
end Lw
set_option linter.all false
set_option maxRecDepth 100000
set_option maxHeartbeats 4000000
/-! K4g: the sack. -/
namespace Lw
open Fb
def SackC (c : Cell) : Prop := ∃ (a b : Int) (cs : List D), c = .lst [.int a, .int b, .lst cs] ∧ (∀ x ∈ cs, ∃ z, x = .int z) ∧ cs ≠ [] ∧ 0 ≤ a
/-- the sack at place 0; every cell knows but cells there are -/
structure Good (S : Store) : Prop where
  sack : ∃ c, S[0]? = some c ∧ SackC c
  low : ∀ c ∈ S, c.low S.length = true
/-- what was there stands, but for the cells X, that hold no cell -/
structure Up (X : List Nat) (S S' : Store) : Prop where
  len : S.length ≤ S'.length
  good : Good S'
  same : ∀ i, i ∉ X → i < S.length → S'[i]? = S[i]?
  chg : ∀ i, i ∈ X → i < S.length → ∀ c, S'[i]? = some c → c.low 0 = true
theorem Up.trans {X : List Nat} {S S1 S2 : Store} (a : Up X S S1) (b : Up X S1 S2) : Up X S S2 :=
  ⟨Nat.le_trans a.len b.len, b.good, fun i h hi => (b.same i h (Nat.lt_of_lt_of_le hi a.len)).trans (a.same i h hi), fun i h hi => b.chg i h (Nat.lt_of_lt_of_le hi a.len)⟩
theorem Good.pos {S : Store} (h : Good S) : 0 < S.length := by
  obtain ⟨c, e, _⟩ := h.sack
  exact (List.getElem?_eq_some_iff.mp e).1
theorem lows_ints {k : Nat} : ∀ {cs : List D}, (∀ x ∈ cs, ∃ z, x = .int z) → D.lows k cs = true
  | [], _ => rfl
  | x :: r, h => by
    obtain ⟨z, rfl⟩ := h x List.mem_cons_self
    show (true && D.lows k r) = true
    rw [lows_ints fun y hy => h y (List.mem_cons_of_mem _ hy)]; rfl
theorem SackC.low {c : Cell} (h : SackC c) (k : Nat) : c.low k = true := by
  obtain ⟨a, b, cs, rfl, hi, _⟩ := h
  show (true && (true && (D.lows k cs && true))) = true
  rw [lows_ints hi]; rfl
theorem cell_mono {c : Cell} {k j : Nat} (h : c.low k = true) (hk : k ≤ j) : c.low j = true := by
  cases c with
  | lst xs => exact lows_mono hk (show D.lows k xs = true from h)
theorem up_set {S : Store} (h : Good S) {c : Cell} (hc : SackC c) : Up [0] S (S.set 0 c) := by
  refine ⟨by simp, ⟨⟨c, List.getElem?_set_self h.pos, hc⟩, fun d hd => ?_⟩, fun i hi _ => List.getElem?_set_ne (fun z => hi (by rw [← z]; exact List.mem_cons_self)), fun i hi _ d hd => ?_⟩
  · rw [List.length_set]
    rcases List.mem_or_eq_of_mem_set hd with e | e
    · exact h.low d e
    · rw [e]; exact hc.low _
  · rw [List.mem_singleton.mp hi, List.getElem?_set_self h.pos] at hd
    cases hd
    exact hc.low 0
theorem Up.refl {X : List Nat} {S : Store} (h : Good S) (hx : ∀ i ∈ X, ∀ c, S[i]? = some c → c.low 0 = true) : Up X S S := ⟨Nat.le_refl _, h, fun _ _ _ => rfl, fun i hi _ => hx i hi⟩
theorem Up.refl0 {S : Store} (h : Good S) : Up [0] S S := Up.refl h fun i hi c hc => by
  obtain ⟨d, e, hd⟩ := h.sack
  rw [List.mem_singleton.mp hi, e] at hc
  cases hc
  exact hd.low 0
theorem Up.lows {X : List Nat} {S S1 : Store} (h : Good S) (u : Up X S S1) : ∀ c ∈ S1.take S.length, c.low S.length = true := fun c hc => by
  obtain ⟨i, hi, e⟩ := List.getElem_of_mem hc
  have hi2 : i < S.length := by rw [List.length_take] at hi; omega
  have e2 : S1[i]? = some c := by
    rw [← List.getElem?_take_of_lt hi2, List.getElem?_eq_getElem hi, e]
  by_cases hx : i ∈ X
  · exact cell_mono (u.chg i hx hi2 c e2) (Nat.zero_le _)
  · rw [u.same i hx hi2] at e2
    exact h.low c (List.mem_of_getElem? e2)
/-- a def's own cells let go -/
theorem Up.leave {X : List Nat} {S S1 : Store} (h : Good S) (u : Up X S S1) : Up X S (S1.take S.length) := by
  have hl : (S1.take S.length).length = S.length := by rw [List.length_take]; have := u.len; omega
  have gt : ∀ i, i < S.length → (S1.take S.length)[i]? = S1[i]? := fun i hi => List.getElem?_take_of_lt hi
  refine ⟨by omega, ⟨?_, fun c hc => by rw [hl]; exact u.lows h c hc⟩, fun i hx hi => by rw [gt i hi]; exact u.same i hx hi, fun i hx hi c hc => by rw [gt i hi] at hc; exact u.chg i hx hi c hc⟩
  obtain ⟨c, e, hc⟩ := u.good.sack
  exact ⟨c, by rw [gt 0 h.pos]; exact e, hc⟩
/-- a new cell -/
theorem Up.push {X : List Nat} {S S1 : Store} (u : Up X S S1) {xs : List D} (hx : D.lows (S1.length + 1) xs = true) : Up X S (S1 ++ [.lst xs]) := by
  obtain ⟨c, e, hc⟩ := u.good.sack
  have gt : ∀ i, i < S1.length → (S1 ++ [Cell.lst xs])[i]? = S1[i]? := fun i hi => List.getElem?_append_left hi
  refine ⟨by rw [List.length_append]; have := u.len; omega, ⟨⟨c, by rw [gt 0 u.good.pos]; exact e, hc⟩, fun d hd => ?_⟩, fun i hi hl => ?_, fun i hi hl d hd => ?_⟩
  · rw [List.length_append]
    rcases List.mem_append.mp hd with h | h
    · exact cell_mono (u.good.low d h) (by simp)
    · rw [List.mem_singleton.mp h]; exact hx
  · rw [gt i (Nat.lt_of_lt_of_le hl u.len)]; exact u.same i hi hl
  · rw [gt i (Nat.lt_of_lt_of_le hl u.len)] at hd; exact u.chg i hi hl d hd
/-- an own cell written -/
theorem Up.put {X : List Nat} {S S1 : Store} (u : Up X S S1) {n : Nat} {xs : List D} (hn : S.length ≤ n) (h0 : n ≠ 0) (hx : D.lows S1.length xs = true) : Up X S (S1.set n (.lst xs)) := by
  obtain ⟨c, e, hc⟩ := u.good.sack
  have gt : ∀ i, i ≠ n → (S1.set n (Cell.lst xs))[i]? = S1[i]? := fun i hi => List.getElem?_set_ne (Ne.symm hi)
  refine ⟨by rw [List.length_set]; exact u.len, ⟨⟨c, by rw [gt 0 (Ne.symm h0)]; exact e, hc⟩, fun d hd => ?_⟩, fun i hi hl => ?_, fun i hi hl d hd => ?_⟩
  · rw [List.length_set]
    rcases List.mem_or_eq_of_mem_set hd with h | h
    · exact u.good.low d h
    · rw [h]; exact hx
  · rw [gt i (by omega)]; exact u.same i hi hl
  · rw [gt i (by omega)] at hd; exact u.chg i hi hl d hd
/-- a known cell is still there -/
theorem Up.get {X : List Nat} {S S1 : Store} (u : Up X S S1) {n : Nat} {c : Cell} (h : S[n]? = some c) (hx : n ∉ X) : S1[n]? = some c := by
  rw [u.same n hx (List.getElem?_eq_some_iff.mp h).1]; exact h
theorem cells_get {cs : List D} (hi : ∀ x ∈ cs, ∃ z, x = .int z) {i : Int} (h0 : 0 ≤ i) (h1 : i < cs.length) : ∃ z : Int, cs[i.toNat]? = some (.int z) := by
  have h2 : i.toNat < cs.length := by omega
  obtain ⟨z, e⟩ := hi cs[i.toNat] (List.getElem_mem h2)
  exact ⟨z, by rw [List.getElem?_eq_getElem h2, e]⟩
theorem get_in {α : Type} {xs : List α} {i : Nat} {x : α} (h : xs[i]? = some x) : ∀ k : i < xs.length, xs[i]'k = x := fun k => by
  rw [List.getElem?_eq_getElem k] at h
  exact Option.some.inj h
@[simp] theorem idx_cell {S : Store} {n : Nat} {i : Int} : idxM (.cell n) (.int i) S = (match S[n]? with
  | some (.lst xs) => M.opt (ixL xs i) S
  | none => .bad) := by
  show (match lstOf S (.cell n) with
    | some xs => M.opt (ixL xs i) S
    | none => .bad) = _
  show (match (match S[n]? with
    | some (.lst xs) => some xs
    | none => none) with
    | some xs => M.opt (ixL xs i) S
    | none => .bad) = _
  cases S[n]? with
  | none => rfl
  | some c => cases c; rfl
@[simp] theorem ixL_lit {α : Type} {xs : List α} {i : Int} (h : 0 ≤ i) : ixL xs i = xs[i.toNat]? := by
  unfold ixL
  rw [if_neg (by omega)]
theorem putM_eq {S : Store} {n : Nat} {xs : List D} {i : Int} {v : D} (h : S[n]? = some (.lst xs)) (h0 : 0 ≤ i) (h1 : i < xs.length) : putM (.cell n) (.int i) v S = .ok () (S.set n (.lst (xs.set i.toNat v))) := by
  unfold putM putD
  simp only [h, if_neg (show ¬ i < 0 by omega), if_pos h1]
@[simp] theorem len_lst {S : Store} {xs : List D} : bltD S .len [.lst xs] = some (.int xs.length) := (rfl)
@[simp] theorem len_tup {S : Store} {xs : List D} : bltD S .len [.tup xs] = some (.int xs.length) := (rfl)
@[simp] theorem int_int {S : Store} {i : Int} : bltD S .int [.int i] = some (.int i) := (rfl)
section
variable {fuel : Nat}
theorem grab_of {S : Store} (h : Good S) {m : Int} (hm : 0 < m) {l : Nat} (hl : 1 ≤ l) : ∃ r S', callF fs fuel l 10 [.cell 0, .int m] S = .ok (.int r) S' ∧ 0 ≤ r ∧ r < m ∧ Up [0] S S' := by
  obtain ⟨l, rfl⟩ : ∃ j, l = j + 1 := ⟨l - 1, by omega⟩
  obtain ⟨c, e0, a, b, cs, rfl, hi, hne, ha⟩ := h.sack
  have hlen : 0 < (cs.length : Int) := by
    have := List.length_pos_iff.mpr hne
    omega
  have m0 : 0 ≤ (a + 1) % (cs.length : Int) := Int.emod_nonneg _ (by omega)
  have m1 : (a + 1) % (cs.length : Int) < cs.length := Int.emod_lt_of_pos _ hlen
  obtain ⟨z, ez⟩ := cells_get hi m0 m1
  have ez2 := get_in ez
  have p1 := putM_eq (v := .int (a + 1)) (i := 0) e0 (by omega) (by simp)
  simp only [Int.toNat_zero, List.set_cons_zero] at p1
  have g1 := get_set (d := .lst [.int (a + 1), .int b, .lst cs]) e0
  have p2 := fun v => putM_eq (v := v) (i := 1) g1 (by omega) (by simp)
  simp only [Int.toNat_one, List.set_cons_zero, List.set_cons_succ, List.set_set] at p2
  have up := up_set h (c := .lst [.int (a + 1), .int ((b * 127 + z * 71 + (a + 1) * 4933) % 996629), .lst cs]) ⟨_, _, cs, rfl, hi, hne, by omega⟩
  have g2 := get_set (d := .lst [.int (a + 1), .int ((b * 127 + z * 71 + (a + 1) * 4933) % 996629), .lst cs]) e0
  refine ⟨((b * 127 + z * 71 + (a + 1) * 4933) % 996629) / 19 % m, _, ?_, Int.emod_nonneg _ (by omega), Int.emod_lt_of_pos _ hm, up.leave h⟩
  rw [callF_succ (fn := f_law_grab) rfl rfl]
  refine call_low (C := ⟨callF fs fuel l, fuel⟩) (fn := f_law_grab) (xs := [.cell 0, .int m]) (S := S) (S1 := S.set 0 (.lst [.int (a + 1), .int ((b * 127 + z * 71 + (a + 1) * 4933) % 996629), .lst cs])) (d := .int (((b * 127 + z * 71 + (a + 1) * 4933) % 996629) / 19 % m)) rfl rfl ?_ rfl (up.lows h)
  · have t1 : -two64 < (127 : Int) ∧ (127 : Int) < two64 := by decide
    have t2 : -two64 < (71 : Int) ∧ (71 : Int) < two64 := by decide
    have t3 : -two64 < (4933 : Int) ∧ (4933 : Int) < two64 := by decide
    simp (disch := (first | decide | assumption | (simp only [List.length_append, List.length_cons, List.length_nil, List.length_map] <;> omega) | omega)) [f_law_grab, e0, p1, g1, p2, g2, ez, ez2, t1, t2, t3]
theorem habit_of {S : Store} (h : Good S) {p m : Int} (hm : 0 < m) {l : Nat} (hl : 2 ≤ l) : ∃ r S', callF fs fuel l 11 [.cell 0, .int p, .int m] S = .ok (.int r) S' ∧ 0 ≤ r ∧ r < m ∧ Up [0] S S' := by
  obtain ⟨l, rfl⟩ : ∃ j, l = j + 1 := ⟨l - 1, by omega⟩
  obtain ⟨c, e0, a, b, cs, rfl, hi, hne, ha⟩ := id h.sack
  have hlen : 0 < (cs.length : Int) := by
    have := List.length_pos_iff.mpr hne
    omega
  have m0 : 0 ≤ (p * 7 + 3) % (cs.length : Int) := Int.emod_nonneg _ (by omega)
  have m1 : (p * 7 + 3) % (cs.length : Int) < cs.length := Int.emod_lt_of_pos _ hlen
  obtain ⟨z, ez⟩ := cells_get hi m0 m1
  have ez2 := get_in ez
  obtain ⟨r, S1, e1, r0, r1, u1⟩ := grab_of (fuel := fuel) h hm (l := l) (by omega)
  have t1 : -two64 < (7 : Int) ∧ (7 : Int) < two64 := by decide
  have t2 : -two64 < (2 : Int) ∧ (2 : Int) < two64 := by decide
  rw [callF_succ (fn := f_law_habit) rfl rfl]
  have u0 := Up.refl0 h
  by_cases c2 : (z / 13 + p * 2) % 7 = 2
  · refine ⟨0, _, call_low (C := ⟨callF fs fuel l, fuel⟩) (fn := f_law_habit) (xs := [.cell 0, .int p, .int m]) (S := S) (S1 := S) (d := .int 0) rfl rfl (by
      simp (disch := (first | decide | assumption | (simp only [List.length_append, List.length_cons, List.length_nil, List.length_map] <;> omega) | omega)) [f_law_habit, e0, ez, ez2, t1, t2, c2]) rfl (u0.lows h), by omega, hm, u0.leave h⟩
  · by_cases c5 : (z / 13 + p * 2) % 7 = 5
    · refine ⟨m - 1, _, call_low (C := ⟨callF fs fuel l, fuel⟩) (fn := f_law_habit) (xs := [.cell 0, .int p, .int m]) (S := S) (S1 := S) (d := .int (m - 1)) rfl rfl (by
        simp (disch := (first | decide | assumption | (simp only [List.length_append, List.length_cons, List.length_nil, List.length_map] <;> omega) | omega)) [f_law_habit, e0, ez, ez2, t1, t2, c2, c5]) rfl (u0.lows h), by omega, by omega, u0.leave h⟩
    · by_cases c6 : (z / 13 + p * 2) % 7 = 6
      · refine ⟨z / 37 % m, _, call_low (C := ⟨callF fs fuel l, fuel⟩) (fn := f_law_habit) (xs := [.cell 0, .int p, .int m]) (S := S) (S1 := S) (d := .int (z / 37 % m)) rfl rfl (by
          simp (disch := (first | decide | assumption | (simp only [List.length_append, List.length_cons, List.length_nil, List.length_map] <;> omega) | omega)) [f_law_habit, e0, ez, ez2, t1, t2, c2, c5, c6]) rfl (u0.lows h), Int.emod_nonneg _ (by omega), Int.emod_lt_of_pos _ hm, u0.leave h⟩
      · refine ⟨r, _, call_low (C := ⟨callF fs fuel l, fuel⟩) (fn := f_law_habit) (xs := [.cell 0, .int p, .int m]) (S := S) (S1 := S1) (d := .int r) rfl rfl (by
          simp (disch := (first | decide | assumption | (simp only [List.length_append, List.length_cons, List.length_nil, List.length_map] <;> omega) | omega)) [f_law_habit, e0, ez, ez2, t1, t2, c2, c5, c6, e1]) rfl (u1.lows h), r0, r1, u1.leave h⟩
end
end Lw
set_option linter.all false
set_option maxRecDepth 100000
set_option maxHeartbeats 4000000
/-! K4h: names. -/
namespace Lw
open Fb
/-- a list of names, by value or a cell -/
def Taken (S : Store) (d : D) : Prop := (∃ ts : List (List Nat), d = .lst (ts.map .str)) ∨ ∃ n, ∃ ts : List (List Nat), n ≠ 0 ∧ d = .cell n ∧ S[n]? = some (.lst (ts.map .str))
theorem Taken.up {S S1 : Store} {d : D} (h : Taken S d) (u : Up [0] S S1) : Taken S1 d := by
  rcases h with h | ⟨n, ts, h0, h1, h2⟩
  · exact .inl h
  · exact .inr ⟨n, ts, h0, h1, u.get h2 (by simpa using h0)⟩
theorem Taken.of {S : Store} {d : D} (h : Taken S d) : ∃ ts : List (List Nat), lstOf S d = some (ts.map .str) ∧ ((∃ xs, d = .lst xs) ∨ ∃ n, d = .cell n) := by
  rcases h with ⟨ts, rfl⟩ | ⟨n, ts, h0, rfl, h2⟩
  · exact ⟨ts, rfl, .inl ⟨_, rfl⟩⟩
  · refine ⟨ts, ?_, .inr ⟨n, rfl⟩⟩
    show (match S[n]? with
      | some (.lst xs) => some xs
      | none => none) = _
    rw [h2]
abbrev taboo : List D := [.str [108, 101, 116], .str [111, 117, 116], .str [99, 97, 108, 108], .str [105, 102], .str [101, 108, 115, 101], .str [101, 110, 100], .str [103, 105, 118, 101], .str [102, 117, 110], .str [99, 97, 115, 101], .str [119, 114, 97, 112, 115], .str [103, 114, 111, 117, 110, 100, 115], .str [115, 116, 97, 114, 116], .str [98, 97, 115, 101]]
abbrev abc : List Nat := [101, 116, 97, 111, 105, 110, 115, 104, 114, 100, 108, 117, 99, 109, 102, 119, 121, 112, 118, 98, 103, 107, 106, 113, 120, 122]
theorem abc_at {i : Int} (h0 : 0 ≤ i) (h1 : i < 26) (S : Store) : ∃ c, idxM (.str abc) (.int i) S = .ok (.str [c]) S := by
  have h2 : i.toNat < abc.length := by show i.toNat < 26; omega
  refine ⟨abc[i.toNat], ?_⟩
  show (if abc.length ≤ SL then M.opt ((ixL abc i).map fun c => D.str [c]) S else .bad) = _
  rw [if_pos (by decide), ixL_lit h0, List.getElem?_eq_getElem h2]
  rfl
section
variable {fuel : Nat}
theorem taboo_of {l : Nat} (hl : 1 ≤ l) : ∀ S, callF fs fuel l 12 [] S = .ok (.tup taboo) S := by
  intro S
  obtain ⟨l, rfl⟩ : ∃ j, l = j + 1 := ⟨l - 1, by omega⟩
  rw [callF_succ (fn := f_law_taboo) rfl rfl]
  refine call_freeE (S' := []) rfl rfl rfl ?_
  simp (disch := (first | decide | assumption | (simp only [List.length_append, List.length_cons, List.length_nil, List.length_map] <;> omega) | omega)) [f_law_taboo]
theorem call_it_of {S : Store} (h : Good S) {p : Int} {tk : D} (ht : Taken S tk) {l : Nat} (hl : 3 ≤ l) : ∃ w S', callF fs fuel l 13 [.cell 0, .int p, tk] S = .ok (.str w) S' ∧ w.length ≤ 8 ∧ Up [0] S S' := by
  obtain ⟨l, rfl⟩ : ∃ j, l = j + 1 := ⟨l - 1, by omega⟩
  obtain ⟨r, S1, e1, r0, r1, u1⟩ := habit_of (fuel := fuel) h (p := p) (m := 8) (by omega) (l := l) (by omega)
  have hC : ∀ σ : Ev, σ = [some (.cell 0), some (.int p), some tk, some (.str abc), none, none] → ∃ ys S2, compM (elG ⟨callF fs fuel l, fuel⟩ [5] (.nm 5) .nil (.idx (.var 3) (.call 10 (.cons (.var 0) (.cons (.lit (.int 26)) .nil)))) σ) (rngD 0 (1 + r).toNat) 0 S1 = .ok ys S2 ∧ (∀ y ∈ ys, ∃ z, y = .str z ∧ z.length ≤ 1) ∧ ys.length = (rngD 0 (1 + r).toNat).length ∧ Up [0] S S2 := fun σ hσ => by
    refine compM_ex (fun S' => Up [0] S S') (fun y => ∃ z, y = .str z ∧ z.length ≤ 1) (fun x hx S' u' => ?_) (by rw [rng_len]; omega) u1
    obtain ⟨q, S3, e3, q0, q1, u3⟩ := grab_of (fuel := fuel) u'.good (m := 26) (by omega) (l := l) (by omega)
    obtain ⟨ch, e4⟩ := abc_at q0 q1 S3
    refine ⟨.str [ch], S3, el_nm ?_, ⟨[ch], rfl, Nat.le_refl _⟩, u'.trans u3⟩
    subst hσ
    simp (disch := (first | decide | assumption | (simp only [List.length_append, List.length_cons, List.length_nil, List.length_map] <;> omega) | omega)) [wipeE, e3, e4]
  obtain ⟨ys, S2, e2, hy, hyl, u2⟩ := hC _ rfl
  obtain ⟨zs, rfl, hz⟩ := strs_of hy
  rw [List.length_map, rng_len] at hyl
  have hsum := sum_le hz
  have hjl := join_len [] zs
  simp only [List.length_nil] at hjl
  have ej := join_seq (S := S2) (s := []) (d := .lst (zs.map .str)) zs rfl rfl (by simp only [List.length_nil]; omega)
  have ht2 : Taken S2 tk := ht.up u2
  obtain ⟨ts, et, ek⟩ := ht2.of
  have tb := taboo_of (fuel := fuel) (l := l) (by omega) S2
  have lw : ∀ w : List Nat, w.length ≤ 8 → ∀ x5 : Option D, (∃ σ' S', forL (patB (.nm 5) fun σ' => exS ⟨callF fs fuel l, fuel⟩ (.seq (.ite (.and (.cmp .notIn (.var 4) (.var 2)) (.cmp .notIn (.var 4) (.call 12 .nil)))
      (.seq (.ret (.var 4))
      .skip)
      .skip)
      (.seq (.set 4 (.bin .add (.idx (.var 3) (.bin .fdiv (.var 5) (.lit (.int 26)))) (.idx (.var 3) (.bin .mod (.var 5) (.lit (.int 26))))))
      .skip)) σ') (rngD 0 180) [some (.cell 0), some (.int p), some tk, some (.str abc), some (.str w), x5] S2 = .ok (.nx σ') S' ∧ ∃ w x5, w.length ≤ 8 ∧ σ' = [some (.cell 0), some (.int p), some tk, some (.str abc), some (.str w), x5] ∧ S' = S2) ∨ ∃ d S', forL (patB (.nm 5) fun σ' => exS ⟨callF fs fuel l, fuel⟩ (.seq (.ite (.and (.cmp .notIn (.var 4) (.var 2)) (.cmp .notIn (.var 4) (.call 12 .nil)))
      (.seq (.ret (.var 4))
      .skip)
      .skip)
      (.seq (.set 4 (.bin .add (.idx (.var 3) (.bin .fdiv (.var 5) (.lit (.int 26)))) (.idx (.var 3) (.bin .mod (.var 5) (.lit (.int 26))))))
      .skip)) σ') (rngD 0 180) [some (.cell 0), some (.int p), some tk, some (.str abc), some (.str w), x5] S2 = .ok (.rt d) S' ∧ ∃ w, w.length ≤ 8 ∧ d = .str w ∧ S' = S2 := fun w hw x5 => by
    have q := forL_rx (f := patB (.nm 5) fun σ' => exS ⟨callF fs fuel l, fuel⟩ (.seq (.ite (.and (.cmp .notIn (.var 4) (.var 2)) (.cmp .notIn (.var 4) (.call 12 .nil)))
      (.seq (.ret (.var 4))
      .skip)
      .skip)
      (.seq (.set 4 (.bin .add (.idx (.var 3) (.bin .fdiv (.var 5) (.lit (.int 26)))) (.idx (.var 3) (.bin .mod (.var 5) (.lit (.int 26))))))
      .skip)) σ') (fun _ σ' S' => ∃ w x5, w.length ≤ 8 ∧ σ' = [some (.cell 0), some (.int p), some tk, some (.str abc), some (.str w), x5] ∧ S' = S2) (fun d S' => ∃ w, w.length ≤ 8 ∧ d = .str w ∧ S' = S2) (xs := rngD 0 180) (j := 0) (σ := [some (.cell 0), some (.int p), some tk, some (.str abc), some (.str w), x5]) (S := S2) (fun i x σ S' hx hi => by
        obtain ⟨w, x5, hw, rfl, rfl⟩ := hi
        obtain ⟨rfl, hi⟩ := rng_at hx
        obtain ⟨c1, f1⟩ := abc_at (i := (i : Int) / 26) (by omega) (by omega) S'
        obtain ⟨c2, f2⟩ := abc_at (i := (i : Int) % 26) (by omega) (by omega) S'
        have n1 := o_notL (x := w) et ek
        have n2 := o_notT (S := S') (x := w) (ys := taboo) rfl
        generalize memD (.str w) (ts.map .str) = m1 at n1
        generalize memD (.str w) taboo = m2 at n2
        cases m1 with
        | true =>
          refine .inl ⟨[some (.cell 0), some (.int p), some tk, some (.str abc), some (.str [c1, c2]), some (.int i)], S', ?_, [c1, c2], _, by simp, rfl, rfl⟩
          simp (disch := (first | decide | assumption | (simp only [List.length_append, List.length_cons, List.length_nil, List.length_map] <;> omega) | omega)) [n1, n2, tb, f1, f2]
        | false =>
          cases m2 with
          | true =>
            refine .inl ⟨[some (.cell 0), some (.int p), some tk, some (.str abc), some (.str [c1, c2]), some (.int i)], S', ?_, [c1, c2], _, by simp, rfl, rfl⟩
            simp (disch := (first | decide | assumption | (simp only [List.length_append, List.length_cons, List.length_nil, List.length_map] <;> omega) | omega)) [n1, n2, tb, f1, f2]
          | false =>
            refine .inr ⟨.str w, S', ?_, w, hw, rfl, rfl⟩
            simp (disch := (first | decide | assumption | (simp only [List.length_append, List.length_cons, List.length_nil, List.length_map] <;> omega) | omega)) [n1, n2, tb]) ⟨w, x5, hw, rfl, rfl⟩
    exact q
  have hfr : D.frees [.cell 0, .int p, tk] = false := rfl
  rw [callF_succ (fn := f_law_call_it) rfl rfl]
  rcases lw (joinD [] zs) (by omega) none with ⟨σ', S', e5, w, x5, hw, rfl, rfl⟩ | ⟨d, S', e5, w, hw, rfl, rfl⟩
  · refine ⟨w, _, call_low (C := ⟨callF fs fuel l, fuel⟩) (fn := f_law_call_it) (xs := [.cell 0, .int p, tk]) (S := S) (S1 := S') (d := .str w) rfl hfr ?_ rfl (u2.lows h), hw, u2.leave h⟩
    simp (disch := (first | decide | assumption | (simp only [List.length_append, List.length_cons, List.length_nil, List.length_map] <;> omega) | omega)) [f_law_call_it, e1, x_comp2, -x_comp, e2, recvOk, ej, e5]
  · refine ⟨w, _, call_low (C := ⟨callF fs fuel l, fuel⟩) (fn := f_law_call_it) (xs := [.cell 0, .int p, tk]) (S := S) (S1 := S') (d := .str w) rfl hfr ?_ rfl (u2.lows h), hw, u2.leave h⟩
    simp (disch := (first | decide | assumption | (simp only [List.length_append, List.length_cons, List.length_nil, List.length_map] <;> omega) | omega)) [f_law_call_it, e1, x_comp2, -x_comp, e2, recvOk, ej, e5]
end
end Lw
set_option linter.all false
set_option maxRecDepth 100000
set_option maxHeartbeats 4000000
/-! K4i: rows of names, shuffles. -/
namespace Lw
open Fb
theorem add_own {S : Store} {x : D} {n : Nat} {a b : List D} (hx : ownOf S x = some a) (hk : (∃ xs, x = .lst xs) ∨ ∃ n, x = .cell n) (hy : S[n]? = some (.lst b)) (hl : a.length + b.length ≤ 16777216) : binM .add x (.cell n) S = .ok (.lst (a ++ b)) S := by
  have e : ownOf S (.cell n) = some b := by
    show (match S[n]? with
      | some (.lst xs) => some xs
      | none => none) = _
    rw [hy]
  have e2 : addD S x (.cell n) = (match ownOf S x, ownOf S (.cell n) with
    | some a, some b => if a.length + b.length ≤ SL then some (D.lst (a ++ b)) else none
    | _, _ => none) := by rcases hk with ⟨xs, rfl⟩ | ⟨m, rfl⟩ <;> rfl
  show M.opt (addD S x (.cell n)) S = _
  rw [e2, hx, e]
  show M.opt (if a.length + b.length ≤ SL then some (D.lst (a ++ b)) else none) S = _
  rw [if_pos (show a.length + b.length ≤ SL from hl)]; rfl
theorem Taken.own {S : Store} {d : D} (h : Taken S d) : ∃ ts : List (List Nat), ownOf S d = some (ts.map .str) ∧ ((∃ xs, d = .lst xs) ∨ ∃ n, d = .cell n) := by
  rcases h with ⟨ts, rfl⟩ | ⟨n, ts, h0, rfl, h2⟩
  · exact ⟨ts, rfl, .inl ⟨_, rfl⟩⟩
  · refine ⟨ts, ?_, .inr ⟨n, rfl⟩⟩
    show (match S[n]? with
      | some (.lst xs) => some xs
      | none => none) = _
    rw [h2]
theorem frz_cellK {S : Store} {n k : Nat} {xs : List D} (l : Nat) (hn : ¬ n < k) (h : S[n]? = some (.lst xs)) (hf : D.frees xs = true) : frz k S (l + 1) (.cell n) = some (.lst xs) := by
  show (if n < k then some (D.cell n) else match S[n]? with
    | some (.lst xs) => (xs.mapM (frz k S l)).map D.lst
    | none => none) = _
  rw [if_neg hn, h]
  simp only [mapM_frz_low (lows_free (k := k) hf)]
  rfl
@[simp] theorem x_neg {C : Cf} {σ : Ev} {S : Store} {a : IE} : evE C (.neg a) σ S = Res.bnd (evE C a σ S) fun x => match x with
    | .int i => M.ret (.int (-i))
    | _ => M.bad := rfl
theorem lenC {S : Store} {n : Nat} {xs : List D} (h : S[n]? = some (.lst xs)) : bltD S .len [.cell n] = some (.int xs.length) := by
  show (seqOf S (.cell n)).map (fun ys => D.int ys.length) = _
  have e : seqOf S (.cell n) = some xs := by
    show (match S[n]? with
      | some (.lst xs) => some xs
      | none => none) = _
    rw [h]
  rw [e]; rfl
theorem popA {S : Store} {n : Nat} {xs : List D} {i : Int} {y : D} (h : S[n]? = some (.lst xs)) (h0 : 0 ≤ i) (hl : xs.length ≤ 16777216) (hy : xs[i.toNat]? = some y) : mthD S .popAt (.cell n) [.int i] = some (y, S.set n (.lst (xs.eraseIdx i.toNat))) := by
  have hlt := (List.getElem?_eq_some_iff.mp hy).1
  show (match S[n]? with
    | some (.lst ys) => if 0 ≤ i ∧ i < ys.length ∧ ys.length ≤ SL then (ys[i.toNat]?).map fun y => (y, S.set n (.lst (ys.eraseIdx i.toNat))) else none
    | none => none) = _
  rw [h]
  simp only
  rw [if_pos ⟨h0, by omega, hl⟩, hy]; rfl
theorem short_app {ws : List (List Nat)} {w : List Nat} (h : ∀ z ∈ ws, z.length ≤ 8) (hw : w.length ≤ 8) : ∀ z ∈ ws ++ [w], z.length ≤ 8 := fun z hz => by
  rcases List.mem_append.mp hz with e | e
  · exact h z e
  · rw [List.mem_singleton.mp e]; exact hw
theorem Up.push0 {X : List Nat} {S S1 : Store} {c : Cell} (h : Good S) (u : Up X (S ++ [c]) S1) : Up X S S1 :=
  ⟨by have := u.len; rw [List.length_append] at this; omega, u.good, fun i hi hl => by
    rw [u.same i hi (by rw [List.length_append]; omega)]
    exact List.getElem?_append_left hl, fun i hi hl => u.chg i hi (by rw [List.length_append]; omega)⟩
section
variable {fuel : Nat}
theorem row_of_of {S : Store} (h : Good S) {p : Int} {m : Nat} (hm : m ≤ 1000) {tk : D} (ht : Taken S tk) (hts : ∀ ts : List (List Nat), ownOf S tk = some (ts.map .str) → ts.length ≤ 1000) {l : Nat} (hl : 4 ≤ l) :
    ∃ (ws : List (List Nat)) (n : Nat) (S' : Store), callF fs fuel l 14 [.cell 0, .int p, .int m, tk] S = .ok (.cell n) S' ∧ S'[n]? = some (.lst (ws.map .str)) ∧ ws.length = m ∧ (∀ w ∈ ws, w.length ≤ 8) ∧ S.length ≤ n ∧ Up [0] S S' := by
  obtain ⟨l, rfl⟩ : ∃ j, l = j + 1 := ⟨l - 1, by omega⟩
  have u0 : Up [0] S (S ++ [.lst []]) := (Up.refl0 h).push rfl
  have hn0 : S.length ≠ 0 := by have := h.pos; omega
  obtain ⟨ts, eo, ek⟩ := ht.own
  have htl := hts ts eo
  have q := forL_ix (f := patB (.nm 5) fun σ' => exS ⟨callF fs fuel l, fuel⟩ (.seq (.ex (.mth .append (.var 4) (.cons (.call 13 (.cons (.var 0) (.cons (.var 1) (.cons (.bin .add (.var 3) (.var 4)) .nil)))) .nil))) .skip) σ')
    (fun i σ S' => ∃ (ws : List (List Nat)) (x5 : Option D), σ = [some (.cell 0), some (.int p), some (.int m), some tk, some (.cell S.length), x5] ∧ S'[S.length]? = some (.lst (ws.map .str)) ∧ ws.length = i ∧ (∀ w ∈ ws, w.length ≤ 8) ∧ Up [0] S S')
    (xs := rngD 0 m) (j := 0) (σ := [some (.cell 0), some (.int p), some (.int m), some tk, some (.cell S.length), none]) (S := S ++ [.lst []]) (fun i x σ S' hx hi => by
      obtain ⟨ws, x5, rfl, hS, hw, hw8, u⟩ := hi
      obtain ⟨rfl, him⟩ := rng_at hx
      have ht' := ht.up u
      have eo' : ownOf S' tk = some (ts.map .str) := by
        rcases ht with ⟨ts2, rfl⟩ | ⟨n2, ts2, h0, rfl, h2⟩
        · exact eo
        · have := u.get h2 (by simpa using h0)
          show (match S'[n2]? with
            | some (.lst xs) => some xs
            | none => none) = _
          rw [this]
          have e3 : (match S[n2]? with
            | some (.lst xs) => some xs
            | none => none) = some (ts.map D.str) := eo
          rw [h2] at e3
          exact e3
      have ea := add_own eo' ek hS (by rw [List.length_map, List.length_map]; omega)
      rw [← List.map_append] at ea
      obtain ⟨w, S2, e2, hw2, u2⟩ := call_it_of (fuel := fuel) u.good (p := p) (tk := .lst ((ts ++ ws).map .str)) (.inl ⟨_, rfl⟩) (l := l) (by omega)
      have hS2 := u2.get hS (by simpa using hn0)
      have eapp := app_eq hS2 (by rw [List.length_map]; omega) (.str w)
      have u3 := (u.trans u2).put (n := S.length) (xs := ws.map .str ++ [.str w]) (Nat.le_refl _) hn0 (by
        rw [show ws.map D.str ++ [D.str w] = (ws ++ [w]).map .str by simp]
        exact lows_free (frees_strs _))
      refine ⟨[some (.cell 0), some (.int p), some (.int m), some tk, some (.cell S.length), some (.int i)], _, ?_, ws ++ [w], some (.int i), rfl, (get_set hS2).trans (by simp), by simp [hw], short_app hw8 hw2, u3⟩
      simp only [List.map_append] at e2 ea
      simp (disch := (first | decide | assumption | (simp only [List.length_append, List.length_cons, List.length_nil, List.length_map] <;> omega) | omega)) [ea, e2, recvOk, eapp]) ⟨[], none, rfl, by rw [get_new]; rfl, rfl, fun w hw => (nomatch hw), u0⟩
  obtain ⟨σ', S', e1, ws, x5, rfl, hS, hw, hw8, u⟩ := q
  rw [rng_len] at hw
  refine ⟨ws, S.length, S', ?_, hS, by omega, hw8, Nat.le_refl _, u⟩
  rw [callF_succ (fn := f_law_row_of) rfl rfl]
  have er : exS ⟨callF fs fuel l, fuel⟩ f_law_row_of.body [some (.cell 0), some (.int p), some (.int m), some tk, none, none] S = .ok (.rt (.cell S.length)) S' := by
    have er2 := fun S => rngM_nat (S := S) (show m ≤ 1000000 by omega)
    simp (disch := (first | decide | assumption | (simp only [List.length_append, List.length_cons, List.length_nil, List.length_map] <;> omega) | omega)) [f_law_row_of, er2, -x_rngM, e1]
  exact call_keepE rfl er
/-- the items of a list or tuple, by value or an own cell -/
def Things (S : Store) (d : D) (xs : List D) : Prop := d = .lst xs ∨ d = .tup xs ∨ ∃ n, n ≠ 0 ∧ d = .cell n ∧ S[n]? = some (.lst xs)
theorem Things.list {S : Store} {d : D} {xs : List D} (h : Things S d xs) : bltD S .list [d] = some (.lst xs) ∧ bltD S .len [d] = some (.int xs.length) := by
  rcases h with rfl | rfl | ⟨n, _, rfl, h⟩
  · exact ⟨rfl, rfl⟩
  · exact ⟨rfl, rfl⟩
  · refine ⟨?_, lenC h⟩
    show (seqOf S (.cell n)).map D.lst = _
    have e : seqOf S (.cell n) = some xs := by
      show (match S[n]? with
        | some (.lst xs) => some xs
        | none => none) = _
      rw [h]
    rw [e]; rfl
theorem shuf_of {S : Store} (h : Good S) {d : D} {xs : List D} (ht : Things S d xs) (hf : D.frees xs = true) (hm : xs.length ≤ 1000) {l : Nat} (hl : 2 ≤ l) : ∃ ys S', callF fs fuel l 15 [.cell 0, d] S = .ok (.lst ys) S' ∧ ys.Perm xs ∧ Up [0] S S' := by
  obtain ⟨l, rfl⟩ : ∃ j, l = j + 1 := ⟨l - 1, by omega⟩
  obtain ⟨el1, el2⟩ := ht.list
  have hp := h.pos
  have u0 : Up [0] S (S ++ [.lst xs] ++ [.lst []]) := ((Up.refl0 h).push (lows_free hf)).push rfl
  have ff : ∀ ys : List D, ys.Perm xs → D.frees ys = true := fun ys hy => by
    have all : ∀ zs : List D, D.frees zs = true ↔ ∀ z ∈ zs, D.free z = true := fun zs => by
      induction zs with
      | nil => simp [D.frees]
      | cons z r ih => simp [D.frees, ih]
    rw [all] at hf ⊢
    exact fun z hz => hf z (hy.mem_iff.mp hz)
  have q := forL_ix (f := patB (.nm 2) fun σ' => exS ⟨callF fs fuel l, fuel⟩ (.seq (.ex (.mth .append (.var 4) (.cons (.mth .popAt (.var 3) (.cons (.call 10 (.cons (.var 0) (.cons (.blt .len (.cons (.var 3) .nil)) .nil))) .nil)) .nil))) .skip) σ')
    (fun i σ S' => ∃ (rest row : List D) (x2 : Option D), σ = [some (.cell 0), some d, x2, some (.cell S.length), some (.cell (S.length + 1))] ∧ S'[S.length]? = some (.lst rest) ∧ S'[S.length + 1]? = some (.lst row) ∧ rest.length + i = xs.length ∧ (row ++ rest).Perm xs ∧ Up [0] S S')
    (xs := rngD 0 xs.length) (j := 0) (σ := [some (.cell 0), some d, none, some (.cell S.length), some (.cell (S.length + 1))]) (S := S ++ [.lst xs] ++ [.lst []]) (fun i x σ S' hx hi => by
      obtain ⟨rest, row, x2, rfl, h1, h2, h3, h4, u⟩ := hi
      obtain ⟨rfl, him⟩ := rng_at hx
      have hlp := h4.length_eq
      rw [List.length_append] at hlp
      obtain ⟨r, S2, e2, r0, r1, u2⟩ := grab_of (fuel := fuel) u.good (m := rest.length) (by omega) (l := l) (by omega)
      have g1 := u2.get h1 (fun z => by have := List.mem_singleton.mp z; omega)
      have g2 := u2.get h2 (fun z => by have := List.mem_singleton.mp z; omega)
      have hlt : r.toNat < rest.length := by omega
      have ep := popA g1 r0 (by omega) (List.getElem?_eq_getElem hlt)
      have frr : D.frees (row ++ rest) = true := ff _ h4
      rw [frees_app] at frr
      have fr2 := Bool.and_eq_true_iff.mp frr
      have frp : (row ++ [rest[r.toNat]] ++ rest.eraseIdx r.toNat).Perm xs := by
        refine List.Perm.trans ?_ h4
        rw [List.append_assoc]
        exact List.Perm.append_left row (perm_erase hlt)
      have fr3 : D.frees (row ++ [rest[r.toNat]] ++ rest.eraseIdx r.toNat) = true := ff _ frp
      rw [frees_app] at fr3
      have fr4 := Bool.and_eq_true_iff.mp fr3
      have g3 : (S2.set S.length (.lst (rest.eraseIdx r.toNat)))[S.length + 1]? = some (.lst row) := by rw [List.getElem?_set_ne (by omega)]; exact g2
      have ea := app_eq g3 (by omega) rest[r.toNat]
      have u3 := (u.trans u2).put (n := S.length) (xs := rest.eraseIdx r.toNat) (Nat.le_refl _) (by omega) (lows_free fr4.2)
      have u4 := u3.put (n := S.length + 1) (xs := row ++ [rest[r.toNat]]) (by omega) (by omega) (lows_free fr4.1)
      refine ⟨[some (.cell 0), some d, some (.int i), some (.cell S.length), some (.cell (S.length + 1))], _, ?_, rest.eraseIdx r.toNat, row ++ [rest[r.toNat]], some (.int i), rfl, ?_, get_set g3, ?_, frp, u4⟩
      · have el := lenC h1
        simp (disch := (first | decide | assumption | (simp only [List.length_append, List.length_cons, List.length_nil, List.length_map] <;> omega) | omega)) [el, e2, recvOk, ep, ea]
      · rw [List.getElem?_set_ne (by omega)]
        exact get_set g1
      · rw [List.length_eraseIdx_of_lt hlt]; omega) ⟨xs, [], none, rfl, by rw [List.append_assoc]; simp, by simp, by simp, by simp, u0⟩
  obtain ⟨σ', S', e1, rest, row, x2, rfl, h1, h2, h3, h4, u⟩ := q
  rw [rng_len] at h3
  have hr : rest = [] := List.eq_nil_of_length_eq_zero (by omega)
  subst hr
  rw [List.append_nil] at h4
  refine ⟨row, _, call_lowZ (C := ⟨callF fs fuel l, fuel⟩) (fn := f_law_shuffled) (xs := [.cell 0, d]) (S := S) (S1 := S') (d := .cell (S.length + 1)) (d' := .lst row) rfl rfl ?_ (frz_cellK 3 (by omega) h2 (ff _ h4)) (u.lows h), h4, u.leave h⟩
  have el3 : bltD (S ++ [.lst xs] ++ [.lst []]) .len [d] = some (.int xs.length) := by
    rcases ht with rfl | rfl | ⟨n, hn, rfl, hg⟩
    · rfl
    · rfl
    · refine lenC ?_
      rw [List.append_assoc, List.getElem?_append_left (List.getElem?_eq_some_iff.mp hg).1]; exact hg
  simp only [List.append_assoc, List.cons_append, List.nil_append] at e1 el3
  have er2 := fun S => rngM_nat (S := S) (show xs.length ≤ 1000000 by omega)
  simp (disch := (first | decide | assumption | (simp only [List.length_append, List.length_cons, List.length_nil, List.length_map] <;> omega) | omega)) [f_law_shuffled, el1, el3, er2, -x_rngM, e1]
end
end Lw
set_option linter.all false
set_option maxRecDepth 100000
set_option maxHeartbeats 4000000
/-! K4j: names of a block, leaves, sums. -/
namespace Lw
open Fb
/-- the names known so far, in a cell -/
def Names (S : Store) (n : Nat) : Prop := n ≠ 0 ∧ ∃ ns : List (List Nat), S[n]? = some (.lst (ns.map .str)) ∧ (∀ w ∈ ns, w.length ≤ 8) ∧ ns.length ≤ 100
theorem Names.up {S S1 : Store} {n : Nat} (h : Names S n) (u : Up [0] S S1) : Names S1 n := by
  obtain ⟨h0, ns, h1, h2⟩ := h
  exact ⟨h0, ns, u.get h1 (by simpa using h0), h2⟩
theorem Up.widen {X Y : List Nat} {S S1 : Store} (u : Up X S S1) (hX : ∀ i ∈ X, i ∈ Y) (hY : ∀ i ∈ Y, ∀ c, S[i]? = some c → c.low 0 = true) : Up Y S S1 :=
  ⟨u.len, u.good, fun i hi hl => u.same i (fun z => hi (hX i z)) hl, fun i hi hl c hc => by
    by_cases hx : i ∈ X
    · exact u.chg i hx hl c hc
    · rw [u.same i hx hl] at hc; exact hY i hi c hc⟩
theorem Names.low {S : Store} {n : Nat} (h : Names S n) : ∀ c, S[n]? = some c → c.low 0 = true := fun c hc => by
  obtain ⟨_, ns, h1, _⟩ := h
  rw [h1] at hc
  cases hc
  exact lows_free (frees_strs ns)
theorem Good.low0 {S : Store} (h : Good S) : ∀ c, S[0]? = some c → c.low 0 = true := fun c hc => by
  obtain ⟨d, e, hd⟩ := h.sack
  rw [e] at hc
  cases hc
  exact hd.low 0
theorem Names.widen {S S1 : Store} {n : Nat} (h : Names S n) (g : Good S) (u : Up [0] S S1) : Up [0, n] S S1 :=
  u.widen (fun i hi => by rw [List.mem_singleton.mp hi]; exact List.mem_cons_self) fun i hi => by
    rcases List.mem_cons.mp hi with e | e
    · rw [e]; exact g.low0
    · rw [List.mem_singleton.mp e]; exact h.low
theorem Up.putX {X : List Nat} {S S1 : Store} (u : Up X S S1) {n : Nat} {xs : List D} (hn : n ∈ X) (h0 : n ≠ 0) (hx : D.frees xs = true) (hlt : n < S1.length) : Up X S (S1.set n (.lst xs)) := by
  obtain ⟨c, e, hc⟩ := u.good.sack
  have gt : ∀ i, i ≠ n → (S1.set n (Cell.lst xs))[i]? = S1[i]? := fun i hi => List.getElem?_set_ne (Ne.symm hi)
  refine ⟨by rw [List.length_set]; exact u.len, ⟨⟨c, by rw [gt 0 (Ne.symm h0)]; exact e, hc⟩, fun d hd => ?_⟩, fun i hi hl => ?_, fun i hi hl d hd => ?_⟩
  · rw [List.length_set]
    rcases List.mem_or_eq_of_mem_set hd with h | h
    · exact u.good.low d h
    · rw [h]; exact lows_free hx
  · rw [gt i (fun z => hi (by rw [z]; exact hn))]; exact u.same i hi hl
  · by_cases hin : i = n
    · rw [hin, List.getElem?_set_self hlt] at hd
      cases hd
      exact lows_free hx
    · rw [gt i hin] at hd; exact u.chg i hi hl d hd
theorem strs_get {ns : List (List Nat)} {b : Nat} (h : ∀ w ∈ ns, w.length ≤ b) {i : Int} (h0 : 0 ≤ i) (h1 : i < ns.length) : ∃ w : List Nat, (ns.map D.str)[i.toNat]? = some (.str w) ∧ w.length ≤ b := by
  have h2 : i.toNat < ns.length := by omega
  exact ⟨ns[i.toNat], by rw [List.getElem?_map, List.getElem?_eq_getElem h2]; rfl, h _ (List.getElem_mem h2)⟩
theorem idxC {S : Store} {n : Nat} {xs : List D} {i : Int} {y : D} (h : S[n]? = some (.lst xs)) (h0 : 0 ≤ i) (hy : xs[i.toNat]? = some y) : idxM (.cell n) (.int i) S = .ok y S := by
  rw [idx_cell, h]
  simp only
  rw [ixL_lit h0, hy]; rfl
theorem idxLast {S : Store} {n : Nat} {xs : List D} {y : D} (h : S[n]? = some (.lst (xs ++ [y]))) : idxM (.cell n) (.int (-1)) S = .ok y S := by
  rw [idx_cell, h]
  simp only
  have e : ixL (xs ++ [y]) (-1) = some y := by
    unfold ixL
    rw [if_pos (by omega), if_neg (by simp; omega)]
    have : ((-1 : Int) + ((xs ++ [y]).length : Int)).toNat = xs.length := by simp; omega
    rw [this]; simp
  rw [e]; rfl
section
variable {fuel : Nat}
theorem into_of {S : Store} (h : Good S) {n : Nat} (hn : Names S n) {l : Nat} (hl : 4 ≤ l) : ∃ (w : List Nat) (S' : Store), callF fs fuel l 20 [.cell 0, .cell n] S = .ok (.str w) S' ∧ w.length ≤ 8 ∧ Names S' n ∧ Up [0, n] S S' := by
  obtain ⟨l, rfl⟩ : ∃ j, l = j + 1 := ⟨l - 1, by omega⟩
  obtain ⟨h0, ns, h1, h2, h3⟩ := id hn
  have el : ∀ {S' : Store}, S'[n]? = some (.lst (ns.map .str)) → bltD S' .len [.cell n] = some (.int ns.length) := fun {S'} h => by
    rw [lenC h, List.length_map]
  have hlt : n < S.length := (List.getElem?_eq_some_iff.mp h1).1
  have hmem : n ∈ [0, n] := by simp
  rw [callF_succ (fn := f_law_into) rfl rfl]
  -- a known name after draws
  have known : ∀ (S1 : Store), Up [0] S S1 → 0 < ns.length → ∃ (w : List Nat) (S2 : Store) (r : Int), callF fs fuel l 10 [.cell 0, .int ns.length] S1 = .ok (.int r) S2 ∧ idxM (.cell n) (.int r) S2 = .ok (.str w) S2 ∧ w.length ≤ 8 ∧ Up [0] S S2 := fun S1 u1 hp => by
    obtain ⟨r, S2, e2, r0, r1, u2⟩ := grab_of (fuel := fuel) u1.good (m := ns.length) (by omega) (l := l) (by omega)
    obtain ⟨w, ew, hw⟩ := strs_get h2 r0 r1
    have u := u1.trans u2
    exact ⟨w, S2, r, e2, idxC (u.get h1 (by simpa using h0)) r0 ew, hw, u⟩
  have fresh : ∀ (S1 : Store), Up [0] S S1 → ns.length ≤ 7 → ∃ (w : List Nat) (S2 : Store), callF fs fuel l 13 [.cell 0, .int 30, .cell n] S1 = .ok (.str w) S2 ∧ w.length ≤ 8 ∧ S2[n]? = some (.lst (ns.map .str)) ∧ Up [0] S S2 := fun S1 u1 _ => by
    have hg := u1.get h1 (by simpa using h0)
    obtain ⟨w, S2, e2, hw, u2⟩ := call_it_of (fuel := fuel) u1.good (p := 30) (tk := .cell n) (.inr ⟨n, ns, h0, rfl, hg⟩) (l := l) (by omega)
    exact ⟨w, S2, e2, hw, u2.get hg (by simpa using h0), u1.trans u2⟩
  have fin : ∀ (w : List Nat) (S2 : Store), w.length ≤ 8 → S2[n]? = some (.lst (ns.map .str)) → Up [0] S S2 → ns.length ≤ 7 → Names (S2.set n (.lst (ns.map .str ++ [.str w]))) n ∧ Up [0, n] S (S2.set n (.lst (ns.map .str ++ [.str w]))) ∧ idxM (.cell n) (.int (-1)) (S2.set n (.lst (ns.map .str ++ [.str w]))) = .ok (.str w) (S2.set n (.lst (ns.map .str ++ [.str w]))) ∧ mthD S2 .append (.cell n) [.str w] = some (.non, S2.set n (.lst (ns.map .str ++ [.str w]))) := fun w S2 hw hg u h7 => by
    have g := get_set (d := .lst (ns.map .str ++ [.str w])) hg
    refine ⟨⟨h0, ns ++ [w], g.trans (by simp), short_app h2 hw, by simp; omega⟩, (hn.widen h u).putX hmem h0 ?_ (List.getElem?_eq_some_iff.mp hg).1, idxLast g, app_eq hg (by rw [List.length_map]; omega) _⟩
    rw [show ns.map D.str ++ [D.str w] = (ns ++ [w]).map .str by simp]
    exact frees_strs _
  have lv : ∀ (S1 : Store), Up [0, n] S S1 → Names S1 n → Names (S1.take S.length) n := fun S1 u hk => by
    obtain ⟨k0, ks, k1, k2⟩ := hk
    exact ⟨k0, ks, (List.getElem?_take_of_lt hlt).trans k1, k2⟩
  by_cases c7 : 7 < ns.length
  · obtain ⟨w, S2, r, e2, e3, hw, u2⟩ := known S (Up.refl0 h) (by omega)
    have uw := hn.widen h u2
    refine ⟨w, _, call_low (C := ⟨callF fs fuel l, fuel⟩) (fn := f_law_into) (xs := [.cell 0, .cell n]) (S := S) (S1 := S2) (d := .str w) rfl rfl ?_ rfl (uw.lows h), hw, lv S2 uw (hn.up u2), uw.leave h⟩
    have c7' : (7 : Int) < (ns.length : Int) := by omega
    simp (disch := (first | decide | assumption | (simp only [List.length_append, List.length_cons, List.length_nil, List.length_map] <;> omega) | omega)) [f_law_into, el h1, c7, c7', e2, e3, -idx_cell]
  · have c7' : ¬ (7 : Int) < (ns.length : Int) := by omega
    by_cases c0 : 0 < ns.length
    · have c0' : (0 : Int) < (ns.length : Int) := by omega
      obtain ⟨r, S1, e1, r0, r1, u1⟩ := grab_of (fuel := fuel) h (m := 2) (by omega) (l := l) (by omega)
      by_cases cr : r = 0
      · subst cr
        obtain ⟨w, S2, r, e2, e3, hw, u2⟩ := known S1 u1 c0
        have uw := hn.widen h u2
        refine ⟨w, _, call_low (C := ⟨callF fs fuel l, fuel⟩) (fn := f_law_into) (xs := [.cell 0, .cell n]) (S := S) (S1 := S2) (d := .str w) rfl rfl ?_ rfl (uw.lows h), hw, lv S2 uw (hn.up u2), uw.leave h⟩
        have el1 := el (u1.get h1 (by simpa using h0))
        simp (disch := (first | decide | assumption | (simp only [List.length_append, List.length_cons, List.length_nil, List.length_map] <;> omega) | omega)) [f_law_into, el h1, el1, c7, c7', c0, c0', e1, e2, e3, -idx_cell]
      · obtain ⟨w, S2, e2, hw, hg, u2⟩ := fresh S1 u1 (by omega)
        obtain ⟨f1, f2, f3, f4⟩ := fin w S2 hw hg u2 (by omega)
        refine ⟨w, _, call_low (C := ⟨callF fs fuel l, fuel⟩) (fn := f_law_into) (xs := [.cell 0, .cell n]) (S := S) (S1 := S2.set n (.lst (ns.map .str ++ [.str w]))) (d := .str w) rfl rfl ?_ rfl (f2.lows h), hw, lv _ f2 f1, f2.leave h⟩
        simp (disch := (first | decide | assumption | (simp only [List.length_append, List.length_cons, List.length_nil, List.length_map] <;> omega) | omega)) [f_law_into, el h1, c7, c7', c0, c0', e1, cr, e2, recvOk, f4, f3, -idx_cell]
    · have c0' : ¬ (0 : Int) < (ns.length : Int) := by omega
      obtain ⟨w, S2, e2, hw, hg, u2⟩ := fresh S (Up.refl0 h) (by omega)
      obtain ⟨f1, f2, f3, f4⟩ := fin w S2 hw hg u2 (by omega)
      refine ⟨w, _, call_low (C := ⟨callF fs fuel l, fuel⟩) (fn := f_law_into) (xs := [.cell 0, .cell n]) (S := S) (S1 := S2.set n (.lst (ns.map .str ++ [.str w]))) (d := .str w) rfl rfl ?_ rfl (f2.lows h), hw, lv _ f2 f1, f2.leave h⟩
      simp (disch := (first | decide | assumption | (simp only [List.length_append, List.length_cons, List.length_nil, List.length_map] <;> omega) | omega)) [f_law_into, el h1, c7, c7', c0, c0', e2, recvOk, f4, f3, -idx_cell]
/-- an expression of m leaves -/
def IsN (d : D) (m : Nat) : Prop := ∃ k t n dp, IsE d k t n dp ∧ n = m ∧ dp ≤ n
theorem leaf_of {S : Store} (h : Good S) {n : Nat} (hn : Names S n) {l : Nat} (hl : 2 ≤ l) : ∃ (d : D) (S' : Store), callF fs fuel l 18 [.cell 0, .cell n] S = .ok d S' ∧ IsN d 1 ∧ Up [0] S S' := by
  obtain ⟨l, rfl⟩ : ∃ j, l = j + 1 := ⟨l - 1, by omega⟩
  obtain ⟨h0, ns, h1, h2, h3⟩ := id hn
  have el : ∀ {S' : Store}, S'[n]? = some (.lst (ns.map .str)) → bltD S' .len [.cell n] = some (.int ns.length) := fun {S'} h => by
    rw [lenC h, List.length_map]
  rw [callF_succ (fn := f_law_leaf) rfl rfl]
  have num : ∀ (S1 : Store), Up [0] S S1 → ∃ (a b c : Int) (S2 S3 S4 : Store) (i : Int), callF fs fuel l 10 [.cell 0, .int 50] S1 = .ok (.int a) S2 ∧ callF fs fuel l 10 [.cell 0, .int 50] S2 = .ok (.int b) S3 ∧ callF fs fuel l 10 [.cell 0, .int 5] S3 = .ok (.int c) S4 ∧
      idxM (.tup [.int 0, .int 7, .int 1000000000, .int a, .int (1000000000 - b)]) (.int c) S4 = .ok (.int i) S4 ∧ 0 ≤ i ∧ i ≤ 1000000000 ∧ Up [0] S S4 := fun S1 u1 => by
    obtain ⟨a, S2, e2, a0, a1, u2⟩ := grab_of (fuel := fuel) u1.good (m := 50) (by omega) (l := l) (by omega)
    obtain ⟨b, S3, e3, b0, b1, u3⟩ := grab_of (fuel := fuel) u2.good (m := 50) (by omega) (l := l) (by omega)
    obtain ⟨c, S4, e4, c0, c1, u4⟩ := grab_of (fuel := fuel) u3.good (m := 5) (by omega) (l := l) (by omega)
    have hc : c = 0 ∨ c = 1 ∨ c = 2 ∨ c = 3 ∨ c = 4 := by omega
    have uu := ((u1.trans u2).trans u3).trans u4
    rcases hc with rfl | rfl | rfl | rfl | rfl
    · exact ⟨a, b, 0, S2, S3, S4, 0, e2, e3, e4, by simp (disch := (first | decide | assumption | (simp only [List.length_append, List.length_cons, List.length_nil, List.length_map] <;> omega) | omega)) [], by omega, by omega, uu⟩
    · exact ⟨a, b, 1, S2, S3, S4, 7, e2, e3, e4, by simp (disch := (first | decide | assumption | (simp only [List.length_append, List.length_cons, List.length_nil, List.length_map] <;> omega) | omega)) [], by omega, by omega, uu⟩
    · exact ⟨a, b, 2, S2, S3, S4, 1000000000, e2, e3, e4, by simp (disch := (first | decide | assumption | (simp only [List.length_append, List.length_cons, List.length_nil, List.length_map] <;> omega) | omega)) [], by omega, by omega, uu⟩
    · exact ⟨a, b, 3, S2, S3, S4, a, e2, e3, e4, by simp (disch := (first | decide | assumption | (simp only [List.length_append, List.length_cons, List.length_nil, List.length_map] <;> omega) | omega)) [], by omega, by omega, uu⟩
    · exact ⟨a, b, 4, S2, S3, S4, 1000000000 - b, e2, e3, e4, by simp (disch := (first | decide | assumption | (simp only [List.length_append, List.length_cons, List.length_nil, List.length_map] <;> omega) | omega)) [], by omega, by omega, uu⟩
  have pw : ∀ S, binM .pow (.int 10) (.int 9) S = .ok (.int 1000000000) S := fun S => by
    show M.opt (if (0 : Int) ≤ 9 ∧ (9 : Int) ≤ 1000000 ∧ -two64 < (10 : Int) ∧ (10 : Int) < two64 then some (D.int (10 ^ (9 : Int).toNat)) else none) S = _
    rw [if_pos (by decide)]; rfl
  by_cases c0 : 0 < ns.length
  · have c0' : (0 : Int) < (ns.length : Int) := by omega
    obtain ⟨r, S1, e1, r0, r1, u1⟩ := grab_of (fuel := fuel) h (m := 2) (by omega) (l := l) (by omega)
    by_cases cr : r = 0
    · subst cr
      have el1 := el (u1.get h1 (by simpa using h0))
      obtain ⟨r, S2, e2, q0, q1, u2⟩ := grab_of (fuel := fuel) u1.good (m := ns.length) (by omega) (l := l) (by omega)
      obtain ⟨w, ew, hw⟩ := strs_get h2 q0 q1
      have uu := u1.trans u2
      have e3 := idxC (uu.get h1 (by simpa using h0)) q0 ew
      refine ⟨.tup [.str [118], .str w], _, call_low (C := ⟨callF fs fuel l, fuel⟩) (fn := f_law_leaf) (xs := [.cell 0, .cell n]) (S := S) (S1 := S2) (d := .tup [.str [118], .str w]) rfl rfl ?_ rfl (uu.lows h), ⟨_, _, _, _, .v w hw, rfl, by omega⟩, uu.leave h⟩
      simp (disch := (first | decide | assumption | (simp only [List.length_append, List.length_cons, List.length_nil, List.length_map] <;> omega) | omega)) [f_law_leaf, el h1, c0, c0', e1, el1, e2, e3, -idx_cell]
    · obtain ⟨a, b, c, S2, S3, S4, i, e2, e3, e4, e5, i0, i1, uu⟩ := num S1 u1
      refine ⟨.tup [.str [110], .int i], _, call_low (C := ⟨callF fs fuel l, fuel⟩) (fn := f_law_leaf) (xs := [.cell 0, .cell n]) (S := S) (S1 := S4) (d := .tup [.str [110], .int i]) rfl rfl ?_ rfl (uu.lows h), ⟨_, _, _, _, .n i i0 i1, rfl, by omega⟩, uu.leave h⟩
      simp (disch := (first | decide | assumption | (simp only [List.length_append, List.length_cons, List.length_nil, List.length_map] <;> omega) | omega)) [f_law_leaf, el h1, c0, c0', e1, cr, e2, e3, e4, e5, pw, -o_idxT]
  · have c0' : ¬ (0 : Int) < (ns.length : Int) := by omega
    obtain ⟨a, b, c, S2, S3, S4, i, e2, e3, e4, e5, i0, i1, uu⟩ := num S (Up.refl0 h)
    refine ⟨.tup [.str [110], .int i], _, call_low (C := ⟨callF fs fuel l, fuel⟩) (fn := f_law_leaf) (xs := [.cell 0, .cell n]) (S := S) (S1 := S4) (d := .tup [.str [110], .int i]) rfl rfl ?_ rfl (uu.lows h), ⟨_, _, _, _, .n i i0 i1, rfl, by omega⟩, uu.leave h⟩
    simp (disch := (first | decide | assumption | (simp only [List.length_append, List.length_cons, List.length_nil, List.length_map] <;> omega) | omega)) [f_law_leaf, el h1, c0, c0', e2, e3, e4, e5, pw, -o_idxT]
end
end Lw
set_option linter.all false
set_option maxRecDepth 100000
set_option maxHeartbeats 4000000
/-! K4k: sums. -/
namespace Lw
open Fb
inductive Row : List D → Nat → Prop
  | nil : Row [] 0
  | cons {d : D} {ds : List D} {a m : Nat} : IsN d a → Row ds m → Row (d :: ds) (a + m)
theorem Row.ones : ∀ {ds : List D}, (∀ d ∈ ds, IsN d 1) → Row ds ds.length
  | [], _ => .nil
  | d :: ds, h => by
    have := Row.cons (h d List.mem_cons_self) (Row.ones fun x hx => h x (List.mem_cons_of_mem _ hx))
    rw [List.length_cons, Nat.add_comm]; exact this
theorem Row.step : ∀ {xs : List D} {m i : Nat}, Row xs m → i + 1 < xs.length → ∃ x y, xs[i]? = some x ∧ xs[i + 1]? = some y ∧ ∀ z, (∀ a b, IsN x a → IsN y b → IsN z (a + b)) → Row (xs.take i ++ [z] ++ xs.drop (i + 2)) m
  | _, _, 0, .cons (d := x) ha (.cons (d := y) hb hr), _ => ⟨x, y, rfl, rfl, fun z hz => by
    have := Row.cons (hz _ _ ha hb) hr
    rw [Nat.add_assoc] at this
    exact this⟩
  | _, _, 0, .cons ha .nil, h => by simp at h
  | _, _, i + 1, .cons (d := d) ha hr, h => by
    obtain ⟨x, y, h1, h2, h3⟩ := Row.step (i := i) hr (by simpa using h)
    exact ⟨x, y, by simpa using h1, by simpa using h2, fun z hz => .cons ha (h3 z hz)⟩
  | _, _, _ + 1, .nil, h => by simp at h
theorem Row.one {d : D} {m : Nat} (h : Row [d] m) : IsN d m := by
  cases h with
  | cons ha hr => cases hr; exact ha
theorem IsN.op {x y : D} {a b o : Nat} (ho : o = 42 ∨ o = 45 ∨ o = 43) (hx : IsN x a) (hy : IsN y b) : IsN (.tup [.str [o], x, y]) (a + b) := by
  obtain ⟨k, t, n, dp, h1, rfl, h2⟩ := hx
  obtain ⟨k', t', n', dp', h3, rfl, h4⟩ := hy
  have q1 := h1.len
  have q2 := h3.len
  rcases ho with rfl | ho
  · exact ⟨_, _, _, _, .mul h1 h3, rfl, by omega⟩
  · exact ⟨_, _, _, _, .add o (ho.symm) h1 h3, rfl, by omega⟩
theorem cut_hi {α : Type} {xs : List α} {i : Int} (h : 0 ≤ i) : cutL xs none (some i) = xs.take i.toNat := by
  unfold cutL cut1
  simp only [List.drop_zero, Nat.sub_zero, if_neg (show ¬ i < 0 by omega)]
  by_cases hi : i.toNat ≤ xs.length
  · rw [Nat.min_eq_left hi]
  · rw [Nat.min_eq_right (by omega), List.take_of_length_le (Nat.le_refl _), List.take_of_length_le (by omega)]
theorem cut_lo {α : Type} {xs : List α} {i : Int} (h : 0 ≤ i) : cutL xs (some i) none = xs.drop i.toNat := by
  unfold cutL cut1
  simp only [if_neg (show ¬ i < 0 by omega)]
  by_cases hi : i.toNat ≤ xs.length
  · rw [Nat.min_eq_left hi, List.take_of_length_le (by rw [List.length_drop]; omega)]
  · rw [Nat.min_eq_right (by omega), Nat.sub_self, List.take_zero, List.drop_eq_nil_of_le (by omega)]
@[simp] theorem cut_lst {S : Store} {xs : List D} {a b : Option Int} : cutD S (.lst xs) a b = some (.lst (cutL xs a b)) := (rfl)
@[simp] theorem cut_tup {S : Store} {xs : List D} {a b : Option Int} : cutD S (.tup xs) a b = some (.tup (cutL xs a b)) := (rfl)
theorem opc {r : Int} (h0 : 0 ≤ r) (h1 : r < 3) (S : Store) : ∃ o, (o = 42 ∨ o = 45 ∨ o = 43) ∧ idxM (.str [42, 45, 43]) (.int r) S = .ok (.str [o]) S := by
  have : r = 0 ∨ r = 1 ∨ r = 2 := by omega
  rcases this with rfl | rfl | rfl
  · exact ⟨42, .inl rfl, rfl⟩
  · exact ⟨45, .inr (.inl rfl), rfl⟩
  · exact ⟨43, .inr (.inr rfl), rfl⟩
section
variable {fuel : Nat}
abbrev sBody : IS := (.seq (.set 5 (.call 11 (.cons (.var 0) (.cons (.lit (.int 28)) (.cons (.bin .sub (.blt .len (.cons (.var 3) .nil)) (.lit (.int 1))) .nil)))))
  (.seq (.set 3 (.bin .add (.bin .add (.sli (.var 3) .nil (.cons (.var 5) .nil)) (.lst (.cons (.tup (.cons (.idx (.lit (.str [42, 45, 43])) (.call 11 (.cons (.var 0) (.cons (.lit (.int 29)) (.cons (.lit (.int 3)) .nil))))) (.cons (.idx (.var 3) (.var 5)) (.cons (.idx (.var 3) (.bin .add (.var 5) (.lit (.int 1)))) .nil)))) .nil))) (.sli (.var 3) (.cons (.bin .add (.var 5) (.lit (.int 2))) .nil) .nil)))
  .skip))
theorem sum_loop {l : Nat} (hl : 2 ≤ l) {many : Nat} (hm : many ≤ 1000) {S0 : Store} {nm mv : Option D} : ∀ {ds : List D} {S : Store} {x4 x5 : Option D}, Row ds many → ds.length = many → 1 ≤ many → Up [0] S0 S →
    ∃ d S' y4 y5, forL (patB (.nm 4) fun σ' => exS ⟨callF fs fuel l, fuel⟩ sBody σ') (rngD 0 (many - 1)) [some (.cell 0), nm, mv, some (.lst ds), x4, x5] S = .ok (.nx [some (.cell 0), nm, mv, some (.lst [d]), y4, y5]) S' ∧ IsN d many ∧ Up [0] S0 S' := by
  intro ds S x4 x5 hR hlen h1 u
  have q := forL_ix (f := patB (.nm 4) fun σ' => exS ⟨callF fs fuel l, fuel⟩ sBody σ')
    (fun i σ S' => ∃ (ds : List D) (y4 y5 : Option D), σ = [some (.cell 0), nm, mv, some (.lst ds), y4, y5] ∧ Row ds many ∧ ds.length + i = many ∧ Up [0] S0 S')
    (xs := rngD 0 (many - 1)) (j := 0) (σ := [some (.cell 0), nm, mv, some (.lst ds), x4, x5]) (S := S) (fun i x σ S' hx hi => by
      obtain ⟨ds, y4, y5, rfl, hR, hlen, u⟩ := hi
      obtain ⟨rfl, hlt⟩ := rng_at hx
      obtain ⟨at_, S2, e2, a0, a1, u2⟩ := habit_of (fuel := fuel) u.good (p := 28) (m := (ds.length : Int) - 1) (by omega) (l := l) (by omega)
      obtain ⟨r, S3, e3, r0, r1, u3⟩ := habit_of (fuel := fuel) u2.good (p := 29) (m := 3) (by omega) (l := l) (by omega)
      obtain ⟨o, ho, eo⟩ := opc r0 r1 S3
      obtain ⟨x, y, g1, g2, g3⟩ := hR.step (i := at_.toNat) (by omega)
      have t1 : (at_ + 1).toNat = at_.toNat + 1 := by omega
      have t2 : (at_ + 2).toNat = at_.toNat + 2 := by omega
      have k1 := g3 (.tup [.str [o], x, y]) fun a b ha hb => IsN.op ho ha hb
      have ex : idxM (.lst ds) (.int at_) S3 = .ok x S3 := by rw [o_idxL a0, g1]; rfl
      have ey : idxM (.lst ds) (.int (at_ + 1)) S3 = .ok y S3 := by rw [o_idxL (by omega), t1, g2]; rfl
      have c1 : cutL ds none (some at_) = ds.take at_.toNat := cut_hi a0
      have c2 : cutL ds (some (at_ + 2)) none = ds.drop (at_.toNat + 2) := by rw [cut_lo (by omega), t2]
      refine ⟨[some (.cell 0), nm, mv, some (.lst (ds.take at_.toNat ++ [.tup [.str [o], x, y]] ++ ds.drop (at_.toNat + 2))), some (.int i), some (.int at_)], S3, ?_, _, _, _, rfl, k1, ?_, (u.trans u2).trans u3⟩
      · have h9 : ds.length ≤ 1000 := by omega
        generalize hT1 : ds.take at_.toNat = T1 at *
        generalize hT2 : ds.drop (at_.toNat + 2) = T2 at *
        have l1 : T1.length ≤ 1000 := by rw [← hT1, List.length_take]; omega
        have l2 : T2.length ≤ 1000 := by rw [← hT2, List.length_drop]; omega
        simp (disch := (first | decide | assumption | (simp only [List.length_append, List.length_cons, List.length_nil, List.length_map] <;> omega) | omega)) [sBody, e2, e3, eo, ex, ey, c1, c2, -o_idxL]
      · simp only [List.length_append, List.length_take, List.length_drop, List.length_cons, List.length_nil]
        omega) ⟨ds, x4, x5, rfl, hR, by omega, u⟩
  obtain ⟨σ', S', e1, ds', y4, y5, rfl, hR', hl', u'⟩ := q
  rw [rng_len] at hl'
  obtain ⟨d, rfl⟩ := List.length_eq_one_iff.mp (show ds'.length = 1 by omega)
  exact ⟨d, S', y4, y5, e1, hR'.one, u'⟩
theorem sum_of {S : Store} (h : Good S) {n : Nat} (hn : Names S n) {l : Nat} (hl : 4 ≤ l) : ∃ (d : D) (S' : Store) (m : Nat), callF fs fuel l 19 [.cell 0, .cell n] S = .ok d S' ∧ IsN d m ∧ m ≤ 15 ∧ Up [0] S S' := by
  obtain ⟨l, rfl⟩ : ∃ j, l = j + 1 := ⟨l - 1, by omega⟩
  obtain ⟨a, S1, e1, a0, a1, u1⟩ := grab_of (fuel := fuel) h (m := 3) (by omega) (l := l) (by omega)
  obtain ⟨b, S2, e2, b0, b1, u2⟩ := grab_of (fuel := fuel) u1.good (m := 8) (by omega) (l := l) (by omega)
  have u12 := u1.trans u2
  rw [callF_succ (fn := f_law_sum) rfl rfl]
  -- from the number of leaves on
  have rest : ∀ (S3 : Store) (many : Nat), Up [0] S S3 → 1 ≤ many → many ≤ 15 → ∃ (d : D) (S5 : Store) (ys : List D) (S4 : Store) (y4 y5 : Option D), compM (elG ⟨callF fs fuel l, fuel⟩ [4] (.nm 4) .nil (.call 18 (.cons (.var 0) (.cons (.var 1) .nil))) [some (.cell 0), some (.cell n), some (.int many), none, none, none]) (rngD 0 many) 0 S3 = .ok ys S4 ∧
      forL (patB (.nm 4) fun σ' => exS ⟨callF fs fuel l, fuel⟩ sBody σ') (rngD 0 (many - 1)) [some (.cell 0), some (.cell n), some (.int many), some (.lst ys), none, none] S4 = .ok (.nx [some (.cell 0), some (.cell n), some (.int many), some (.lst [d]), y4, y5]) S5 ∧ IsN d many ∧ Up [0] S S5 := fun S3 many u3 m0 m1 => by
    obtain ⟨ys, S4, e4, p4, l4, u4⟩ := compM_ex (f := elG ⟨callF fs fuel l, fuel⟩ [4] (.nm 4) .nil (.call 18 (.cons (.var 0) (.cons (.var 1) .nil))) [some (.cell 0), some (.cell n), some (.int many), none, none, none]) (fun S' => Up [0] S S') (fun y => IsN y 1) (xs := rngD 0 many) (k := 0) (S := S3) (fun x hx S' u' => by
      obtain ⟨d, S6, e6, hd, u6⟩ := leaf_of (fuel := fuel) u'.good (hn.up u') (l := l) (by omega)
      exact ⟨d, S6, el_nm (by simp (disch := (first | decide | assumption | (simp only [List.length_append, List.length_cons, List.length_nil, List.length_map] <;> omega) | omega)) [wipeE, e6]), hd, u'.trans u6⟩) (by rw [rng_len]; omega) u3
    rw [rng_len] at l4
    have hR := Row.ones p4
    rw [l4] at hR
    obtain ⟨d, S5, y4, y5, e5, hd, u5⟩ := sum_loop (fuel := fuel) (l := l) (by omega) (many := many) (by omega) (nm := some (.cell n)) (mv := some (.int many)) (x4 := none) (x5 := none) hR l4 m0 u4
    exact ⟨d, S5, ys, S4, y4, y5, e4, e5, hd, u5⟩
  by_cases cb : b = 0
  · subst cb
    obtain ⟨c, S3, e3, c0, c1, u3⟩ := habit_of (fuel := fuel) u2.good (p := 27) (m := 15) (by omega) (l := l) (by omega)
    obtain ⟨d, S5, ys, S4, y4, y5, e4, e5, hd, u5⟩ := rest S3 (1 + c).toNat (u12.trans u3) (by omega) (by omega)
    have hc : (((1 + c).toNat : Nat) : Int) = 1 + c := by omega
    have hc2 : (1 + c - 1).toNat = (1 + c).toNat - 1 := by omega
    rw [hc] at e4 e5
    have er1 : ∀ S, rngM (.int (1 + c)) S = .ok (.xs (rngD 0 (1 + c).toNat)) S := fun S => x_rngM (by omega) (by omega)
    have er2 : ∀ S, rngM (.int (1 + c - 1)) S = .ok (.xs (rngD 0 ((1 + c).toNat - 1))) S := fun S => by rw [x_rngM (by omega) (by omega), hc2]
    refine ⟨d, _, (1 + c).toNat, call_low (C := ⟨callF fs fuel l, fuel⟩) (fn := f_law_sum) (xs := [.cell 0, .cell n]) (S := S) (S1 := S5) (d := d) rfl rfl ?_ (low_free (by obtain ⟨_, _, _, _, h9, _⟩ := hd; exact h9.free)) (u5.lows h), hd, by omega, u5.leave h⟩
    generalize (1 + c).toNat = M0 at *
    generalize h0 : 1 + c = M1 at *
    generalize hM2 : M1 - 1 = M2 at *
    simp (disch := (first | decide | assumption | (simp only [List.length_append, List.length_cons, List.length_nil, List.length_map] <;> omega) | omega)) [f_law_sum, e1, e2, e3, er1, er2, -x_rngM, x_comp2, -x_comp, e4, e5, hM2, h0]
  · obtain ⟨d, S5, ys, S4, y4, y5, e4, e5, hd, u5⟩ := rest S2 (1 + a).toNat u12 (by omega) (by omega)
    have hc : (((1 + a).toNat : Nat) : Int) = 1 + a := by omega
    have hc2 : (1 + a - 1).toNat = (1 + a).toNat - 1 := by omega
    rw [hc] at e4 e5
    have er1 : ∀ S, rngM (.int (1 + a)) S = .ok (.xs (rngD 0 (1 + a).toNat)) S := fun S => x_rngM (by omega) (by omega)
    have er2 : ∀ S, rngM (.int (1 + a - 1)) S = .ok (.xs (rngD 0 ((1 + a).toNat - 1))) S := fun S => by rw [x_rngM (by omega) (by omega), hc2]
    refine ⟨d, _, (1 + a).toNat, call_low (C := ⟨callF fs fuel l, fuel⟩) (fn := f_law_sum) (xs := [.cell 0, .cell n]) (S := S) (S1 := S5) (d := d) rfl rfl ?_ (low_free (by obtain ⟨_, _, _, _, h9, _⟩ := hd; exact h9.free)) (u5.lows h), hd, by omega, u5.leave h⟩
    generalize (1 + a).toNat = M0 at *
    generalize h0 : 1 + a = M1 at *
    generalize hM2 : M1 - 1 = M2 at *
    simp (disch := (first | decide | assumption | (simp only [List.length_append, List.length_cons, List.length_nil, List.length_map] <;> omega) | omega)) [f_law_sum, e1, e2, cb, er1, er2, -x_rngM, x_comp2, -x_comp, e4, e5, hM2, h0]
end
end Lw
set_option linter.all false
set_option maxRecDepth 100000
set_option maxHeartbeats 4000000
/-! K4l: goals. -/
namespace Lw
open Fb
/-- names in a list, by value or a cell -/
def Words (S : Store) (d : D) (ws : List (List Nat)) : Prop := (d = .lst (ws.map .str) ∨ ∃ n, n ≠ 0 ∧ d = .cell n ∧ S[n]? = some (.lst (ws.map .str))) ∧ (∀ w ∈ ws, w.length ≤ 8) ∧ ws.length ≤ 16
theorem Words.upX {X : List Nat} {S S1 : Store} {d : D} {ws : List (List Nat)} (h : Words S d ws) (u : Up X S S1) (hx : ∀ n, d = .cell n → n ∉ X) : Words S1 d ws := by
  obtain ⟨h1, h2⟩ := h
  refine ⟨h1.imp id fun ⟨n, h0, h3, h4⟩ => ⟨n, h0, h3, u.get h4 (hx n h3)⟩, h2⟩
theorem Words.up {S S1 : Store} {d : D} {ws : List (List Nat)} (h : Words S d ws) (u : Up [0] S S1) : Words S1 d ws := by
  obtain ⟨h1, h2⟩ := h
  exact ⟨h1.imp id fun ⟨n, h0, h3, h4⟩ => ⟨n, h0, h3, u.get h4 (by simpa using h0)⟩, h2⟩
theorem Words.len {S : Store} {d : D} {ws : List (List Nat)} (h : Words S d ws) : bltD S .len [d] = some (.int ws.length) := by
  obtain ⟨h1 | ⟨n, h0, rfl, h4⟩, h2⟩ := h
  · rw [h1, len_lst, List.length_map]
  · rw [lenC h4, List.length_map]
theorem Words.idx {S : Store} {d : D} {ws : List (List Nat)} (h : Words S d ws) {i : Int} (h0 : 0 ≤ i) (h1 : i < ws.length) : ∃ w : List Nat, idxM d (.int i) S = .ok (.str w) S ∧ w.length ≤ 8 := by
  obtain ⟨w, ew, hw⟩ := strs_get h.2.1 h0 h1
  obtain ⟨hd | ⟨n, _, rfl, h4⟩, h2⟩ := h
  · subst hd
    exact ⟨w, by rw [o_idxL h0, ew]; rfl, hw⟩
  · exact ⟨w, idxC h4 h0 ew, hw⟩
theorem Words.lst {S : Store} {d : D} {ws : List (List Nat)} (h : Words S d ws) : lstOf S d = some (ws.map .str) ∧ ((∃ xs, d = .lst xs) ∨ ∃ n, d = .cell n) := by
  obtain ⟨hd | ⟨n, _, rfl, h4⟩, h2⟩ := h
  · subst hd; exact ⟨rfl, .inl ⟨_, rfl⟩⟩
  · refine ⟨?_, .inr ⟨n, rfl⟩⟩
    show (match S[n]? with
      | some (.lst xs) => some xs
      | none => none) = _
    rw [h4]
theorem Words.taken {S : Store} {d : D} {ws : List (List Nat)} (h : Words S d ws) : Taken S d := by
  obtain ⟨hd | ⟨n, h0, rfl, h4⟩, h2⟩ := h
  · exact .inl ⟨ws, hd⟩
  · exact .inr ⟨n, ws, h0, rfl, h4⟩
theorem Words.things {S : Store} {d : D} {ws : List (List Nat)} (h : Words S d ws) : Things S d (ws.map .str) := by
  obtain ⟨hd | ⟨n, h0, rfl, h4⟩, h2⟩ := h
  · exact .inl hd
  · exact .inr (.inr ⟨n, h0, rfl, h4⟩)
theorem Words.tuple {S : Store} {d : D} {ws : List (List Nat)} (h : Words S d ws) : bltD S .tuple [d] = some (.tup (ws.map .str)) := by
  obtain ⟨hd | ⟨n, h0, rfl, h4⟩, h2⟩ := h
  · subst hd; rfl
  · show (seqOf S (.cell n)).map D.tup = _
    have e : seqOf S (.cell n) = some (ws.map .str) := by
      show (match S[n]? with
        | some (.lst xs) => some xs
        | none => none) = _
      rw [h4]
    rw [e]; rfl
theorem o_inL {S : Store} {x : List Nat} {d : D} {zs : List (List Nat)} (h : lstOf S d = some (zs.map .str)) (hd : (∃ xs, d = .lst xs) ∨ ∃ n, d = .cell n) : cmpM .isIn (.str x) d S = .ok (memD (.str x) (zs.map .str)) S := by
  have n := o_notL (x := x) h hd
  have e2 : cmpM .notIn (.str x) d S = M.opt ((inD S (.str x) d).map (!·)) S := rfl
  have e3 : cmpM .isIn (.str x) d S = M.opt (inD S (.str x) d) S := rfl
  rw [e2] at n
  rw [e3]
  cases q : inD S (.str x) d with
  | none => rw [q] at n; cases n
  | some b =>
    rw [q] at n
    have n2 : (.ok (!b) S : Res Bool) = .ok (!memD (.str x) (zs.map .str)) S := n
    injection n2 with n3
    have : b = memD (.str x) (zs.map .str) := by simpa using n3
    rw [this]; rfl
/-- a row of the outlines: name, params, heads, rank -/
structure RowD (d : D) (name : List Nat) (ps hs : List (List Nat)) (rank : Int) : Prop where
  eq : d = .tup [.str name, .lst (ps.map .str), .lst (hs.map .str), .int rank]
  n8 : name.length ≤ 8
  p8 : ∀ p ∈ ps, p.length ≤ 8
  pl : ps.length ≤ 8
  h8 : ∀ p ∈ hs, p.length ≤ 8
  hl : hs.length ≤ 16
  h1 : 1 ≤ hs.length
def IsRow (d : D) : Prop := ∃ name ps hs rank, RowD d name ps hs rank
theorem IsRow.free {d : D} (h : IsRow d) : D.free d = true := by
  obtain ⟨name, ps, hs, rank, h⟩ := h
  rw [h.eq]
  simp [D.free, D.frees, frees_strs]
def rankOf : D → Int
  | .tup [_, _, _, .int r] => r
  | _ => 0
theorem IsRow.rank {d : D} (h : IsRow d) (S : Store) : idxM d (.int 3) S = .ok (.int (rankOf d)) S := by
  obtain ⟨name, ps, hs, rank, h⟩ := h
  rw [h.eq]; rfl
/-- the world: wraps, grounds, rows -/
structure Wrld (S : Store) (d : D) (wd gd : D) (ws gs : List (List Nat)) (rows : List D) : Prop where
  eq : d = .tup [wd, gd, .lst rows]
  w : Words S wd ws
  g : Words S gd gs
  g1 : 1 ≤ gs.length
  rr : ∀ r ∈ rows, IsRow r
  r1 : rows.length ≤ 16
  r0 : 1 ≤ rows.length
theorem Wrld.up {S S1 : Store} {d wd gd : D} {ws gs : List (List Nat)} {rows : List D} (h : Wrld S d wd gd ws gs rows) (u : Up [0] S S1) : Wrld S1 d wd gd ws gs rows := ⟨h.eq, h.w.up u, h.g.up u, h.g1, h.rr, h.r1, h.r0⟩
theorem compM_filter {f : D → M (Option D)} {b : D → Bool} : ∀ {xs : List D} {k : Nat} {S : Store}, (∀ x ∈ xs, f x S = .ok (if b x then some x else none) S) → xs.length + k ≤ 16777216 → compM f xs k S = .ok (xs.filter b) S
  | [], k, S, _, _ => rfl
  | x :: r, k, S, h, hl => by
    simp only [List.length_cons] at hl
    have h1 := h x List.mem_cons_self
    have ih := fun k (hk : r.length + k ≤ 16777216) => compM_filter (f := f) (b := b) (xs := r) (k := k) (S := S) (fun y hy => h y (List.mem_cons_of_mem _ hy)) hk
    show Res.bnd (f x S) _ = _
    rw [h1]
    cases hb : b x with
    | false =>
      rw [List.filter_cons_of_neg (by rw [hb]; decide)]
      show compM f r k S = _
      exact ih k (by omega)
    | true =>
      rw [List.filter_cons_of_pos hb]
      show (if k < SL then M.bind (compM f r (k + 1)) fun ys => M.ret (x :: ys) else M.bad) S = _
      rw [if_pos (show k < SL by show k < 16777216; omega)]
      show Res.bnd (compM f r (k + 1) S) _ = _
      rw [ih (k + 1) (by omega)]
      rfl
theorem el_if {C : Cf} {own : List Nat} {i : Nat} {c e : IE} {σ : Ev} {x y : D} {b : Bool} {S : Store} (h0 : evE C c ((wipeE σ own).set i (some x)) S = .ok (.bl b) S) (h : b = true → evE C e ((wipeE σ own).set i (some x)) S = .ok y S) : elG C own (.nm i) (.cons c .nil) e σ x S = .ok (if b then some y else none) S := by
  have e2 : (M.bind (evC C (.cons c .nil) ((wipeE σ own).set i (some x))) (fun t => if t then M.bind (evE C e ((wipeE σ own).set i (some x))) fun y => M.ret (some y) else M.ret none) S : Res (Option D)) = .ok (if b then some y else none) S := by
    rw [bind_bnd, x_ccons, h0, bnd_ok, t_bl, bnd_ok]
    cases b with
    | false => rfl
    | true =>
      simp only [if_true]
      rw [bind_bnd, h rfl]; rfl
  unfold elG M.nox patE
  simp only
  rw [e2]
section
variable {fuel : Nat}
/-- rows by rank -/
theorem by_rank {S : Store} {rows : List D} (hr : ∀ r ∈ rows, IsRow r) (hl : rows.length ≤ 16) {l : Nat} {σ : Ev} {rank : Int} (h10 : 10 < σ.length) (h2 : σ[2]? = some (some (.int rank))) :
    compM (elG ⟨callF fs fuel l, fuel⟩ [10] (.nm 10) (.cons (.cmp .lt (.idx (.var 10) (.lit (.int 3))) (.var 2)) .nil) (.var 10) σ) rows 0 S = .ok (rows.filter fun r => decide (rankOf r < rank)) S ∧
    compM (elG ⟨callF fs fuel l, fuel⟩ [10] (.nm 10) (.cons (.cmp .le (.idx (.var 10) (.lit (.int 3))) (.var 2)) .nil) (.var 10) σ) rows 0 S = .ok (rows.filter fun r => decide (rankOf r ≤ rank)) S := by
  have e2 : ∀ x : D, ((wipeE σ [10]).set 10 (some x))[2]? = some (some (.int rank)) := fun x => by
    rw [List.getElem?_set_ne (by omega)]
    show ((σ.set 10 none))[2]? = _
    rw [List.getElem?_set_ne (by omega)]; exact h2
  constructor
  · refine compM_filter (fun x hx => ?_) (by omega)
    have := (hr x hx).rank S
    have ex := el_set (own := [10]) (x := x) h10
    have e3 := e2 x
    refine el_if (b := decide (rankOf x < rank)) (y := x) ?_ fun _ => ?_
    · generalize (wipeE σ [10]).set 10 (some x) = τ at *
      simp (disch := (first | decide | assumption | (simp only [List.length_append, List.length_cons, List.length_nil, List.length_map] <;> omega) | omega)) [ex, e3, this]
    · generalize (wipeE σ [10]).set 10 (some x) = τ at *
      simp (disch := (first | decide | assumption | (simp only [List.length_append, List.length_cons, List.length_nil, List.length_map] <;> omega) | omega)) [ex]
  · refine compM_filter (fun x hx => ?_) (by omega)
    have := (hr x hx).rank S
    have ex := el_set (own := [10]) (x := x) h10
    have e3 := e2 x
    refine el_if (b := decide (rankOf x ≤ rank)) (y := x) ?_ fun _ => ?_
    · generalize (wipeE σ [10]).set 10 (some x) = τ at *
      simp (disch := (first | decide | assumption | (simp only [List.length_append, List.length_cons, List.length_nil, List.length_map] <;> omega) | omega)) [ex, e3, this]
    · generalize (wipeE σ [10]).set 10 (some x) = τ at *
      simp (disch := (first | decide | assumption | (simp only [List.length_append, List.length_cons, List.length_nil, List.length_map] <;> omega) | omega)) [ex]
theorem pick_row {S : Store} (h : Good S) {rows : List D} (hr : ∀ r ∈ rows, IsRow r) (h0 : 0 < rows.length) {l : Nat} (hl : 1 ≤ l) : ∃ (r : Int) (S' : Store) (d : D), callF fs fuel l 10 [.cell 0, .int rows.length] S = .ok (.int r) S' ∧ idxM (.lst rows) (.int r) S' = .ok d S' ∧ IsRow d ∧ Up [0] S S' := by
  obtain ⟨r, S1, e1, r0, r1, u1⟩ := grab_of (fuel := fuel) h (m := rows.length) (by omega) hl
  have h2 : r.toNat < rows.length := by omega
  exact ⟨r, S1, rows[r.toNat], e1, by rw [o_idxL r0, List.getElem?_eq_getElem h2]; rfl, hr _ (List.getElem_mem h2), u1⟩
theorem word_of {S : Store} (h : Good S) {wd : D} {ws : List (List Nat)} (hw : Words S wd ws) {l : Nat} (hl : 1 ≤ l) {k j : Nat} {σ : Ev} (hj : j < σ.length) (h0 : σ[0]? = some (some (.cell 0))) (hk : σ[k]? = some (some wd)) (hkj : k ≠ j) (h0j : 0 ≠ j) {m : Nat} (hm : m ≤ 100) (hm0 : 0 < m → 0 < ws.length) :
    ∃ (ys : List (List Nat)) (S' : Store), compM (elG ⟨callF fs fuel l, fuel⟩ [j] (.nm j) .nil (.idx (.var k) (.call 10 (.cons (.var 0) (.cons (.blt .len (.cons (.var k) .nil)) .nil)))) σ) (rngD 0 m) 0 S = .ok (ys.map .str) S' ∧ ys.length = m ∧ (∀ y ∈ ys, y.length ≤ 8) ∧ Up [0] S S' := by
  obtain ⟨ys, S1, e1, p1, l1, u1⟩ := compM_ex (f := elG ⟨callF fs fuel l, fuel⟩ [j] (.nm j) .nil (.idx (.var k) (.call 10 (.cons (.var 0) (.cons (.blt .len (.cons (.var k) .nil)) .nil)))) σ) (fun S' => Up [0] S S') (fun y => ∃ z, y = .str z ∧ z.length ≤ 8) (xs := rngD 0 m) (k := 0) (S := S) (fun x hx S' u' => by
    obtain ⟨i, rfl, hi⟩ := rng_mem hx
    have hw' := hw.up u'
    obtain ⟨r, S2, e2, r0, r1, u2⟩ := grab_of (fuel := fuel) u'.good (m := ws.length) (by have := hm0 (by omega); omega) hl
    obtain ⟨w, ew, hw8⟩ := (hw'.up u2).idx r0 r1
    have q0 : ((wipeE σ [j]).set j (some (.int i)))[0]? = some (some (.cell 0)) := by
      rw [List.getElem?_set_ne (Ne.symm h0j)]
      show ((σ.set j none))[0]? = _
      rw [List.getElem?_set_ne (Ne.symm h0j)]; exact h0
    have qk : ((wipeE σ [j]).set j (some (.int i)))[k]? = some (some wd) := by
      rw [List.getElem?_set_ne (Ne.symm hkj)]
      show ((σ.set j none))[k]? = _
      rw [List.getElem?_set_ne (Ne.symm hkj)]; exact hk
    refine ⟨.str w, S2, el_nm ?_, ⟨w, rfl, hw8⟩, u'.trans u2⟩
    generalize (wipeE σ [j]).set j (some (.int i)) = τ at *
    have el := hw'.len
    simp (disch := (first | decide | assumption | (simp only [List.length_append, List.length_cons, List.length_nil, List.length_map] <;> omega) | omega)) [q0, qk, el, e2, ew, -idx_cell]) (by rw [rng_len]; omega) (Up.refl0 h)
  obtain ⟨zs, rfl, hz⟩ := strs_of p1
  rw [rng_len, List.length_map] at l1
  exact ⟨zs, S1, e1, l1, hz, u1⟩
end
end Lw
set_option linter.all false
set_option maxRecDepth 100000
set_option maxHeartbeats 4000000
/-! K4m: goals, once more. -/
namespace Lw
open Fb
@[simp] theorem min_ii {S : Store} {i j : Int} : bltD S .min [.int i, .int j] = some (.int (if j < i then j else i)) := (rfl)
@[simp] theorem tup_lst {S : Store} {xs : List D} : bltD S .tuple [.lst xs] = some (.tup xs) := (rfl)
@[simp] theorem tup_tup {S : Store} {xs : List D} : bltD S .tuple [.tup xs] = some (.tup xs) := (rfl)
theorem isM_of {ys : List (List Nat)} {src : List Nat} (h1 : ys.length ≤ 8) (h2 : ∀ y ∈ ys, y.length ≤ 8) (h3 : src.length ≤ 8) : ∃ t, IsM (.tup [.tup (ys.map .str), .str src]) t := ⟨_, .mk ys src h1 h2 h3⟩
section
variable {fuel : Nat}
theorem goal_of {S : Store} (h : Good S) {wo wd gd : D} {ws gs : List (List Nat)} {rows : List D} (W : Wrld S wo wd gd ws gs rows) {rank : Int} (hrk : ∃ r ∈ rows, rankOf r ≤ rank) {hd : List Nat} (hwo : ∀ k, D.low k wo = true → True) {l : Nat} (hl : 3 ≤ l) :
    ∃ (m row : D) (t : List Nat) (S' : Store), callF fs fuel l 21 [.cell 0, wo, .int rank, .str hd] S = .ok (.tup [m, row]) S' ∧ IsM m t ∧ IsRow row ∧ Up [0] S S' := by
  obtain ⟨l, rfl⟩ : ∃ j, l = j + 1 := ⟨l - 1, by omega⟩
  obtain ⟨a, S1, e1, a0, a1, u1⟩ := habit_of (fuel := fuel) h (p := 31) (m := 5) (by omega) (l := l) (by omega)
  have W1 := W.up u1
  have hmn : ∃ m0 : Nat, ((if (ws.length : Int) < 1 then (ws.length : Int) else 1) * a).toNat = m0 ∧ m0 ≤ 4 ∧ (0 < m0 → 0 < ws.length) ∧ 0 ≤ (if (ws.length : Int) < 1 then (ws.length : Int) else 1) * a ∧ (if (ws.length : Int) < 1 then (ws.length : Int) else 1) * a ≤ 4 := by
    by_cases hw : (ws.length : Int) < 1
    · have : (ws.length : Int) = 0 := by omega
      rw [if_pos hw, this, Int.zero_mul]
      exact ⟨0, rfl, by omega, by omega, by omega, by omega⟩
    · rw [if_neg hw, Int.one_mul]
      exact ⟨a.toNat, rfl, by omega, by omega, by omega, by omega⟩
  obtain ⟨m0, hm0, hm4, hmw, hp0, hp4⟩ := hmn
  have er : ∀ S, rngM (.int ((if (ws.length : Int) < 1 then (ws.length : Int) else 1) * a)) S = .ok (.xs (rngD 0 m0)) S := fun S => by rw [x_rngM (by omega) (by omega), hm0]
  have emul : ∀ S, binM .mul (.int (if (ws.length : Int) < 1 then (ws.length : Int) else 1)) (.int a) S = .ok (.int ((if (ws.length : Int) < 1 then (ws.length : Int) else 1) * a)) S := fun S => o_mulI (.inr (by unfold two64; omega))
  generalize hMI : (if (ws.length : Int) < 1 then (ws.length : Int) else 1) * a = MI at *
  obtain ⟨ys, S2, e2, y1, y8, u2⟩ := word_of (fuel := fuel) u1.good W1.w (l := l) (by omega) (k := 7) (j := 11) (σ := [some (.cell 0), some wo, some (.int rank), some (.str hd), none, none, none, some wd, some gd, some (.lst rows), none, none]) (by simp) rfl rfl (by decide) (by decide) (m := m0) (by omega) hmw
  have u12 := u1.trans u2
  have W2 := W1.up u2
  have el7 : ∀ {S' : Store}, Up [0] S S' → bltD S' .len [wd] = some (.int ws.length) := fun {S'} u => (W.w.up u).len
  have er2 := fun (σ : Ev) (S' : Store) (h10 : 10 < σ.length) (h2 : σ[2]? = some (some (.int rank))) => by_rank (fuel := fuel) (S := S') W.rr W.r1 (l := l) (σ := σ) (rank := rank) h10 h2
  have hin := o_inL (S := S2) (x := hd) W2.w.lst.1 W2.w.lst.2
  have hbel : ∀ r ∈ rows.filter (fun r => decide (rankOf r < rank)), IsRow r := fun r hr => W.rr r (List.mem_filter.mp hr).1
  have hlev : ∀ r ∈ rows.filter (fun r => decide (rankOf r ≤ rank)), IsRow r := fun r hr => W.rr r (List.mem_filter.mp hr).1
  have hlev0 : 0 < (rows.filter (fun r => decide (rankOf r ≤ rank))).length := by
    obtain ⟨r, hr, hk⟩ := hrk
    exact List.length_pos_iff.mpr fun z => by
      have : r ∈ rows.filter (fun r => decide (rankOf r ≤ rank)) := List.mem_filter.mpr ⟨hr, decide_eq_true hk⟩
      rw [z] at this; cases this
  generalize hB : memD (.str hd) (ws.map .str) = b1 at *
  generalize hBel : rows.filter (fun r => decide (rankOf r < rank)) = bel at *
  generalize hLev : rows.filter (fun r => decide (rankOf r ≤ rank)) = lev at *
  have ewo : ∀ S, idxM wo (.int 0) S = .ok wd S ∧ idxM wo (.int 1) S = .ok gd S ∧ idxM wo (.int 2) S = .ok (.lst rows) S := fun S => by
    rw [W.eq]; exact ⟨rfl, rfl, rfl⟩
  have i0 := fun S => (ewo S).1
  have i1 := fun S => (ewo S).2.1
  have i2 := fun S => (ewo S).2.2
  have hfr : D.frees [.cell 0, wo, .int rank, .str hd] = false := rfl
  rw [callF_succ (fn := f_law_goal) rfl rfl]
  -- the end: from where no row below is taken
  have tail : ∀ S3, Up [0] S S3 → ∃ (m row : D) (t : List Nat) (S' : Store), exS ⟨callF fs fuel l, fuel⟩ (.seq (.ite (.cmp .eq (.call 10 (.cons (.var 0) (.cons (.lit (.int 3)) .nil))) (.lit (.int 0)))
      (.seq (.ret (.tup (.cons (.tup (.cons (.var 4) (.cons (.idx (.var 8) (.call 10 (.cons (.var 0) (.cons (.blt .len (.cons (.var 8) .nil)) .nil)))) .nil))) (.cons (.idx (.var 9) (.call 10 (.cons (.var 0) (.cons (.blt .len (.cons (.var 9) .nil)) .nil)))) .nil))))
      .skip)
      .skip)
      (.seq (.set 6 (.comp [10] (.nm 10) (.cons (.var 9) .nil) (.cons (.cmp .le (.idx (.var 10) (.lit (.int 3))) (.var 2)) .nil) (.var 10)))
      (.seq (.ret (.tup (.cons (.tup (.cons (.var 4) (.cons (.lit (.str [84])) .nil))) (.cons (.idx (.var 6) (.call 10 (.cons (.var 0) (.cons (.blt .len (.cons (.var 6) .nil)) .nil)))) .nil))))
      .skip))) [some (.cell 0), some wo, some (.int rank), some (.str hd), some (.tup (ys.map .str)), some (.lst bel), none, some wd, some gd, some (.lst rows), none, none] S3 = .ok (.rt (.tup [m, row])) S' ∧ IsM m t ∧ IsRow row ∧ Up [0] S S' := fun S3 u3 => by
    obtain ⟨b, S4, e4, b0, b1', u4⟩ := grab_of (fuel := fuel) u3.good (m := 3) (by omega) (l := l) (by omega)
    by_cases cb : b = 0
    · subst cb
      have W4 := (W.up u3).up u4
      obtain ⟨g, S5, e5, g0, g1, u5⟩ := grab_of (fuel := fuel) u4.good (m := gs.length) (by have := W.g1; omega) (l := l) (by omega)
      obtain ⟨sr, es, hs8⟩ := (W4.g.up u5).idx g0 g1
      obtain ⟨r, S6, d, e6, e7, hd6, u6⟩ := pick_row (fuel := fuel) u5.good W.rr (by have := W.r0; omega) (l := l) (by omega)
      obtain ⟨t, ht⟩ := isM_of (ys := ys) (src := sr) (by omega) y8 hs8
      refine ⟨_, d, t, S6, ?_, ht, hd6, ((u3.trans u4).trans u5).trans u6⟩
      have elg := W4.g.len
      simp (disch := (first | decide | assumption | (simp only [List.length_append, List.length_cons, List.length_nil, List.length_map] <;> omega) | omega)) [e4, elg, e5, es, e6, e7, -idx_cell, -o_idxL]
    · obtain ⟨r, S6, d, e6, e7, hd6, u6⟩ := pick_row (fuel := fuel) u4.good hlev hlev0 (l := l) (by omega)
      obtain ⟨t, ht⟩ := isM_of (ys := ys) (src := [84]) (by omega) y8 (by decide)
      refine ⟨_, d, t, S6, ?_, ht, hd6, (u3.trans u4).trans u6⟩
      have ec := (er2 [some (.cell 0), some wo, some (.int rank), some (.str hd), some (.tup (ys.map .str)), some (.lst bel), none, some wd, some gd, some (.lst rows), none, none] S4 (by simp) rfl).2
      simp (disch := (first | decide | assumption | (simp only [List.length_append, List.length_cons, List.length_nil, List.length_map] <;> omega) | omega)) [e4, cb, x_comp2, -x_comp, srcD, ec, e6, e7, -idx_cell, -o_idxL]
  have ec1 := (er2 [some (.cell 0), some wo, some (.int rank), some (.str hd), some (.tup (ys.map .str)), none, none, some wd, some gd, some (.lst rows), none, none] S2 (by simp) rfl).1
  have el0 := el7 (Up.refl0 h)
  by_cases ca : b1 = true ∧ 0 < bel.length
  · obtain ⟨cb1, cb2⟩ := ca
    subst cb1
    have cb2' : (0 : Int) < (bel.length : Int) := by omega
    obtain ⟨b, S3, e3, b0, b1', u3⟩ := grab_of (fuel := fuel) u12.good (m := 2) (by omega) (l := l) (by omega)
    by_cases cb : b = 0
    · subst cb
      obtain ⟨r, S6, d, e6, e7, hd6, u6⟩ := pick_row (fuel := fuel) u3.good hbel cb2 (l := l) (by omega)
      obtain ⟨t, ht⟩ := isM_of (ys := ys) (src := [85]) (by omega) y8 (by decide)
      have uu := (u12.trans u3).trans u6
      refine ⟨_, d, t, _, call_low (C := ⟨callF fs fuel l, fuel⟩) (fn := f_law_goal) (xs := [.cell 0, wo, .int rank, .str hd]) (S := S) (S1 := S6) (d := .tup [.tup [.tup (ys.map .str), .str [85]], d]) rfl hfr ?_ (low_free (by simp [D.free, D.frees, frees_strs, hd6.free])) (uu.lows h), ht, hd6, uu.leave h⟩
      simp (disch := (first | decide | assumption | (simp only [List.length_append, List.length_cons, List.length_nil, List.length_map] <;> omega) | omega)) [f_law_goal, i0, i1, i2, el0, e1, emul, er, -x_rngM, x_comp2, -x_comp, e2, srcD, ec1, hin, cb2, cb2', e3, e6, e7, -idx_cell, -o_idxL]
    · obtain ⟨m, row, t, S6, e6, ht, hr6, uu⟩ := tail S3 (u12.trans u3)
      refine ⟨m, row, t, _, call_low (C := ⟨callF fs fuel l, fuel⟩) (fn := f_law_goal) (xs := [.cell 0, wo, .int rank, .str hd]) (S := S) (S1 := S6) (d := .tup [m, row]) rfl hfr ?_ (low_free (by simp [D.free, D.frees, ht.free, hr6.free])) (uu.lows h), ht, hr6, uu.leave h⟩
      rw [← e6]
      simp (disch := (first | decide | assumption | (simp only [List.length_append, List.length_cons, List.length_nil, List.length_map] <;> omega) | omega)) [f_law_goal, i0, i1, i2, el0, e1, emul, er, -x_rngM, x_comp2, -x_comp, e2, srcD, ec1, hin, cb2, cb2', e3, cb, -idx_cell, -o_idxL]
  · obtain ⟨m, row, t, S6, e6, ht, hr6, uu⟩ := tail S2 u12
    refine ⟨m, row, t, _, call_low (C := ⟨callF fs fuel l, fuel⟩) (fn := f_law_goal) (xs := [.cell 0, wo, .int rank, .str hd]) (S := S) (S1 := S6) (d := .tup [m, row]) rfl hfr ?_ (low_free (by simp [D.free, D.frees, ht.free, hr6.free])) (uu.lows h), ht, hr6, uu.leave h⟩
    rw [← e6]
    cases b1 with
    | false => simp (disch := (first | decide | assumption | (simp only [List.length_append, List.length_cons, List.length_nil, List.length_map] <;> omega) | omega)) [f_law_goal, i0, i1, i2, el0, e1, emul, er, -x_rngM, x_comp2, -x_comp, e2, srcD, ec1, hin, -idx_cell, -o_idxL]
    | true =>
      have cb2 : ¬ 0 < bel.length := fun z => ca ⟨rfl, z⟩
      have cb2' : ¬ (0 : Int) < (bel.length : Int) := by omega
      simp (disch := (first | decide | assumption | (simp only [List.length_append, List.length_cons, List.length_nil, List.length_map] <;> omega) | omega)) [f_law_goal, i0, i1, i2, el0, e1, emul, er, -x_rngM, x_comp2, -x_comp, e2, srcD, ec1, hin, cb2, cb2', -idx_cell, -o_idxL]
end
end Lw
set_option linter.all false
set_option maxRecDepth 100000
set_option maxHeartbeats 4000000
/-! K4n: statements made. -/
namespace Lw
open Fb
theorem IsSs.snoc : ∀ {ds : List D} {lss : List (List (List Nat))} {c dp : Nat}, IsSs ds lss c dp → ∀ {d : D} {ls : List (List Nat)} {c' dp' : Nat}, IsS d ls c' dp' → ∃ lss2 c2 dp2, IsSs (ds ++ [d]) lss2 c2 dp2 ∧ c2 = c + c' ∧ dp2 = max dp dp'
  | _, _, _, _, .nil, d, ls, c', dp', h => ⟨_, _, _, .cons h .nil, by omega, by omega⟩
  | _, _, _, _, .cons h0 hs, d, ls, c', dp', h => by
    obtain ⟨lss2, c2, dp2, h1, h2, h3⟩ := hs.snoc h
    exact ⟨_, _, _, .cons h0 h1, by omega, by omega⟩
structure Ctx (S : Store) (wo wd gd : D) (ws gs : List (List Nat)) (rows : List D) (nn nl : Nat) (v : Int) : Prop where
  good : Good S
  world : Wrld S wo wd gd ws gs rows
  names : Names S nn
  left : S[nl]? = some (.lst [.int v])
  nl0 : nl ≠ 0
  nnl : nn ≠ nl
  wn : ∀ n, wd = .cell n → n ≠ nn ∧ n ≠ nl
  gn : ∀ n, gd = .cell n → n ≠ nn ∧ n ≠ nl
section
variable {S S1 : Store} {wo wd gd : D} {ws gs : List (List Nat)} {rows : List D} {nn nl : Nat} {v : Int}
theorem Wrld.upX {X : List Nat} (h : Wrld S wo wd gd ws gs rows) (u : Up X S S1) (h1 : ∀ n, wd = .cell n → n ∉ X) (h2 : ∀ n, gd = .cell n → n ∉ X) : Wrld S1 wo wd gd ws gs rows := ⟨h.eq, h.w.upX u h1, h.g.upX u h2, h.g1, h.rr, h.r1, h.r0⟩
theorem Ctx.up (C : Ctx S wo wd gd ws gs rows nn nl v) (u : Up [0] S S1) : Ctx S1 wo wd gd ws gs rows nn nl v :=
  ⟨u.good, C.world.up u, C.names.up u, u.get C.left (by simpa using C.nl0), C.nl0, C.nnl, C.wn, C.gn⟩
theorem words_n0 {d : D} {zs : List (List Nat)} (h : Words S d zs) : ∀ n, d = .cell n → n ≠ 0 := fun n e => by
  rcases h.1 with q | ⟨k, h0, q, _⟩
  · rw [q] at e; cases e
  · rw [q] at e; cases e; exact h0
theorem Ctx.upN (C : Ctx S wo wd gd ws gs rows nn nl v) (u : Up [0, nn] S S1) (hn : Names S1 nn) : Ctx S1 wo wd gd ws gs rows nn nl v :=
  ⟨u.good, C.world.upX u (fun n e z => by
    have := words_n0 C.world.w n e
    have := (C.wn n e).1
    simp at z; omega) (fun n e z => by
    have := words_n0 C.world.g n e
    have := (C.gn n e).1
    simp at z; omega), hn, u.get C.left (fun z => by
      have := C.nl0
      have := C.nnl
      simp at z; omega), C.nl0, C.nnl, C.wn, C.gn⟩
theorem Ctx.low3 (C : Ctx S wo wd gd ws gs rows nn nl v) : ∀ i ∈ [0, nn, nl], ∀ c, S[i]? = some c → c.low 0 = true := fun i hi c hc => by
  rcases List.mem_cons.mp hi with e | e
  · rw [e] at hc; exact C.good.low0 c hc
  · rcases List.mem_cons.mp e with e | e
    · rw [e] at hc; exact C.names.low c hc
    · rw [List.mem_singleton.mp e, C.left] at hc; cases hc; rfl
theorem Ctx.w0 (C : Ctx S wo wd gd ws gs rows nn nl v) (u : Up [0] S S1) : Up [0, nn, nl] S S1 := u.widen (fun i hi => by rw [List.mem_singleton.mp hi]; exact List.mem_cons_self) C.low3
theorem Ctx.wN (C : Ctx S wo wd gd ws gs rows nn nl v) (u : Up [0, nn] S S1) : Up [0, nn, nl] S S1 := u.widen (fun i hi => by
  rcases List.mem_cons.mp hi with e | e
  · rw [e]; exact List.mem_cons_self
  · rw [List.mem_singleton.mp e]; simp) C.low3
theorem Ctx.refl (C : Ctx S wo wd gd ws gs rows nn nl v) : Up [0, nn, nl] S S := Up.refl C.good C.low3
/-- behind a call that may write names and left -/
theorem Ctx.up3 (C : Ctx S wo wd gd ws gs rows nn nl v) (u : Up [0, nn, nl] S S1) {v' : Int} (hn : Names S1 nn) (hl : S1[nl]? = some (.lst [.int v'])) : Ctx S1 wo wd gd ws gs rows nn nl v' :=
  ⟨u.good, C.world.upX u (fun n e z => by
    have := words_n0 C.world.w n e
    have := C.wn n e
    simp at z; omega) (fun n e z => by
    have := words_n0 C.world.g n e
    have := C.gn n e
    simp at z; omega), hn, hl, C.nl0, C.nnl, C.wn, C.gn⟩
theorem take_get {k i : Nat} {c : Cell} (h : S1[i]? = some c) (hi : i < k) : (S1.take k)[i]? = some c := (List.getElem?_take_of_lt hi).trans h
theorem Ctx.leave (C : Ctx S wo wd gd ws gs rows nn nl v) (u : Up [0, nn, nl] S S1) {v' : Int} (C1 : Ctx S1 wo wd gd ws gs rows nn nl v') : Up [0, nn, nl] S (S1.take S.length) ∧ Ctx (S1.take S.length) wo wd gd ws gs rows nn nl v' := by
  have u2 := u.leave C.good
  obtain ⟨n0, ns, n1, n2⟩ := C1.names
  have l1 := (List.getElem?_eq_some_iff.mp C.left).1
  obtain ⟨_, ns0, k1, _⟩ := C.names
  have l2 := (List.getElem?_eq_some_iff.mp k1).1
  exact ⟨u2, C.up3 u2 ⟨n0, ns, take_get n1 l2, n2⟩ (take_get C1.left l1)⟩
end
theorem IsN.E {d : D} {m : Nat} (h : IsN d m) (hm : m ≤ 15) : ∃ k t n dp, IsE d k t n dp ∧ n ≤ 16 ∧ dp ≤ 16 := by
  obtain ⟨k, t, n, dp, h1, rfl, h2⟩ := h
  exact ⟨k, t, n, dp, h1, by omega, by omega⟩
theorem IsN.free {d : D} {m : Nat} (h : IsN d m) : D.free d = true := by
  obtain ⟨k, t, n, dp, h1, _⟩ := h
  exact h1.free
theorem isEs_of : ∀ {ys : List D}, (∀ y ∈ ys, ∃ m, IsN y m ∧ m ≤ 15) → ∃ ts, IsEs ys ts
  | [], _ => ⟨[], .nil⟩
  | y :: r, h => by
    obtain ⟨m, h1, h2⟩ := h y List.mem_cons_self
    obtain ⟨k, t, n, dp, h3, h4, h5⟩ := h1.E h2
    obtain ⟨ts, h6⟩ := isEs_of fun z hz => h z (List.mem_cons_of_mem _ hz)
    exact ⟨_, .cons h3 h4 h5 h6⟩
section
variable {fuel : Nat}
/-- what statements at a depth do -/
def StsOk (l : Nat) (deep : Nat) : Prop := ∀ {S : Store} {wo wd gd : D} {ws gs : List (List Nat)} {rows : List D} {nn nl : Nat} {v : Int} {rank : Int} {hd : List Nat}, Ctx S wo wd gd ws gs rows nn nl v → (∃ r ∈ rows, rankOf r ≤ rank) → 0 ≤ v →
  ∃ (ds : List D) (lss : List (List (List Nat))) (c dp : Nat) (v' : Int) (S' : Store), callF fs fuel l 23 [.cell 0, wo, .tup [.int rank, .str hd], .cell nn, .cell nl, .int deep] S = .ok (.tup ds) S' ∧ IsSs ds lss c dp ∧ dp + deep ≤ 4 ∧ Up [0, nn, nl] S S' ∧ Ctx S' wo wd gd ws gs rows nn nl v' ∧ 0 ≤ v' ∧ (c : Int) + v' ≤ v
def StOk (l : Nat) (deep : Nat) : Prop := ∀ {S : Store} {wo wd gd : D} {ws gs : List (List Nat)} {rows : List D} {nn nl : Nat} {v : Int} {rank : Int} {hd : List Nat}, Ctx S wo wd gd ws gs rows nn nl v → (∃ r ∈ rows, rankOf r ≤ rank) → 0 ≤ v →
  ∃ (d : D) (ls : List (List Nat)) (c dp : Nat) (v' : Int) (S' : Store), callF fs fuel l 22 [.cell 0, wo, .tup [.int rank, .str hd], .cell nn, .cell nl, .int deep] S = .ok d S' ∧ IsS d ls c dp ∧ dp + deep ≤ 4 ∧ Up [0, nn, nl] S S' ∧ Ctx S' wo wd gd ws gs rows nn nl v' ∧ 0 ≤ v' ∧ (c : Int) + v' ≤ v + 1
theorem st_of {l deep : Nat} (hl : 6 ≤ l) (hd3 : deep ≤ 3) (hrec : deep < 3 → StsOk (fuel := fuel) l (deep + 1)) : StOk (fuel := fuel) (l + 1) deep := by
  intro S wo wd gd ws gs rows nn nl v rank hd C hrk hv
  obtain ⟨way, S1, e1, w0, w1, u1⟩ := habit_of (fuel := fuel) C.good (p := 32 + (deep : Int)) (m := 6) (by omega) (l := l) (by omega)
  have C1 := C.up u1
  have U1 := C.w0 u1
  rw [callF_succ (fn := f_law_statement) rfl rfl]
  have hfr : D.frees [.cell 0, wo, .tup [.int rank, .str hd], .cell nn, .cell nl, .int deep] = false := rfl
  by_cases cw : 3 < way ∧ deep < 3
  · obtain ⟨cw1, cw2⟩ := cw
    have cw2' : (deep : Int) < 3 := by omega
    obtain ⟨a, S2, ma, e2, ha, hma, u2⟩ := sum_of (fuel := fuel) u1.good C1.names (l := l) (by omega)
    have C2 := C1.up u2
    obtain ⟨b, S3, mb, e3, hb, hmb, u3⟩ := sum_of (fuel := fuel) u2.good C2.names (l := l) (by omega)
    have C3 := C2.up u3
    obtain ⟨t, lt, ct, dt, v1, S4, e4, ht, hdt, u4, C4, hv1, hc1⟩ := hrec cw2 C3 hrk hv (hd := hd)
    obtain ⟨e, le, ce, de, v2, S5, e5, he, hde, u5, C5, hv2, hc2⟩ := hrec cw2 C4 hrk hv1 (hd := hd)
    obtain ⟨ka, ta, na, da, hA, ha1, ha2⟩ := ha.E hma
    obtain ⟨kb, tb, nb, db, hB, hb1, hb2⟩ := hb.E hmb
    have U := (((U1.trans (C1.w0 u2)).trans (C2.w0 u3)).trans u4).trans u5
    obtain ⟨L1, L2⟩ := C.leave U C5
    have hdp : (((deep + 1 : Nat) : Nat) : Int) = (deep : Int) + 1 := by omega
    rw [hdp] at e4 e5
    refine ⟨_, _, _, _, v2, _, call_low (C := ⟨callF fs fuel l, fuel⟩) (fn := f_law_statement) (xs := [.cell 0, wo, .tup [.int rank, .str hd], .cell nn, .cell nl, .int deep]) (S := S) (S1 := S5) (d := .tup [.str [105, 102], a, b, .tup t, .tup e]) rfl hfr ?_ (low_free (by simp [D.free, D.frees, ha.free, hb.free, ht.free, he.free])) (U.lows C.good), .if_ hA ha1 ha2 hB hb1 hb2 ht he, by omega, L1, L2, hv2, by omega⟩
    simp (disch := (first | decide | assumption | (simp only [List.length_append, List.length_cons, List.length_nil, List.length_map] <;> omega) | omega)) [f_law_statement, e1, cw1, cw2', e2, e3, e4, e5]
  · have hno : ∀ {x y : IS} {σ : Ev} {S' : Store}, σ[6]? = some (some (.int way)) → σ[5]? = some (some (.int deep)) → exS ⟨callF fs fuel l, fuel⟩ (.ite (.and (.cmp .gt (.var 6) (.lit (.int 3))) (.cmp .lt (.var 5) (.lit (.int 3)))) x .skip) σ S' = .ok (.nx σ) S' := fun {x y σ S'} h6 h5 => by
      by_cases c3 : 3 < way
      · have c4 : ¬ (deep : Int) < 3 := fun z => cw ⟨c3, by omega⟩
        simp (disch := (first | decide | assumption | (simp only [List.length_append, List.length_cons, List.length_nil, List.length_map] <;> omega) | omega)) [h6, h5, c3, c4]
      · simp (disch := (first | decide | assumption | (simp only [List.length_append, List.length_cons, List.length_nil, List.length_map] <;> omega) | omega)) [h6, h5, c3]
    by_cases cz : way = 0
    · obtain ⟨a, S2, ma, e2, ha, hma, u2⟩ := sum_of (fuel := fuel) u1.good C1.names (l := l) (by omega)
      have C2 := C1.up u2
      have U := U1.trans (C1.w0 u2)
      obtain ⟨ka, ta, na, da, hA, ha1, ha2⟩ := ha.E hma
      obtain ⟨L1, L2⟩ := C.leave U C2
      refine ⟨_, _, _, _, v, _, call_low (C := ⟨callF fs fuel l, fuel⟩) (fn := f_law_statement) (xs := [.cell 0, wo, .tup [.int rank, .str hd], .cell nn, .cell nl, .int deep]) (S := S) (S1 := S2) (d := .tup [.str [111, 117, 116], a]) rfl hfr ?_ (low_free (by simp [D.free, D.frees, ha.free])) (U.lows C.good), .out hA ha1 ha2, by omega, L1, L2, hv, by omega⟩
      subst cz
      simp (disch := (first | decide | assumption | (simp only [List.length_append, List.length_cons, List.length_nil, List.length_map] <;> omega) | omega)) [f_law_statement, e1, e2]
    · by_cases c3 : way < 3
      · obtain ⟨m, row, t, S2, e2, hM, hrow, u2⟩ := goal_of (fuel := fuel) u1.good C1.world (rank := rank) hrk (hd := hd) (fun _ _ => trivial) (l := l) (by omega)
        have C2 := C1.up u2
        obtain ⟨nm, ps, hs, rk, R⟩ := hrow
        obtain ⟨ys, S3, e3, p3, l3, u3⟩ := compM_ex (f := elG ⟨callF fs fuel l, fuel⟩ [7] (.nm 7) .nil (.call 19 (.cons (.var 0) (.cons (.var 3) .nil))) [some (.cell 0), some wo, some (.tup [.int rank, .str hd]), some (.cell nn), some (.cell nl), some (.int deep), some (.int way), none, none, none, none, none, some m, some row]) (fun S' => Up [0] S2 S') (fun y => ∃ m, IsN y m ∧ m ≤ 15) (xs := ps.map .str) (k := 0) (S := S2) (fun x hx S' u' => by
          obtain ⟨d, S6, mm, e6, hd6, hm6, u6⟩ := sum_of (fuel := fuel) u'.good ((C2.up u').names) (l := l) (by omega)
          exact ⟨d, S6, el_nm (by simp (disch := (first | decide | assumption | (simp only [List.length_append, List.length_cons, List.length_nil, List.length_map] <;> omega) | omega)) [wipeE, e6]), ⟨mm, hd6, hm6⟩, u'.trans u6⟩) (by rw [List.length_map]; have := R.pl; omega) (Up.refl0 u2.good)
        obtain ⟨ts, hE⟩ := isEs_of p3
        have C3 := C2.up u3
        obtain ⟨w, S4, e4, hw, hn4, u4⟩ := into_of (fuel := fuel) u3.good C3.names (l := l) (by omega)
        have C4 := C3.upN u4 hn4
        have U := ((U1.trans (C1.w0 u2)).trans (C2.w0 u3)).trans (C3.wN u4)
        obtain ⟨L1, L2⟩ := C.leave U C4
        rw [List.length_map] at l3
        have er0 : ∀ S, idxM row (.int 0) S = .ok (.str nm) S := fun S => by rw [R.eq]; rfl
        have er1 : ∀ S, idxM row (.int 1) S = .ok (.lst (ps.map .str)) S := fun S => by rw [R.eq]; rfl
        refine ⟨_, _, _, _, v, _, call_low (C := ⟨callF fs fuel l, fuel⟩) (fn := f_law_statement) (xs := [.cell 0, wo, .tup [.int rank, .str hd], .cell nn, .cell nl, .int deep]) (S := S) (S1 := S4) (d := .tup [.str [99, 97, 108, 108], .str w, .str nm, m, .tup ys]) rfl hfr ?_ (low_free (by simp [D.free, D.frees, hM.free, hE.free])) (U.lows C.good), .call w nm hw R.n8 hM hE (by rw [l3]; exact R.pl), by omega, L1, L2, hv, by omega⟩
        have c33 : ¬ 3 < way := by omega
        simp (disch := (first | decide | assumption | (simp only [List.length_append, List.length_cons, List.length_nil, List.length_map] <;> omega) | omega)) [f_law_statement, e1, c33, cz, c3, e2, er0, er1, x_comp2, -x_comp, srcD, e3, e4]
      · obtain ⟨w, S2, e2, hw, hn2, u2⟩ := into_of (fuel := fuel) u1.good C1.names (l := l) (by omega)
        have C2 := C1.upN u2 hn2
        obtain ⟨a, S3, ma, e3, ha, hma, u3⟩ := sum_of (fuel := fuel) u2.good C2.names (l := l) (by omega)
        have C3 := C2.up u3
        have U := (U1.trans (C1.wN u2)).trans (C2.w0 u3)
        obtain ⟨ka, ta, na, da, hA, ha1, ha2⟩ := ha.E hma
        obtain ⟨L1, L2⟩ := C.leave U C3
        refine ⟨_, _, _, _, v, _, call_low (C := ⟨callF fs fuel l, fuel⟩) (fn := f_law_statement) (xs := [.cell 0, wo, .tup [.int rank, .str hd], .cell nn, .cell nl, .int deep]) (S := S) (S1 := S3) (d := .tup [.str [108, 101, 116], .str w, a]) rfl hfr ?_ (low_free (by simp [D.free, D.frees, ha.free])) (U.lows C.good), .let_ w hw hA ha1 ha2, by omega, L1, L2, hv, by omega⟩
        by_cases c3 : 3 < way
        · have c4 : ¬ (deep : Int) < 3 := fun z => cw ⟨c3, by omega⟩
          have c5 : ¬ way < 3 := by omega
          simp (disch := (first | decide | assumption | (simp only [List.length_append, List.length_cons, List.length_nil, List.length_map] <;> omega) | omega)) [f_law_statement, e1, c3, c4, c5, cz, e2, e3]
        · have c5 : ¬ way < 3 := by omega
          simp (disch := (first | decide | assumption | (simp only [List.length_append, List.length_cons, List.length_nil, List.length_map] <;> omega) | omega)) [f_law_statement, e1, c3, c5, cz, e2, e3]
end
end Lw
set_option linter.all false
set_option maxRecDepth 100000
set_option maxHeartbeats 4000000
/-! K4o: statements made, blocks. -/
namespace Lw
open Fb
theorem tupleC {S : Store} {n : Nat} {xs : List D} (h : S[n]? = some (.lst xs)) : bltD S .tuple [.cell n] = some (.tup xs) := by
  show (seqOf S (.cell n)).map D.tup = _
  have e : seqOf S (.cell n) = some xs := by
    show (match S[n]? with
      | some (.lst xs) => some xs
      | none => none) = _
    rw [h]
  rw [e]; rfl
section
variable {S S1 : Store} {wo wd gd : D} {ws gs : List (List Nat)} {rows : List D} {nn nl : Nat} {v : Int}
theorem Ctx.notin (C : Ctx S wo wd gd ws gs rows nn nl v) {k : Nat} (hk : S.length ≤ k) : k ∉ [0, nn, nl] := fun z => by
  have l1 := (List.getElem?_eq_some_iff.mp C.left).1
  obtain ⟨_, ns0, k1, _⟩ := C.names
  have l2 := (List.getElem?_eq_some_iff.mp k1).1
  have l3 := C.good.pos
  simp at z; omega
/-- an own cell is written -/
theorem Ctx.own (C0 : Ctx S wo wd gd ws gs rows nn nl v) {k : Nat} {xs : List D} {v' : Int} (C : Ctx S1 wo wd gd ws gs rows nn nl v') (u : Up [0, nn, nl] S S1) (hk : S.length ≤ k) (hx : D.frees xs = true) : Up [0, nn, nl] S (S1.set k (.lst xs)) ∧ Ctx (S1.set k (.lst xs)) wo wd gd ws gs rows nn nl v' := by
  have hp := C0.good.pos
  have u2 := u.put (n := k) (xs := xs) hk (by omega) (lows_free hx)
  have nk := C0.notin hk
  simp only [List.mem_cons, List.not_mem_nil, or_false, not_or] at nk
  obtain ⟨n0, ns, n1, n2⟩ := C.names
  exact ⟨u2, C0.up3 u2 ⟨n0, ns, by rw [List.getElem?_set_ne nk.2.1]; exact n1, n2⟩ (by rw [List.getElem?_set_ne nk.2.2]; exact C.left)⟩
/-- left is written -/
theorem Ctx.pay (C0 : Ctx S wo wd gd ws gs rows nn nl v) {v' v2 : Int} (C : Ctx S1 wo wd gd ws gs rows nn nl v') (u : Up [0, nn, nl] S S1) : Up [0, nn, nl] S (S1.set nl (.lst [.int v2])) ∧ Ctx (S1.set nl (.lst [.int v2])) wo wd gd ws gs rows nn nl v2 := by
  have u2 := u.putX (n := nl) (xs := [.int v2]) (by simp) C.nl0 rfl (List.getElem?_eq_some_iff.mp C.left).1
  obtain ⟨n0, ns, n1, n2⟩ := C.names
  exact ⟨u2, C0.up3 u2 ⟨n0, ns, by rw [List.getElem?_set_ne (Ne.symm C.nnl)]; exact n1, n2⟩ (get_set C.left)⟩
end
section
variable {fuel : Nat}
theorem sts_of {l deep : Nat} (hl : 2 ≤ l) (hst : StOk (fuel := fuel) l deep) : deep ≤ 3 → StsOk (fuel := fuel) (l + 1) deep := by
  intro hd3 S wo wd gd ws gs rows nn nl v rank hd C hrk hv
  obtain ⟨m, S1, e1, m0, m1, u1⟩ := habit_of (fuel := fuel) (C.good) (p := 36 + (deep : Int)) (m := 9) (by omega) (l := l) (by omega)
  have hp := C.good.pos
  -- the call of habit stands behind the new cell
  have u0 : Up [0, nn, nl] S (S ++ [.lst []]) := C.refl.push rfl
  have g0 : (S ++ [Cell.lst []])[S.length]? = some (.lst []) := get_new
  have l1 := (List.getElem?_eq_some_iff.mp C.left).1
  obtain ⟨n0, ns, n1, n2⟩ := C.names
  have l2 := (List.getElem?_eq_some_iff.mp n1).1
  have C0 : Ctx (S ++ [.lst []]) wo wd gd ws gs rows nn nl v := C.up3 u0 ⟨n0, ns, by rw [List.getElem?_append_left l2]; exact n1, n2⟩ (by rw [List.getElem?_append_left l1]; exact C.left)
  clear e1 m0 m1 u1 S1
  clear m
  obtain ⟨m, S1, e1, m0, m1, u1⟩ := habit_of (fuel := fuel) (C0.good) (p := 36 + (deep : Int)) (m := 9) (by omega) (l := l) (by omega)
  have C1 := C0.up u1
  have U1 := u0.trans (C0.w0 u1)
  have g1 := u1.get g0 (fun z => by have := List.mem_singleton.mp z; omega)
  have q := forL_rx (f := patB (.nm 7) fun σ' => exS ⟨callF fs fuel l, fuel⟩ (.seq (.ite (.cmp .lt (.idx (.var 4) (.lit (.int 0))) (.lit (.int 1)))
      (.seq (.ret (.blt .tuple (.cons (.var 6) .nil)))
      .skip)
      .skip)
      (.seq (.put (.var 4) (.lit (.int 0)) (.bin .sub (.idx (.var 4) (.lit (.int 0))) (.lit (.int 1))))
      (.seq (.ex (.mth .append (.var 6) (.cons (.call 22 (.cons (.var 0) (.cons (.var 1) (.cons (.var 2) (.cons (.var 3) (.cons (.var 4) (.cons (.var 5) .nil))))))) .nil)))
      .skip))) σ')
    (fun i σ S' => ∃ (ds : List D) (lss : List (List (List Nat))) (c dp : Nat) (v' : Int) (x7 : Option D), σ = [some (.cell 0), some wo, some (.tup [.int rank, .str hd]), some (.cell nn), some (.cell nl), some (.int deep), some (.cell S.length), x7] ∧ S'[S.length]? = some (.lst ds) ∧ IsSs ds lss c dp ∧ dp + deep ≤ 4 ∧
      Up [0, nn, nl] S S' ∧ Ctx S' wo wd gd ws gs rows nn nl v' ∧ 0 ≤ v' ∧ (c : Int) + v' ≤ v ∧ ds.length = i)
    (fun d S' => ∃ (ds : List D) (lss : List (List (List Nat))) (c dp : Nat) (v' : Int), d = .tup ds ∧ IsSs ds lss c dp ∧ dp + deep ≤ 4 ∧ Up [0, nn, nl] S S' ∧ Ctx S' wo wd gd ws gs rows nn nl v' ∧ 0 ≤ v' ∧ (c : Int) + v' ≤ v)
    (xs := rngD 0 m.toNat) (j := 0) (σ := [some (.cell 0), some wo, some (.tup [.int rank, .str hd]), some (.cell nn), some (.cell nl), some (.int deep), some (.cell S.length), none]) (S := S1) (fun i x σ S' hx hi => by
      obtain ⟨ds, lss, c, dp, v', x7, rfl, hS, hI, hdp, u, C', hv', hc, hlen⟩ := hi
      obtain ⟨rfl, him⟩ := rng_at hx
      have ei : idxM (.cell nl) (.int 0) S' = .ok (.int v') S' := idxC C'.left (by omega) rfl
      by_cases c1 : v' < 1
      · refine .inr ⟨.tup ds, S', ?_, ds, lss, c, dp, v', rfl, hI, hdp, u, C', hv', hc⟩
        have et := tupleC hS
        simp (disch := (first | decide | assumption | (simp only [List.length_append, List.length_cons, List.length_nil, List.length_map] <;> omega) | omega)) [ei, c1, et, -idx_cell]
      · obtain ⟨u2, C2⟩ := C.pay (v2 := v' - 1) C' u
        have hS2 : (S'.set nl (.lst [.int (v' - 1)]))[S.length]? = some (.lst ds) := by
          rw [List.getElem?_set_ne (by omega)]; exact hS
        have ep := putM_eq (v := .int (v' - 1)) (i := 0) C'.left (by omega) (by simp)
        simp only [Int.toNat_zero, List.set_cons_zero] at ep
        obtain ⟨d, ls, cd, dd, v3, S3, e3, hd', hdd, u3, C3, hv3, hc3⟩ := hst C2 hrk (by omega) (hd := hd)
        have hS3 := u3.get hS2 (C.notin (Nat.le_refl _))
        have ea := app_eq hS3 (by omega) d
        obtain ⟨lss2, c2, dp2, hI2, hc2, hdp2⟩ := hI.snoc hd'
        obtain ⟨u4, C4⟩ := C.own (k := S.length) (xs := ds ++ [d]) C3 (u2.trans u3) (Nat.le_refl _) hI2.free
        refine .inl ⟨[some (.cell 0), some wo, some (.tup [.int rank, .str hd]), some (.cell nn), some (.cell nl), some (.int deep), some (.cell S.length), some (.int i)], _, ?_, ds ++ [d], lss2, c2, dp2, v3, _, rfl, get_set hS3, hI2, by omega, u4, C4, hv3, by omega, by simp [hlen]⟩
        simp (disch := (first | decide | assumption | (simp only [List.length_append, List.length_cons, List.length_nil, List.length_map] <;> omega) | omega)) [ei, c1, ep, e3, recvOk, ea, -idx_cell]) ⟨[], [], 0, 0, v, none, rfl, g1, .nil, by omega, U1, C1, hv, by omega, rfl⟩
  rw [callF_succ (fn := f_law_statements) rfl rfl]
  have hfr : D.frees [.cell 0, wo, .tup [.int rank, .str hd], .cell nn, .cell nl, .int deep] = false := rfl
  have er : ∀ S, rngM (.int m) S = .ok (.xs (rngD 0 m.toNat)) S := fun S => x_rngM (by omega) (by omega)
  rcases q with ⟨σ', S2, e2, ds, lss, c, dp, v', x7, rfl, hS, hI, hdp, u, C', hv', hc, hlen⟩ | ⟨d, S2, e2, ds, lss, c, dp, v', rfl, hI, hdp, u, C', hv', hc⟩
  · obtain ⟨L1, L2⟩ := C.leave u C'
    refine ⟨ds, lss, c, dp, v', _, call_low (C := ⟨callF fs fuel l, fuel⟩) (fn := f_law_statements) (xs := [.cell 0, wo, .tup [.int rank, .str hd], .cell nn, .cell nl, .int deep]) (S := S) (S1 := S2) (d := .tup ds) rfl hfr ?_ (low_free hI.free) (u.lows C.good), hI, hdp, L1, L2, hv', hc⟩
    have et := tupleC hS
    simp (disch := (first | decide | assumption | (simp only [List.length_append, List.length_cons, List.length_nil, List.length_map] <;> omega) | omega)) [f_law_statements, e1, er, -x_rngM, e2, et]
  · obtain ⟨L1, L2⟩ := C.leave u C'
    refine ⟨ds, lss, c, dp, v', _, call_low (C := ⟨callF fs fuel l, fuel⟩) (fn := f_law_statements) (xs := [.cell 0, wo, .tup [.int rank, .str hd], .cell nn, .cell nl, .int deep]) (S := S) (S1 := S2) (d := .tup ds) rfl hfr ?_ (low_free hI.free) (u.lows C.good), hI, hdp, L1, L2, hv', hc⟩
    simp (disch := (first | decide | assumption | (simp only [List.length_append, List.length_cons, List.length_nil, List.length_map] <;> omega) | omega)) [f_law_statements, e1, er, -x_rngM, e2]
theorem sts_all : ∀ (j : Nat) {l deep : Nat}, 3 ≤ deep + j → deep ≤ 3 → 2 * j + 8 ≤ l → StsOk (fuel := fuel) l deep
  | 0, l, deep, h1, h2, h3 => by
    obtain ⟨l, rfl⟩ : ∃ k, l = k + 2 := ⟨l - 2, by omega⟩
    exact sts_of (l := l + 1) (by omega) (st_of (l := l) (by omega) h2 fun z => by omega) h2
  | j + 1, l, deep, h1, h2, h3 => by
    obtain ⟨l, rfl⟩ : ∃ k, l = k + 2 := ⟨l - 2, by omega⟩
    exact sts_of (l := l + 1) (by omega) (st_of (l := l) (by omega) h2 fun z => sts_all j (by omega) (by omega) (by omega)) h2
end
end Lw
set_option linter.all false
set_option maxRecDepth 100000
set_option maxHeartbeats 4000000
/-! K4p: blocks. -/
namespace Lw
open Fb
theorem Up.own {X Y : List Nat} {S S1 S2 : Store} (a : Up X S S1) (b : Up Y S1 S2) (hY : ∀ i ∈ Y, i < S.length → i ∈ X) : Up X S S2 :=
  ⟨Nat.le_trans a.len b.len, b.good, fun i hi hl => (b.same i (fun z => hi (hY i z hl)) (Nat.lt_of_lt_of_le hl a.len)).trans (a.same i hi hl), fun i hi hl c hc => by
    by_cases hy : i ∈ Y
    · exact b.chg i hy (Nat.lt_of_lt_of_le hl a.len) c hc
    · rw [b.same i hy (Nat.lt_of_lt_of_le hl a.len)] at hc; exact a.chg i hi hl c hc⟩
theorem IsCs.snoc {ds : List D} {ls : List (List Nat)} {c : Nat} (h : IsCs ds ls c) {ss : List D} {lss : List (List (List Nat))} {c0 dp0 : Nat} {e : D} {k : Nat} {t : List Nat} {n dp : Nat} {head : List Nat} (hh : head.length ≤ 8) (h1 : IsSs ss lss c0 dp0) (hd : dp0 ≤ 8) (h2 : IsE e k t n dp) (hn : n ≤ 16) (hdp : dp ≤ 16) :
    ∃ ls2 c2, IsCs (ds ++ [.tup [.str head, .tup [.tup ss, e]]]) ls2 c2 ∧ c2 = c + c0 := by
  induction h with
  | nil => exact ⟨_, _, .cons head hh h1 hd h2 hn hdp .nil, by omega⟩
  | cons head' q1 q2 q3 q4 q5 q6 _ ih =>
    obtain ⟨ls2, c2, i1, i2⟩ := ih
    exact ⟨_, _, .cons head' q1 q2 q3 q4 q5 q6 i1, by omega⟩
theorem compM_acc {f : D → M (Option D)} (I : List D → Store → Prop) : ∀ {xs acc : List D} {k : Nat} {S : Store}, (∀ x ∈ xs, ∀ acc S, I acc S → ∃ y S', f x S = .ok (some y) S' ∧ I (acc ++ [y]) S') → xs.length + k ≤ 16777216 → I acc S →
    ∃ ys S', compM f xs k S = .ok ys S' ∧ I (acc ++ ys) S' ∧ ys.length = xs.length
  | [], acc, k, S, _, _, h => ⟨[], S, rfl, by rw [List.append_nil]; exact h, rfl⟩
  | x :: r, acc, k, S, hx, hl, h => by
    simp only [List.length_cons] at hl
    obtain ⟨y, S1, e1, i1⟩ := hx x List.mem_cons_self acc S h
    obtain ⟨ys, S2, e2, i2, l2⟩ := compM_acc I (xs := r) (k := k + 1) (fun z hz => hx z (List.mem_cons_of_mem _ hz)) (by omega) i1
    refine ⟨y :: ys, S2, ?_, by rw [List.append_assoc] at i2; exact i2, by simp [l2]⟩
    show Res.bnd (f x S) _ = _
    rw [e1]
    show (if k < SL then M.bind (compM f r (k + 1)) fun ys => M.ret (y :: ys) else M.bad) S1 = _
    rw [if_pos (show k < SL by show k < 16777216; omega)]
    show Res.bnd (compM f r (k + 1) S1) _ = _
    rw [e2]; rfl
theorem words_lt {S : Store} {d : D} {zs : List (List Nat)} (h : Words S d zs) : ∀ n, d = .cell n → n < S.length := fun n e => by
  rcases h.1 with q | ⟨k, h0, q, g⟩
  · rw [q] at e; cases e
  · rw [q] at e; cases e; exact (List.getElem?_eq_some_iff.mp g).1
section
variable {fuel : Nat}
abbrev bBody : IS := (.seq (.par [7, 8] (.cons (.alloc (.blt .list (.cons (.idx (.var 2) (.lit (.int 1))) .nil))) (.cons (.alloc (.lst (.cons (.blt .min (.cons (.idx (.var 3) (.lit (.int 0))) (.cons (.bin .add (.lit (.int 1)) (.call 11 (.cons (.var 0) (.cons (.lit (.int 40)) (.cons (.lit (.int 20)) .nil))))) .nil))) .nil))) .nil)))
  (.seq (.put (.var 3) (.lit (.int 0)) (.bin .sub (.idx (.var 3) (.lit (.int 0))) (.idx (.var 8) (.lit (.int 0)))))
  (.seq (.set 6 (.call 23 (.cons (.var 0) (.cons (.var 1) (.cons (.tup (.cons (.idx (.var 2) (.lit (.int 3))) (.cons (.var 5) .nil))) (.cons (.var 7) (.cons (.var 8) (.cons (.lit (.int 0)) .nil))))))))
  (.seq (.ex (.mth .append (.var 4) (.cons (.tup (.cons (.var 5) (.cons (.tup (.cons (.var 6) (.cons (.call 19 (.cons (.var 0) (.cons (.var 7) .nil))) .nil))) .nil))) .nil)))
  .skip))))
theorem blocks_of {S : Store} (h : Good S) {wo wd gd : D} {ws gs : List (List Nat)} {rows : List D} (W : Wrld S wo wd gd ws gs rows) {row : D} (hrow : row ∈ rows) {name : List Nat} {ps hs : List (List Nat)} {rank : Int} (R : RowD row name ps hs rank) {lf : Nat} {v : Int} (hv : 0 ≤ v) (hS : S[lf]? = some (.lst [.int v])) (lf0 : lf ≠ 0)
    (wn : ∀ n, wd = .cell n → n ≠ lf) (gn : ∀ n, gd = .cell n → n ≠ lf) {l : Nat} (hl : 15 ≤ l) :
    ∃ (cs : List D) (ls : List (List Nat)) (c : Nat) (v' : Int) (S' : Store), callF fs fuel l 24 [.cell 0, wo, row, .cell lf] S = .ok (.tup cs) S' ∧ IsCs cs ls c ∧ cs.length = hs.length ∧ Up [0, lf] S S' ∧ S'[lf]? = some (.lst [.int v']) ∧ 0 ≤ v' ∧ (c : Int) + v' ≤ v := by
  obtain ⟨l, rfl⟩ : ∃ j, l = j + 1 := ⟨l - 1, by omega⟩
  have hp := h.pos
  have hlf := (List.getElem?_eq_some_iff.mp hS).1
  have hX : ∀ i ∈ [0, lf], ∀ c, S[i]? = some c → c.low 0 = true := fun i hi c hc => by
    rcases List.mem_cons.mp hi with e | e
    · rw [e] at hc; exact h.low0 c hc
    · rw [List.mem_singleton.mp e, hS] at hc; cases hc; rfl
  have u0 : Up [0, lf] S (S ++ [.lst []]) := (Up.refl h hX).push rfl
  have nin : ∀ k, S.length ≤ k → k ∉ [0, lf] := fun k hk z => by simp at z; omega
  have WU : ∀ {S' : Store}, Up [0, lf] S S' → Wrld S' wo wd gd ws gs rows := fun {S'} u => W.upX u (fun n e z => by
    have := words_n0 W.w n e
    have := wn n e
    simp at z; omega) (fun n e z => by
    have := words_n0 W.g n e
    have := gn n e
    simp at z; omega)
  have er1 : ∀ S, idxM row (.int 1) S = .ok (.lst (ps.map .str)) S := fun S => by rw [R.eq]; rfl
  have er2 : ∀ S, idxM row (.int 2) S = .ok (.lst (hs.map .str)) S := fun S => by rw [R.eq]; rfl
  have er3 : ∀ S, idxM row (.int 3) S = .ok (.int rank) S := fun S => by rw [R.eq]; rfl
  have hrk : ∃ r ∈ rows, rankOf r ≤ rank := ⟨row, hrow, by rw [R.eq]; exact Int.le_refl _⟩
  have q := forL_ix (f := patB (.nm 5) fun σ' => exS ⟨callF fs fuel l, fuel⟩ bBody σ')
    (fun i σ S' => ∃ (cs : List D) (ls : List (List Nat)) (c : Nat) (v' : Int) (x5 x6 x7 x8 : Option D), σ = [some (.cell 0), some wo, some row, some (.cell lf), some (.cell S.length), x5, x6, x7, x8] ∧ S'[S.length]? = some (.lst cs) ∧ IsCs cs ls c ∧ cs.length = i ∧ Up [0, lf] S S' ∧ S'[lf]? = some (.lst [.int v']) ∧ 0 ≤ v' ∧ (c : Int) + v' ≤ v)
    (xs := hs.map .str) (j := 0) (σ := [some (.cell 0), some wo, some row, some (.cell lf), some (.cell S.length), none, none, none, none]) (S := S ++ [.lst []]) (fun i x σ S' hx hi => by
      obtain ⟨cs, ls, c, v', x5, x6, x7, x8, rfl, hc0, hI, hlen, u, hL, hv', hcv⟩ := hi
      have him : i < hs.length := by
        have := (List.getElem?_eq_some_iff.mp hx).1
        rwa [List.length_map] at this
      have hxe : x = .str hs[i] := by
        rw [List.getElem?_map, List.getElem?_eq_getElem him] at hx
        cases hx; rfl
      subst hxe
      have hh8 := R.h8 _ (List.getElem_mem him)
      generalize hs[i] = head at *
      -- the names' cell
      have fps : D.frees (ps.map .str) = true := frees_strs ps
      have u1 := u.push (xs := ps.map .str) (lows_free fps)
      have gN : (S' ++ [Cell.lst (ps.map .str)])[S'.length]? = some (.lst (ps.map .str)) := get_new
      have gL : (S' ++ [Cell.lst (ps.map .str)])[lf]? = some (.lst [.int v']) := by rw [List.getElem?_append_left (List.getElem?_eq_some_iff.mp hL).1]; exact hL
      have hlS : S.length < S'.length := (List.getElem?_eq_some_iff.mp hc0).1
      have gC : (S' ++ [Cell.lst (ps.map .str)])[S.length]? = some (.lst cs) := by rw [List.getElem?_append_left hlS]; exact hc0
      obtain ⟨r, S2, e2, r0, r1, u2⟩ := habit_of (fuel := fuel) u1.good (p := 40) (m := 20) (by omega) (l := l) (by omega)
      have u12 := u1.own u2 (fun j hj _ => by rw [List.mem_singleton.mp hj]; exact List.mem_cons_self)
      have n0 : ∀ {k : Nat}, k ≠ 0 → k ∉ [0] := fun {k} hk z => hk (List.mem_singleton.mp z)
      have gN2 := u2.get gN (n0 (by omega))
      have gL2 := u2.get gL (n0 lf0)
      have gC2 := u2.get gC (n0 (by omega))
      -- the share's cell
      obtain ⟨sh, hsh, sh0, sh1⟩ : ∃ sh : Int, (if 1 + r < v' then 1 + r else v') = sh ∧ 0 ≤ sh ∧ sh ≤ v' := ⟨_, rfl, by split <;> omega, by split <;> omega⟩
      have ll := u2.len
      rw [List.length_append, List.length_cons, List.length_nil] at ll
      have u3 := u12.push (xs := [.int sh]) rfl
      have gS3 : (S2 ++ [Cell.lst [.int sh]])[S2.length]? = some (.lst [.int sh]) := get_new
      have gN3 : (S2 ++ [Cell.lst [.int sh]])[S'.length]? = some (.lst (ps.map .str)) := by rw [List.getElem?_append_left (List.getElem?_eq_some_iff.mp gN2).1]; exact gN2
      have gL3 : (S2 ++ [Cell.lst [.int sh]])[lf]? = some (.lst [.int v']) := by rw [List.getElem?_append_left (List.getElem?_eq_some_iff.mp gL2).1]; exact gL2
      have gC3 : (S2 ++ [Cell.lst [.int sh]])[S.length]? = some (.lst cs) := by rw [List.getElem?_append_left (List.getElem?_eq_some_iff.mp gC2).1]; exact gC2
      -- left is paid
      have ep := putM_eq (v := .int (v' - sh)) (i := 0) gL3 (by omega) (by simp)
      simp only [Int.toNat_zero, List.set_cons_zero] at ep
      have u4 := u3.putX (n := lf) (xs := [.int (v' - sh)]) (by simp) lf0 rfl (List.getElem?_eq_some_iff.mp gL3).1
      have gS4 : ((S2 ++ [Cell.lst [.int sh]]).set lf (.lst [.int (v' - sh)]))[S2.length]? = some (.lst [.int sh]) := by rw [List.getElem?_set_ne (by omega)]; exact gS3
      have gN4 : ((S2 ++ [Cell.lst [.int sh]]).set lf (.lst [.int (v' - sh)]))[S'.length]? = some (.lst (ps.map .str)) := by rw [List.getElem?_set_ne (by omega)]; exact gN3
      have gC4 : ((S2 ++ [Cell.lst [.int sh]]).set lf (.lst [.int (v' - sh)]))[S.length]? = some (.lst cs) := by rw [List.getElem?_set_ne (by omega)]; exact gC3
      have gL4 := get_set (d := .lst [.int (v' - sh)]) gL3
      have ei0 : idxM (.cell lf) (.int 0) (S' ++ [Cell.lst (ps.map .str)]) = .ok (.int v') _ := idxC gL (by omega) rfl
      have ei1 : idxM (.cell lf) (.int 0) (S2 ++ [Cell.lst [.int sh]]) = .ok (.int v') _ := idxC gL3 (by omega) rfl
      have ei2 : idxM (.cell S2.length) (.int 0) (S2 ++ [Cell.lst [.int sh]]) = .ok (.int sh) _ := idxC gS3 (by omega) rfl
      generalize hg4 : (S2 ++ [Cell.lst [.int sh]]).set lf (.lst [.int (v' - sh)]) = S4 at *
      have C : Ctx S4 wo wd gd ws gs rows S'.length S2.length sh := ⟨u4.good, WU u4, ⟨by omega, ps, gN4, R.p8, by have := R.pl; omega⟩, gS4, by omega, by omega, fun n e => by
          have := words_lt W.w n e
          omega, fun n e => by
          have := words_lt W.g n e
          omega⟩
      obtain ⟨ds, lss, cd, dp, v3, S5, e5, hI5, hdp, u5, C5, hv3, hc3⟩ := sts_all (fuel := fuel) 3 (l := l) (deep := 0) (by omega) (by omega) (by omega) C hrk sh0 (hd := head)
      have u45 := u4.own u5 (fun j hj hjl => by
        rcases List.mem_cons.mp hj with e | e
        · rw [e]; exact List.mem_cons_self
        · rcases List.mem_cons.mp e with e | e
          · omega
          · rw [List.mem_singleton.mp e] at hjl; omega)
      have ninB : ∀ k, k ≠ 0 → k ≠ S'.length → k ≠ S2.length → k ∉ [0, S'.length, S2.length] := fun k a b d z => by simp at z; omega
      have gC5 := u5.get gC4 (ninB _ (by omega) (by omega) (by omega))
      have gL5 := u5.get gL4 (ninB _ lf0 (by omega) (by omega))
      obtain ⟨sm, S6, ms, e6, hsm, hms, u6⟩ := sum_of (fuel := fuel) u5.good C5.names (l := l) (by omega)
      have u46 := u45.own u6 (fun j hj _ => by rw [List.mem_singleton.mp hj]; exact List.mem_cons_self)
      have gC6 := u6.get gC5 (n0 (by omega))
      have gL6 := u6.get gL5 (n0 lf0)
      obtain ⟨k, t, n, dpe, hE, hE1, hE2⟩ := hsm.E hms
      obtain ⟨ls2, c2, hI6, hc6⟩ := hI.snoc hh8 hI5 (by omega) hE hE1 hE2
      have hcl := hI.len
      have ea := app_eq gC6 (by have := R.hl; omega) (.tup [.str head, .tup [.tup ds, sm]])
      have u7 := u46.put (n := S.length) (xs := cs ++ [.tup [.str head, .tup [.tup ds, sm]]]) (Nat.le_refl _) (by omega) (lows_free hI6.free)
      have e5' : callF fs fuel l 23 [.cell 0, wo, .tup [.int rank, .str head], .cell S'.length, .cell S2.length, .int 0] S4 = .ok (.tup ds) S5 := e5
      refine ⟨[some (.cell 0), some wo, some row, some (.cell lf), some (.cell S.length), some (.str head), some (.tup ds), some (.cell S'.length), some (.cell S2.length)], _, ?_, _, ls2, c2, v' - sh, _, _, _, _, rfl, get_set gC6, hI6, by simp [hlen], u7, by rw [List.getElem?_set_ne (by omega)]; exact gL6, by omega, by omega⟩
      have el : bltD S' .list [.lst (ps.map .str)] = some (.lst (ps.map .str)) := rfl
      simp (disch := (first | decide | assumption | (simp only [List.length_append, List.length_cons, List.length_nil, List.length_map] <;> omega) | omega)) [bBody, er1, el, ei0, e2, hsh, ei1, ei2, ep, hg4, er3, e5', e6, recvOk, ea, -idx_cell]) ⟨[], [], 0, v, none, none, none, none, rfl, get_new, .nil, rfl, u0, by rw [List.getElem?_append_left hlf]; exact hS, hv, by omega⟩
  obtain ⟨σ', S2, e2, cs, ls, c, v', x5, x6, x7, x8, rfl, hc0, hI, hlen, u, hL, hv', hcv⟩ := q
  rw [List.length_map] at hlen
  have hfr : D.frees [.cell 0, wo, row, .cell lf] = false := rfl
  rw [callF_succ (fn := f_law_blocks) rfl rfl]
  refine ⟨cs, ls, c, v', _, call_low (C := ⟨callF fs fuel l, fuel⟩) (fn := f_law_blocks) (xs := [.cell 0, wo, row, .cell lf]) (S := S) (S1 := S2) (d := .tup cs) rfl hfr ?_ (low_free hI.free) (u.lows h), hI, by omega, u.leave h, take_get hL hlf, hv', hcv⟩
  have et := tupleC hc0
  simp (disch := (first | decide | assumption | (simp only [List.length_append, List.length_cons, List.length_nil, List.length_map] <;> omega) | omega)) [f_law_blocks, er2, srcD, e2, et]
end
end Lw
set_option linter.all false
set_option maxRecDepth 100000
set_option maxHeartbeats 4000000
/-! K4q: types, outlines. -/
namespace Lw
open Fb
theorem forN_ix {f : D → Ev → M Fl} {n : Nat} {xs : List D} (I : Nat → Ev → Store → Prop) (hc : ∀ i σ S, I i σ S → S[n]? = some (.lst xs)) (hs : ∀ (i : Nat) (x : D) (σ : Ev) (S : Store), xs[i]? = some x → I i σ S → ∃ σ' S', f x σ S = .ok (.nx σ') S' ∧ I (i + 1) σ' S') :
    ∀ (k : Nat) {i : Nat} {σ : Ev} {S : Store}, i ≤ xs.length → xs.length - i < k → I i σ S → ∃ σ' S', forN f n k i σ S = .ok (.nx σ') S' ∧ I xs.length σ' S'
  | 0, i, σ, S, _, h, _ => by omega
  | k + 1, i, σ, S, hi, hk, h => by
    have hl : lstOf S (.cell n) = some xs := by
      show (match S[n]? with
        | some (.lst xs) => some xs
        | none => none) = _
      rw [hc i σ S h]
    by_cases hx : i < xs.length
    · obtain ⟨σ1, S1, e1, i1⟩ := hs i xs[i] σ S (List.getElem?_eq_getElem hx) h
      obtain ⟨σ2, S2, e2, i2⟩ := forN_ix I hc hs k (i := i + 1) (by omega) (by omega) i1
      refine ⟨σ2, S2, ?_, i2⟩
      unfold forN
      simp only [hl, List.getElem?_eq_getElem hx]
      rw [bind_bnd, e1, bnd_ok]
      exact e2
    · have : i = xs.length := by omega
      subst this
      refine ⟨σ, S, ?_, h⟩
      unfold forN
      simp only [hl, List.getElem?_eq_none (Nat.le_refl _)]
section
variable {fuel : Nat}
theorem type_of {S : Store} (h : Good S) {wd gd : D} {ws gs : List (List Nat)} (hw : Words S wd ws) (hg : Words S gd gs) (hg1 : 1 ≤ gs.length) {l : Nat} (hl : 3 ≤ l) : ∃ (ns : List (List Nat)) (S' : Store), callF fs fuel l 25 [.cell 0, wd, gd] S = .ok (.tup (ns.map .str)) S' ∧ ns.length ≤ 64 ∧ (∀ p ∈ ns, p.length ≤ 8) ∧ Up [0] S S' := by
  obtain ⟨l, rfl⟩ : ∃ j, l = j + 1 := ⟨l - 1, by omega⟩
  obtain ⟨a, S1, e1, a0, a1, u1⟩ := habit_of (fuel := fuel) h (p := 41) (m := 60) (by omega) (l := l) (by omega)
  have hmn : ∃ m0 : Nat, ((if (ws.length : Int) < 1 then (ws.length : Int) else 1) * a).toNat = m0 ∧ m0 ≤ 59 ∧ (0 < m0 → 0 < ws.length) ∧ 0 ≤ (if (ws.length : Int) < 1 then (ws.length : Int) else 1) * a ∧ (if (ws.length : Int) < 1 then (ws.length : Int) else 1) * a ≤ 59 := by
    by_cases hw : (ws.length : Int) < 1
    · have : (ws.length : Int) = 0 := by omega
      rw [if_pos hw, this, Int.zero_mul]
      exact ⟨0, rfl, by omega, by omega, by omega, by omega⟩
    · rw [if_neg hw, Int.one_mul]
      exact ⟨a.toNat, rfl, by omega, by omega, by omega, by omega⟩
  obtain ⟨m0, hm0, hm4, hmw, hp0, hp4⟩ := hmn
  have er : ∀ S, rngM (.int ((if (ws.length : Int) < 1 then (ws.length : Int) else 1) * a)) S = .ok (.xs (rngD 0 m0)) S := fun S => by rw [x_rngM (by omega) (by omega), hm0]
  have emul : ∀ S, binM .mul (.int (if (ws.length : Int) < 1 then (ws.length : Int) else 1)) (.int a) S = .ok (.int ((if (ws.length : Int) < 1 then (ws.length : Int) else 1) * a)) S := fun S => o_mulI (.inr (by unfold two64; omega))
  generalize hMI : (if (ws.length : Int) < 1 then (ws.length : Int) else 1) * a = MI at *
  obtain ⟨ys, S2, e2, y1, y8, u2⟩ := word_of (fuel := fuel) u1.good (hw.up u1) (l := l) (by omega) (k := 1) (j := 4) (σ := [some (.cell 0), some wd, some gd, some (.int MI), none]) (by simp) rfl rfl (by decide) (by decide) (m := m0) (by omega) hmw
  obtain ⟨g, S3, e3, g0, g1, u3⟩ := grab_of (fuel := fuel) u2.good (m := gs.length) (by omega) (l := l) (by omega)
  have hg2 := (hg.up u1).up u2
  obtain ⟨sr, es, hs8⟩ := (hg2.up u3).idx g0 g1
  have uu := (u1.trans u2).trans u3
  have el0 := hw.len
  have el2 := hg2.len
  rw [callF_succ (fn := f_law_type) rfl rfl]
  refine ⟨ys ++ [sr], _, call_low (C := ⟨callF fs fuel l, fuel⟩) (fn := f_law_type) (xs := [.cell 0, wd, gd]) (S := S) (S1 := S3) (d := .tup ((ys ++ [sr]).map .str)) rfl rfl ?_ (low_free (frees_strs _)) (uu.lows h), by simp; omega, short_app y8 hs8, uu.leave h⟩
  rw [List.map_append]
  simp (disch := (first | decide | assumption | (simp only [List.length_append, List.length_cons, List.length_nil, List.length_map] <;> omega) | omega)) [f_law_type, el0, e1, emul, er, -x_rngM, x_comp2, -x_comp, e2, el2, e3, es, -idx_cell]
theorem looks_of {w g : Nat} (hw : w ≤ 16) {deep : Int} (h0 : 0 ≤ deep) (h1 : deep ≤ 10) {l : Nat} (hl : 1 ≤ l) : ∃ r : Int, ∀ S, callF fs fuel l 16 [.int w, .int g, .int deep] S = .ok (.int r) S := by
  obtain ⟨l, rfl⟩ : ∃ j, l = j + 1 := ⟨l - 1, by omega⟩
  have q := forL_ix (f := patB (.nm 4) fun σ' => exS ⟨callF fs fuel l, fuel⟩ (.seq (.set 3 (.bin .add (.var 1) (.bin .mul (.var 0) (.var 3)))) .skip) σ')
    (fun i σ S' => ∃ (m : Int) (x : Option D), σ = [some (.int w), some (.int g), some (.int deep), some (.int m), x] ∧ S' = []) (xs := rngD 0 deep.toNat) (j := 0) (σ := [some (.int w), some (.int g), some (.int deep), some (.int 1), none]) (S := []) (fun i x σ S' hx hi => by
      obtain ⟨m, x5, rfl, rfl⟩ := hi
      have em : ∀ S, binM .mul (.int w) (.int m) S = .ok (.int (w * m)) S := fun S => o_mulI (.inl (by unfold two64; omega))
      exact ⟨[some (.int w), some (.int g), some (.int deep), some (.int (g + w * m)), some x], [], by simp (disch := (first | decide | assumption | (simp only [List.length_append, List.length_cons, List.length_nil, List.length_map] <;> omega) | omega)) [em], _, _, rfl, rfl⟩) ⟨1, none, rfl, rfl⟩
  obtain ⟨σ', S', e1, m, x, rfl, rfl⟩ := q
  refine ⟨m, fun S => ?_⟩
  rw [callF_succ (fn := f_law_many_looks) rfl rfl]
  refine call_freeE (S' := []) rfl rfl rfl ?_
  have er : ∀ S, rngM (.int deep) S = .ok (.xs (rngD 0 deep.toNat)) S := fun S => x_rngM (by omega) (by omega)
  simp (disch := (first | decide | assumption | (simp only [List.length_append, List.length_cons, List.length_nil, List.length_map] <;> omega) | omega)) [f_law_many_looks, er, -x_rngM, e1]
end
/-- a row of the outlines while its lists are cells -/
def RowC (k nr : Nat) (S : Store) (d r : D) : Prop := ∃ name ps hs rank a b, d = .tup [.str name, .cell a, .cell b, .int rank] ∧ RowD r name ps hs rank ∧ 0 ≤ rank ∧ k ≤ a ∧ k ≤ b ∧ a ≠ nr ∧ b ≠ nr ∧ S[a]? = some (.lst (ps.map .str)) ∧ S[b]? = some (.lst (hs.map .str))
theorem RowC.same {k nr : Nat} {S S1 : Store} {d r : D} (h : RowC k nr S d r) (hs : ∀ i, k ≤ i → i ≠ nr → i < S.length → S1[i]? = S[i]?) : RowC k nr S1 d r := by
  obtain ⟨name, ps, hs', rank, a, b, h1, h2, h3, h4, h5, h6, h7, h8, h9⟩ := h
  exact ⟨name, ps, hs', rank, a, b, h1, h2, h3, h4, h5, h6, h7, by rw [hs a h4 h6 (List.getElem?_eq_some_iff.mp h8).1]; exact h8, by rw [hs b h5 h7 (List.getElem?_eq_some_iff.mp h9).1]; exact h9⟩
theorem _root_.Fb.All2.imp' {α β : Type} {R R' : α → β → Prop} {as : List α} {bs : List β} (h : All2 R as bs) (i : ∀ a b, R a b → R' a b) : All2 R' as bs := by
  induction h with
  | nil => exact .nil
  | cons h _ ih => exact .cons (i _ _ h) ih
theorem _root_.Fb.All2.snoc {α β : Type} {R : α → β → Prop} {as : List α} {bs : List β} (h : All2 R as bs) {a : α} {b : β} (x : R a b) : All2 R (as ++ [a]) (bs ++ [b]) := by
  induction h with
  | nil => exact .cons x .nil
  | cons h _ ih => exact .cons h ih
theorem RowC.low {k nr : Nat} {S : Store} {d r : D} (h : RowC k nr S d r) : D.low S.length d = true := by
  obtain ⟨name, ps, hs', rank, a, b, rfl, _, _, _, _, _, _, h8, h9⟩ := h
  have q1 := (List.getElem?_eq_some_iff.mp h8).1
  have q2 := (List.getElem?_eq_some_iff.mp h9).1
  simp [D.low, D.lows, q1, q2]
theorem rows_low {k nr : Nat} {S : Store} {ds rs : List D} (h : All2 (RowC k nr S) ds rs) : D.lows S.length ds = true := by
  induction h with
  | nil => rfl
  | cons h _ ih => simp [D.lows, h.low, ih]
theorem frz_sub (k : Nat) (S : Store) (l : Nat) : ∃ g, ∀ d, Fb.frz k S l d = D.sub g d := by cases l <;> exact ⟨_, fun _ => rfl⟩
theorem RowC.frz {k nr : Nat} {S : Store} {d r : D} (l : Nat) (h : RowC k nr S d r) : Fb.frz k S (l + 1) d = some r := by
  obtain ⟨name, ps, hs', rank, a, b, rfl, R, _, h4, h5, _, _, h8, h9⟩ := h
  rw [R.eq]
  have ea : Fb.frz k S (l + 1) (.cell a) = some (.lst (ps.map .str)) := frz_cellK l (by omega) h8 (frees_strs _)
  have eb : Fb.frz k S (l + 1) (.cell b) = some (.lst (hs'.map .str)) := frz_cellK l (by omega) h9 (frees_strs _)
  obtain ⟨g, hg⟩ := frz_sub k S (l + 1)
  rw [hg] at ea eb ⊢
  show (D.subs g [.str name, .cell a, .cell b, .int rank]).map D.tup = _
  simp only [D.subs, ea, eb, show D.sub g (.str name) = some (.str name) from rfl, show D.sub g (.int rank) = some (.int rank) from rfl]
  rfl
theorem rows_frz {k nr : Nat} {S : Store} (l : Nat) {ds rs : List D} (h : All2 (RowC k nr S) ds rs) : ds.mapM (Fb.frz k S (l + 1)) = some rs := by
  induction h with
  | nil => rfl
  | cons h _ ih => rw [List.mapM_cons, h.frz l, ih]; rfl
end Lw
set_option linter.all false
set_option maxRecDepth 100000
set_option maxHeartbeats 4000000
/-! K4r: outlines. -/
namespace Lw
open Fb
theorem Words.own {S : Store} {d : D} {ws : List (List Nat)} (h : Words S d ws) : ownOf S d = some (ws.map .str) ∧ ((∃ xs, d = .lst xs) ∨ ∃ n, d = .cell n) := by
  obtain ⟨hd | ⟨n, _, rfl, h4⟩, h2⟩ := h
  · subst hd; exact ⟨rfl, .inl ⟨_, rfl⟩⟩
  · refine ⟨?_, .inr ⟨n, rfl⟩⟩
    show (match S[n]? with
      | some (.lst xs) => some xs
      | none => none) = _
    rw [h4]
theorem add_words {S : Store} {x y : D} {ws gs : List (List Nat)} (hx : Words S x ws) (hy : Words S y gs) : binM .add x y S = .ok (.lst ((ws ++ gs).map .str)) S := by
  obtain ⟨h1, k1⟩ := hx.own
  obtain ⟨h2, k2⟩ := hy.own
  have e2 : addD S x y = (match ownOf S x, ownOf S y with
    | some a, some b => if a.length + b.length ≤ SL then some (D.lst (a ++ b)) else none
    | _, _ => none) := by rcases k1 with ⟨xs, rfl⟩ | ⟨m, rfl⟩ <;> rcases k2 with ⟨ys, rfl⟩ | ⟨n, rfl⟩ <;> rfl
  show M.opt (addD S x y) S = _
  rw [e2, h1, h2]
  have l1 := hx.2.2
  have l2 := hy.2.2
  show M.opt (if (ws.map D.str).length + (gs.map D.str).length ≤ SL then some (D.lst (ws.map .str ++ gs.map .str)) else none) S = _
  rw [if_pos (show (ws.map D.str).length + (gs.map D.str).length ≤ SL from (by rw [List.length_map, List.length_map]; omega : (ws.map D.str).length + (gs.map D.str).length ≤ 16777216)), List.map_append]; rfl
section
variable {fuel : Nat}
abbrev oBody : IS := (.seq (.set 8 (.alloc (.sli (.call 15 (.cons (.var 0) (.cons (.bin .add (.var 1) (.var 2)) .nil))) .nil (.cons (.call 11 (.cons (.var 0) (.cons (.lit (.int 24)) (.cons (.bin .add (.bin .add (.blt .len (.cons (.var 1) .nil)) (.blt .len (.cons (.var 2) .nil))) (.lit (.int 1))) .nil)))) .nil))))
  (.seq (.ite (.cmp .eq (.blt .len (.cons (.var 8) .nil)) (.lit (.int 0)))
  (.seq (.set 8 (.alloc (.lst (.cons (.lit (.str [45])) .nil))))
  .skip)
  (.seq (.ite (.cmp .lt (.blt .len (.cons (.var 8) .nil)) (.bin .add (.blt .len (.cons (.var 1) .nil)) (.blt .len (.cons (.var 2) .nil))))
  (.seq (.ex (.mth .append (.var 8) (.cons (.lit (.str [101, 108, 115, 101])) .nil)))
  .skip)
  .skip)
  .skip))
  (.seq (.ex (.mth .append (.var 6) (.cons (.tup (.cons (.var 7) (.cons (.call 14 (.cons (.var 0) (.cons (.lit (.int 25)) (.cons (.call 11 (.cons (.var 0) (.cons (.lit (.int 26)) (.cons (.lit (.int 5)) .nil)))) (.cons (.lst .nil) .nil))))) (.cons (.var 8) (.cons (.call 10 (.cons (.var 0) (.cons (.bin .add (.var 4) (.lit (.int 1))) .nil))) .nil))))) .nil)))
  .skip)))
theorem o_step {S : Store} (h : Good S) {wd gd : D} {ws gs : List (List Nat)} (hw : Words S wd ws) (hg : Words S gd gs) (hwg : ws.length + gs.length ≤ 15) {n3 nr : Nat} {nm : List (List Nat)} {top : Int} (t0 : 0 ≤ top) (t1 : top < 4) {S' : Store} (u : Up [0] S S') (hn3 : S'[n3]? = some (.lst (nm.map .str))) (k3 : S.length ≤ n3) {ds rs : List D} (hr : S'[nr]? = some (.lst ds)) (kr : S.length ≤ nr) (h3r : n3 ≠ nr)
    (hA : All2 (RowC S.length nr S') ds rs) (hdl : ds.length ≤ 100) {name : List Nat} (hname : name.length ≤ 8) {x5 x8 : Option D} {l : Nat} (hl : 5 ≤ l) :
    ∃ (x8' : Option D) (d r : D) (S2 : Store), exS ⟨callF fs fuel l, fuel⟩ oBody [some (.cell 0), some wd, some gd, some (.cell n3), some (.int top), x5, some (.cell nr), some (.str name), x8] S' = .ok (.nx [some (.cell 0), some wd, some gd, some (.cell n3), some (.int top), x5, some (.cell nr), some (.str name), x8']) S2 ∧
      S2[n3]? = some (.lst (nm.map .str)) ∧ S2[nr]? = some (.lst (ds ++ [d])) ∧ All2 (RowC S.length nr S2) (ds ++ [d]) (rs ++ [r]) ∧ Up [0] S S2 := by
  have hp := h.pos
  have hlS := (List.getElem?_eq_some_iff.mp hr).1
  have hl3 := (List.getElem?_eq_some_iff.mp hn3).1
  have ea := add_words (hw.up u) (hg.up u)
  have fr : D.frees ((ws ++ gs).map .str) = true := frees_strs _
  obtain ⟨ys, S1, e1, p1, u1⟩ := shuf_of (fuel := fuel) u.good (d := .lst ((ws ++ gs).map .str)) (.inl rfl) fr (by rw [List.length_map, List.length_append]; omega) (l := l) (by omega)
  obtain ⟨zs, rfl, hz⟩ := strs_of (ys := ys) (b := 8) (fun y hy => by
    obtain ⟨w, hw', rfl⟩ := List.mem_map.mp (p1.mem_iff.mp hy)
    refine ⟨w, rfl, ?_⟩
    rcases List.mem_append.mp hw' with q | q
    · exact hw.2.1 w q
    · exact hg.2.1 w q)
  have hzl := p1.length_eq
  rw [List.length_map, List.length_map, List.length_append] at hzl
  have U1 := u.trans u1
  have elw : ∀ {S' : Store}, Up [0] S S' → bltD S' .len [wd] = some (.int ws.length) := fun {S'} u => (hw.up u).len
  have elg : ∀ {S' : Store}, Up [0] S S' → bltD S' .len [gd] = some (.int gs.length) := fun {S'} u => (hg.up u).len
  obtain ⟨b, S2, e2, b0, b1, u2⟩ := habit_of (fuel := fuel) u1.good (p := 24) (m := (ws.length : Int) + gs.length + 1) (by omega) (l := l) (by omega)
  have U2 := U1.trans u2
  have hcut : cutL (zs.map D.str) none (some b) = (zs.take b.toNat).map .str := by rw [cut_hi b0, List.map_take]
  -- the heads: a cell hc
  have heads : ∃ (hs : List (List Nat)) (hc : Nat) (S3 : Store), exS ⟨callF fs fuel l, fuel⟩ (.ite (.cmp .eq (.blt .len (.cons (.var 8) .nil)) (.lit (.int 0)))
      (.seq (.set 8 (.alloc (.lst (.cons (.lit (.str [45])) .nil))))
      .skip)
      (.seq (.ite (.cmp .lt (.blt .len (.cons (.var 8) .nil)) (.bin .add (.blt .len (.cons (.var 1) .nil)) (.blt .len (.cons (.var 2) .nil))))
      (.seq (.ex (.mth .append (.var 8) (.cons (.lit (.str [101, 108, 115, 101])) .nil)))
      .skip)
      .skip)
      .skip)) [some (.cell 0), some wd, some gd, some (.cell n3), some (.int top), x5, some (.cell nr), some (.str name), some (.cell S2.length)] (S2 ++ [.lst ((zs.take b.toNat).map .str)]) = .ok (.nx [some (.cell 0), some wd, some gd, some (.cell n3), some (.int top), x5, some (.cell nr), some (.str name), some (.cell hc)]) S3 ∧
      S3[hc]? = some (.lst (hs.map .str)) ∧ (∀ p ∈ hs, p.length ≤ 8) ∧ hs.length ≤ 16 ∧ 1 ≤ hs.length ∧ S2.length ≤ hc ∧ Up [0] S S3 ∧ ∀ i, i < S2.length → S3[i]? = S2[i]? := by
    have ft : ∀ zs : List (List Nat), D.frees (zs.map D.str) = true := frees_strs
    have u3 := U2.push (xs := (zs.take b.toNat).map .str) (lows_free (ft _))
    have g3 : (S2 ++ [Cell.lst ((zs.take b.toNat).map .str)])[S2.length]? = some (.lst ((zs.take b.toNat).map .str)) := get_new
    have el := lenC g3
    rw [List.length_map] at el
    have tk8 : ∀ p ∈ zs.take b.toNat, p.length ≤ 8 := fun p hp => hz p (List.mem_of_mem_take hp)
    have tkl : (zs.take b.toNat).length ≤ 15 := by rw [List.length_take]; omega
    have sm : ∀ i, i < S2.length → (S2 ++ [Cell.lst ((zs.take b.toNat).map .str)])[i]? = S2[i]? := fun i hi => List.getElem?_append_left hi
    generalize hT : zs.take b.toNat = T at *
    have ew := elw u3
    have eg := elg u3
    by_cases c0 : T.length = 0
    · have u4 := u3.push (xs := [.str [45]]) rfl
      refine ⟨[[45]], _, _, ?_, get_new, fun p hp => by rw [List.mem_singleton.mp hp]; decide, by decide, by decide, by rw [List.length_append]; omega, u4, fun i hi => by rw [List.getElem?_append_left (by rw [List.length_append]; omega)]; exact sm i hi⟩
      have c0' : (T.length : Int) = 0 := by omega
      rw [c0'] at el
      simp (disch := (first | decide | assumption | (simp only [List.length_append, List.length_cons, List.length_nil, List.length_map] <;> omega) | omega)) [el]
    · by_cases c1 : (T.length : Int) < (ws.length : Int) + gs.length
      · have ea2 := app_eq g3 (by rw [List.length_map]; omega) (.str [101, 108, 115, 101])
        have u4 := u3.put (n := S2.length) (xs := (T ++ [[101, 108, 115, 101]]).map .str) (by have := U2.len; omega) (by have := U2.len; omega) (lows_free (ft _))
        rw [List.map_append] at u4
        refine ⟨T ++ [[101, 108, 115, 101]], _, _, ?_, (get_set g3).trans (by simp), short_app tk8 (by decide), by simp; omega, by simp, Nat.le_refl _, u4, fun i hi => by rw [List.getElem?_set_ne (by omega)]; exact sm i hi⟩
        have c0' : ¬ (T.length : Int) = 0 := by omega
        simp (disch := (first | decide | assumption | (simp only [List.length_append, List.length_cons, List.length_nil, List.length_map] <;> omega) | omega)) [el, c0, c0', ew, eg, c1, recvOk, ea2]
      · refine ⟨T, _, _, ?_, g3, tk8, by omega, by omega, Nat.le_refl _, u3, sm⟩
        have c0' : ¬ (T.length : Int) = 0 := by omega
        simp (disch := (first | decide | assumption | (simp only [List.length_append, List.length_cons, List.length_nil, List.length_map] <;> omega) | omega)) [el, c0, c0', ew, eg, c1]
  obtain ⟨hs, hc, S3, e3, g3, h38, h3l, h31, hkc, U3, sm3⟩ := heads
  obtain ⟨m, S4, e4, m0, m1, u4⟩ := habit_of (fuel := fuel) U3.good (p := 26) (m := 5) (by omega) (l := l) (by omega)
  have U4 := U3.trans u4
  obtain ⟨ps, np, S5, e5, g5, pl5, p58, k5, u5⟩ := row_of_of (fuel := fuel) u4.good (p := 25) (m := m.toNat) (by omega) (tk := .lst []) (.inl ⟨[], rfl⟩) (fun ts hts => by
    cases ts with
    | nil => decide
    | cons t r => cases hts) (l := l) (by omega)
  have hmc : ((m.toNat : Nat) : Int) = m := by omega
  rw [hmc] at e5
  have U5 := U4.trans u5
  obtain ⟨r, S6, e6, r0, r1, u6⟩ := grab_of (fuel := fuel) u5.good (m := top + 1) (by omega) (l := l) (by omega)
  have U6 := U5.trans u6
  have n0 : ∀ {k : Nat}, k ≠ 0 → k ∉ [0] := fun {k} hk z => hk (List.mem_singleton.mp z)
  have L2 := u1.len
  have L3 := u2.len
  -- old places stand through
  have keep : ∀ i, S.length ≤ i → i < S'.length → S6[i]? = S'[i]? := fun i hi hlt => by
    have i0 : i ≠ 0 := by omega
    rw [u6.same i (n0 i0) (by have := u4.len; have := u5.len; have := sm3 i (by omega); have q : S3[i]? ≠ none := by rw [this, u2.same i (n0 i0) (by omega), u1.same i (n0 i0) hlt]; simp [hlt]
                              have : i < S3.length := by
                                cases hq : S3[i]? with
                                | none => exact absurd hq q
                                | some c => exact (List.getElem?_eq_some_iff.mp hq).1
                              omega)]
    have hi3 : i < S3.length := by
      have q : S3[i]? ≠ none := by rw [sm3 i (by omega), u2.same i (n0 i0) (by omega), u1.same i (n0 i0) hlt]; simp [hlt]
      cases hq : S3[i]? with
      | none => exact absurd hq q
      | some c => exact (List.getElem?_eq_some_iff.mp hq).1
    rw [u5.same i (n0 i0) (by have := u4.len; omega), u4.same i (n0 i0) hi3, sm3 i (by omega), u2.same i (n0 i0) (by omega), u1.same i (n0 i0) hlt]
  have gr6 : S6[nr]? = some (.lst ds) := (keep nr kr hlS).trans hr
  have gn6 : S6[n3]? = some (.lst (nm.map .str)) := (keep n3 k3 hl3).trans hn3
  have gc6 : S6[hc]? = some (.lst (hs.map .str)) := u6.get (u5.get (u4.get g3 (n0 (by omega))) (n0 (by omega))) (n0 (by omega))
  have hk3 := (List.getElem?_eq_some_iff.mp g3).1
  have L4 := u4.len
  have gp6 : S6[np]? = some (.lst (ps.map .str)) := u6.get g5 (n0 (by omega))
  have ea6 := app_eq gr6 (by omega) (.tup [.str name, .cell np, .cell hc, .int r])
  have hA6 : All2 (RowC S.length nr S6) ds rs := hA.imp' fun a b q => q.same fun i hi _ hlt => keep i hi hlt
  have rowc : RowC S.length nr S6 (.tup [.str name, .cell np, .cell hc, .int r]) (.tup [.str name, .lst (ps.map .str), .lst (hs.map .str), .int r]) :=
    ⟨name, ps, hs, r, np, hc, rfl, ⟨rfl, hname, p58, by omega, h38, h3l, h31⟩, r0, by omega, by omega, by omega, by omega, gp6, gc6⟩
  have hA7 := hA6.snoc rowc
  have u7 := U6.put (n := nr) (xs := ds ++ [.tup [.str name, .cell np, .cell hc, .int r]]) kr (by omega) (rows_low hA7)
  refine ⟨some (.cell hc), _, _, _, ?_, by rw [List.getElem?_set_ne (Ne.symm h3r)]; exact gn6, get_set gr6, hA7.imp' fun a b q => q.same fun i _ hi _ => List.getElem?_set_ne (Ne.symm hi), u7⟩
  have ew1 := elw U1
  have eg1 := elg U1
  rw [List.map_append] at ea e1
  generalize zs.take b.toNat = T at *
  simp (disch := (first | decide | assumption | (simp only [List.length_append, List.length_cons, List.length_nil, List.length_map] <;> omega) | omega)) [oBody, ea, e1, ew1, eg1, e2, hcut, e3, e4, e5, e6, recvOk, ea6]
end
end Lw
set_option linter.all false
set_option maxRecDepth 100000
set_option maxHeartbeats 4000000
/-! K4s: outlines, the sack at first. -/
namespace Lw
open Fb
theorem all2_rows {k nr : Nat} {S : Store} {ds rs : List D} (h : All2 (RowC k nr S) ds rs) : ∀ r ∈ rs, IsRow r := by
  induction h with
  | nil => exact fun r hr => (nomatch hr)
  | cons h _ ih =>
    intro r hr
    rcases List.mem_cons.mp hr with e | e
    · obtain ⟨name, ps, hs, rank, a, b, _, R, _⟩ := h
      rw [e]; exact ⟨name, ps, hs, rank, R⟩
    · exact ih r e
theorem rows_free {rs : List D} (h : ∀ r ∈ rs, IsRow r) : D.frees rs = true := by
  induction rs with
  | nil => rfl
  | cons r rs ih => simp [D.frees, (h r List.mem_cons_self).free, ih fun x hx => h x (List.mem_cons_of_mem _ hx)]
section
variable {fuel : Nat}
theorem outlines_of {S : Store} (h : Good S) {wd gd : D} {ws gs : List (List Nat)} (hw : Words S wd ws) (hg : Words S gd gs) (hg1 : 1 ≤ gs.length) (hwg : ws.length + gs.length ≤ 15) (hfu : 10000 ≤ fuel) {l : Nat} (hl : 6 ≤ l) :
    ∃ (rs : List D) (S' : Store), callF fs fuel l 17 [.cell 0, wd, gd] S = .ok (.lst rs) S' ∧ (∀ r ∈ rs, IsRow r) ∧ 1 ≤ rs.length ∧ rs.length ≤ 12 ∧ Up [0] S S' := by
  obtain ⟨l, rfl⟩ : ∃ j, l = j + 1 := ⟨l - 1, by omega⟩
  have hp := h.pos
  have n0 : ∀ {k : Nat}, k ≠ 0 → k ∉ [0] := fun {k} hk z => hk (List.mem_singleton.mp z)
  obtain ⟨a, S1, e1, a0, a1, u1⟩ := habit_of (fuel := fuel) h (p := 22) (m := 12) (by omega) (l := l) (by omega)
  obtain ⟨nm0, n3, S2, e2, g2, nl2, n28, k2, u2⟩ := row_of_of (fuel := fuel) u1.good (p := 21) (m := (1 + a).toNat) (by omega) (tk := .lst []) (.inl ⟨[], rfl⟩) (fun ts hts => by
    cases ts with
    | nil => decide
    | cons t r => cases hts) (l := l) (by omega)
  have hac : (((1 + a).toNat : Nat) : Int) = 1 + a := by omega
  rw [hac] at e2
  have L1 := u1.len
  have U2 := u1.trans u2
  obtain ⟨b, S3, e3, b0, b1, u3⟩ := grab_of (fuel := fuel) u2.good (m := 4) (by omega) (l := l) (by omega)
  have U3 := U2.trans u3
  have g3 := u3.get g2 (n0 (by omega))
  -- the first name may be a ground
  have first : ∃ (nm : List (List Nat)) (S4 : Store), exS ⟨callF fs fuel l, fuel⟩ (.ite (.and (.cmp .eq (.call 10 (.cons (.var 0) (.cons (.lit (.int 4)) .nil))) (.lit (.int 0))) (.cmp .notIn (.idx (.var 2) (.lit (.int 0))) (.var 3)))
      (.seq (.put (.var 3) (.lit (.int 0)) (.idx (.var 2) (.lit (.int 0))))
      .skip)
      .skip) [some (.cell 0), some wd, some gd, some (.cell n3), none, none, none, none, none] S2 = .ok (.nx [some (.cell 0), some wd, some gd, some (.cell n3), none, none, none, none, none]) S4 ∧ S4[n3]? = some (.lst (nm.map .str)) ∧ nm.length = (1 + a).toNat ∧ (∀ w ∈ nm, w.length ≤ 8) ∧ Up [0] S S4 := by
    by_cases cb : b = 0
    · subst cb
      obtain ⟨g0, eg0, hg8⟩ := (hg.up U3).idx (i := 0) (by omega) (by omega)
      have ln : lstOf S3 (.cell n3) = some (nm0.map .str) := by
        show (match S3[n3]? with
          | some (.lst xs) => some xs
          | none => none) = _
        rw [g3]
      have en := o_notL (x := g0) ln (.inr ⟨n3, rfl⟩)
      generalize memD (.str g0) (nm0.map .str) = bb at en
      cases bb with
      | true => exact ⟨nm0, S3, by simp (disch := (first | decide | assumption | (simp only [List.length_append, List.length_cons, List.length_nil, List.length_map] <;> omega) | omega)) [e3, eg0, en, -idx_cell], g3, nl2, n28, U3⟩
      | false =>
        have ep := putM_eq (v := .str g0) (i := 0) g3 (by omega) (by rw [List.length_map]; omega)
        have hset : (nm0.map D.str).set (0 : Int).toNat (.str g0) = (nm0.set 0 g0).map .str := by simp [List.map_set]
        rw [hset] at ep
        have u4 := U3.put (n := n3) (xs := (nm0.set 0 g0).map .str) (by omega) (by omega) (lows_free (frees_strs _))
        refine ⟨nm0.set 0 g0, _, ?_, get_set g3, by rw [List.length_set]; exact nl2, fun w hw => ?_, u4⟩
        · simp (disch := (first | decide | assumption | (simp only [List.length_append, List.length_cons, List.length_nil, List.length_map] <;> omega) | omega)) [e3, eg0, en, ep, -idx_cell]
        · rcases List.mem_or_eq_of_mem_set hw with e | e
          · exact n28 w e
          · rw [e]; exact hg8
    · exact ⟨nm0, S3, by simp (disch := (first | decide | assumption | (simp only [List.length_append, List.length_cons, List.length_nil, List.length_map] <;> omega) | omega)) [e3, cb], g3, nl2, n28, U3⟩
  obtain ⟨nm, S4, e4, g4, nml, nm8, U4⟩ := first
  obtain ⟨t, S5, e5, t0, t1, u5⟩ := habit_of (fuel := fuel) U4.good (p := 23) (m := 4) (by omega) (l := l) (by omega)
  have U5 := U4.trans u5
  have g5 := u5.get g4 (n0 (by omega))
  have el3 : bltD S5 .len [.cell n3] = some (.int nm.length) := by rw [lenC g5, List.length_map]
  have elw := (hw.up U5).len
  have elg := (hg.up U5).len
  have hwl := hw.2.2
  have q5 := forL_ix (f := patB (.nm 5) fun σ' => exS ⟨callF fs fuel l, fuel⟩ (.seq (.ite (.and (.cmp .gt (.bin .mul (.blt .len (.cons (.var 3) .nil)) (.call 16 (.cons (.blt .len (.cons (.var 1) .nil)) (.cons (.blt .len (.cons (.var 2) .nil)) (.cons (.bin .add (.var 4) (.lit (.int 1))) .nil))))) (.lit (.int 200))) (.cmp .gt (.var 4) (.lit (.int 0))))
      (.seq (.set 4 (.bin .sub (.var 4) (.lit (.int 1))))
      .skip)
      .skip)
      .skip) σ')
    (fun i σ S' => ∃ (t : Int) (x5 : Option D), 0 ≤ t ∧ t < 4 ∧ σ = [some (.cell 0), some wd, some gd, some (.cell n3), some (.int t), x5, none, none, none] ∧ S' = S5) (xs := rngD 0 3) (j := 0) (σ := [some (.cell 0), some wd, some gd, some (.cell n3), some (.int t), none, none, none, none]) (S := S5) (fun i x σ S' hx hi => by
      obtain ⟨t, x5, t0, t1, rfl, rfl⟩ := hi
      obtain ⟨r, er⟩ := looks_of (fuel := fuel) (w := ws.length) (g := gs.length) hwl (deep := t + 1) (by omega) (by omega) (l := l) (by omega)
      have em : ∀ S, binM .mul (.int nm.length) (.int r) S = .ok (.int (nm.length * r)) S := fun S => o_mulI (.inl (by unfold two64; omega))
      have hd : (200 : Int) < nm.length * r ∨ ¬ (200 : Int) < nm.length * r := Classical.em _
      generalize (nm.length : Int) * r = P at *
      rcases hd with c1 | c1
      · by_cases c2 : 0 < t
        · exact ⟨[some (.cell 0), some wd, some gd, some (.cell n3), some (.int (t - 1)), some x, none, none, none], S', by simp (disch := (first | decide | assumption | (simp only [List.length_append, List.length_cons, List.length_nil, List.length_map] <;> omega) | omega)) [el3, elw, elg, er, em, c1, c2], t - 1, _, by omega, by omega, rfl, rfl⟩
        · exact ⟨[some (.cell 0), some wd, some gd, some (.cell n3), some (.int t), some x, none, none, none], S', by simp (disch := (first | decide | assumption | (simp only [List.length_append, List.length_cons, List.length_nil, List.length_map] <;> omega) | omega)) [el3, elw, elg, er, em, c1, c2], t, _, by omega, by omega, rfl, rfl⟩
      · exact ⟨[some (.cell 0), some wd, some gd, some (.cell n3), some (.int t), some x, none, none, none], S', by simp (disch := (first | decide | assumption | (simp only [List.length_append, List.length_cons, List.length_nil, List.length_map] <;> omega) | omega)) [el3, elw, elg, er, em, c1], t, _, by omega, by omega, rfl, rfl⟩) ⟨t, none, t0, t1, rfl, rfl⟩
  obtain ⟨σ5, S5', e6, t2, x5, t20, t21, rfl, rfl⟩ := q5
  have LS5 := U5.len
  have u7 := U5.push (xs := []) rfl
  have hl3 := (List.getElem?_eq_some_iff.mp g5).1
  have q7 := forN_ix (f := patB (.nm 7) fun σ' => exS ⟨callF fs fuel l, fuel⟩ oBody σ') (n := n3) (xs := nm.map .str)
    (fun i σ S' => ∃ (ds rs : List D) (x7 x8 : Option D), σ = [some (.cell 0), some wd, some gd, some (.cell n3), some (.int t2), x5, some (.cell S5'.length), x7, x8] ∧ S'[n3]? = some (.lst (nm.map .str)) ∧ S'[S5'.length]? = some (.lst ds) ∧ All2 (RowC S.length S5'.length S') ds rs ∧ ds.length = i ∧ Up [0] S S')
    (fun i σ S' q => by obtain ⟨ds, rs, x7, x8, _, q, _⟩ := q; exact q)
    (fun i x σ S' hx hi => by
      obtain ⟨ds, rs, x7, x8, rfl, hn3, hr, hA, hlen, u⟩ := hi
      have him : i < nm.length := by
        have := (List.getElem?_eq_some_iff.mp hx).1
        rwa [List.length_map] at this
      have hxe : x = .str nm[i] := by
        rw [List.getElem?_map, List.getElem?_eq_getElem him] at hx
        cases hx; rfl
      subst hxe
      obtain ⟨x8', d, r, S9, e9, g9, r9, hA9, u9⟩ := o_step (fuel := fuel) h hw hg hwg t20 t21 u hn3 (by omega) hr (by omega) (by omega) hA (by omega) (nm8 _ (List.getElem_mem him)) (x5 := x5) (x8 := x8) (l := l) (by omega)
      exact ⟨_, S9, e9, _, _, _, _, rfl, g9, r9, hA9, by simp [hlen], u9⟩) fuel (i := 0) (σ := [some (.cell 0), some wd, some gd, some (.cell n3), some (.int t2), x5, some (.cell S5'.length), none, none]) (S := S5' ++ [.lst []]) (Nat.zero_le _) (by rw [List.length_map]; omega) ⟨[], [], none, none, rfl, by rw [List.getElem?_append_left hl3]; exact g5, get_new, .nil, rfl, u7⟩
  obtain ⟨σ8, S8, e8, ds, rs, x7, x8, rfl, _, g8, hA8, hlen8, u8⟩ := q7
  rw [List.length_map] at hlen8
  have hrl := hA8.len
  have hfr : D.frees [.cell 0, wd, gd] = false := rfl
  rw [callF_succ (fn := f_law_outlines) rfl rfl]
  have hz : frz S.length S8 4 (.cell S5'.length) = some (.lst rs) := by
    show (if S5'.length < S.length then some (D.cell S5'.length) else match S8[S5'.length]? with
      | some (.lst xs) => (xs.mapM (frz S.length S8 3)).map D.lst
      | none => none) = _
    rw [if_neg (by omega), g8]
    simp only [rows_frz 2 hA8]
    rfl
  refine ⟨rs, _, call_lowZ (C := ⟨callF fs fuel l, fuel⟩) (fn := f_law_outlines) (xs := [.cell 0, wd, gd]) (S := S) (S1 := S8) (d := .cell S5'.length) (d' := .lst rs) rfl hfr ?_ hz (u8.lows h), all2_rows hA8, by omega, by omega, u8.leave h⟩
  have er3 : ∀ S, rngM (.int 3) S = .ok (.xs (rngD 0 3)) S := fun S => rfl
  have e4' := e4
  generalize hI : (IS.ite (.and (.cmp .eq (.call 10 (.cons (.var 0) (.cons (.lit (.int 4)) .nil))) (.lit (.int 0))) (.cmp .notIn (.idx (.var 2) (.lit (.int 0))) (.var 3)))
      (.seq (.put (.var 3) (.lit (.int 0)) (.idx (.var 2) (.lit (.int 0))))
      .skip)
      .skip) = I4 at e4'
  have ebody : f_law_outlines.body = (.seq (.set 3 (.call 14 (.cons (.var 0) (.cons (.lit (.int 21)) (.cons (.bin .add (.lit (.int 1)) (.call 11 (.cons (.var 0) (.cons (.lit (.int 22)) (.cons (.lit (.int 12)) .nil))))) (.cons (.lst .nil) .nil)))))) (.seq I4 (.seq (.set 4 (.call 11 (.cons (.var 0) (.cons (.lit (.int 23)) (.cons (.lit (.int 4)) .nil)))))
      (.seq (.for (.nm 5) (.rng1 (.lit (.int 3))) (.seq (.ite (.and (.cmp .gt (.bin .mul (.blt .len (.cons (.var 3) .nil)) (.call 16 (.cons (.blt .len (.cons (.var 1) .nil)) (.cons (.blt .len (.cons (.var 2) .nil)) (.cons (.bin .add (.var 4) (.lit (.int 1))) .nil))))) (.lit (.int 200))) (.cmp .gt (.var 4) (.lit (.int 0))))
      (.seq (.set 4 (.bin .sub (.var 4) (.lit (.int 1))))
      .skip)
      .skip)
      .skip)) (.seq (.set 6 (.alloc (.lst .nil))) (.seq (.for (.nm 7) (.cons (.var 3) .nil) oBody) (.seq (.ret (.var 6)) .skip))))))) := by rw [← hI]; rfl
  rw [ebody]
  show exS ⟨callF fs fuel l, fuel⟩ _ [some (.cell 0), some wd, some gd, none, none, none, none, none, none] S = _
  simp (disch := (first | decide | assumption | (simp only [List.length_append, List.length_cons, List.length_nil, List.length_map] <;> omega) | omega)) [e1, e2, e4', e5, er3, -x_rngM, e6, srcD, e8]
/-- the sack at first, at place 0 -/
theorem sack_of {is : List Int} (hn : is.length ≤ 63) {l : Nat} (hl : 1 ≤ l) : ∃ c, callF fs fuel l 9 [.ro (is.map .int)] [] = .ok (.cell 0) [c] ∧ SackC c := by
  obtain ⟨l, rfl⟩ : ∃ j, l = j + 1 := ⟨l - 1, by omega⟩
  have ecut : cutL (is.map D.int) none (some 75) = is.map .int := by
    rw [cut_hi (by omega), List.take_of_length_le (by rw [List.length_map]; show is.length ≤ (75 : Int).toNat; simp; omega)]
  have hcm : ∀ (σ : Ev) (S : Store), 2 < σ.length → compM (elG ⟨callF fs fuel l, fuel⟩ [2] (.nm 2) .nil (.bin .mod (.blt .int (.cons (.var 2) .nil)) (.lit (.int 996629))) σ) (is.map .int) 0 S = .ok (is.map fun i => .int (i % 996629)) S := fun σ S hi => by
    refine compM_all ?_ (by rw [List.length_map]; omega)
    clear hn ecut
    induction is with
    | nil => exact .nil
    | cons i r ih =>
      refine .cons (fun S => el_nm ?_) ih
      have e8 := el_set (own := [2]) (x := .int i) hi
      generalize (wipeE σ [2]).set 2 (some (D.int i)) = τ at *
      simp (disch := (first | decide | assumption | (simp only [List.length_append, List.length_cons, List.length_nil, List.length_map] <;> omega) | omega)) [e8]
  have ecd : ∀ S a b, cutD S (.ro (is.map .int)) a b = some (.lst (cutL (is.map .int) a b)) := fun S a b => rfl
  have elr : ∀ S, bltD S .len [.ro (is.map .int)] = some (.int is.length) := fun S => by
    show some (D.int (is.map D.int).length) = _
    rw [List.length_map]
  refine ⟨.lst [.int 1, .int 30011, .lst ((is.map fun i => .int (i % 996629)) ++ [.int ((is.length : Int) % 67 + 31)])], ?_, ⟨1, 30011, _, rfl, fun x hx => ?_, by simp, by omega⟩⟩
  · rw [callF_succ (fn := f_law_sack) rfl rfl]
    refine call_keepE rfl ?_
    generalize hL : is.map D.int = IL at *
    generalize hM : is.map (fun i => D.int (i % 996629)) = IM at *
    have hl1 : IM.length = is.length := by rw [← hM, List.length_map]
    simp (disch := (first | decide | assumption | (simp only [List.length_append, List.length_cons, List.length_nil, List.length_map] <;> omega) | omega)) [f_law_sack, ecd, ecut, x_comp2, -x_comp, srcD, hcm, elr]
  · rcases List.mem_append.mp hx with e | e
    · obtain ⟨i, _, rfl⟩ := List.mem_map.mp e
      exact ⟨_, rfl⟩
    · rw [List.mem_singleton.mp e]; exact ⟨_, rfl⟩
end
end Lw
set_option linter.all false
set_option maxRecDepth 100000
set_option maxHeartbeats 4000000
/-! K4t: programs made. -/
namespace Lw
open Fb
theorem IsFs.snoc {ds : List D} {ls : List (List Nat)} {c : Nat} (h : IsFs ds ls c) {cs : List D} {l1 : List (List Nat)} {c1 : Nat} {name : List Nat} {ps : List (List Nat)} (h1 : name.length ≤ 8) (h2 : ps.length ≤ 8) (h3 : ∀ p ∈ ps, p.length ≤ 8) (h4 : IsCs cs l1 c1) (h5 : cs.length ≤ 16 ∧ 1 ≤ cs.length) :
    ∃ ls2 c2, IsFs (ds ++ [.tup [.str name, .tup (ps.map .str), .tup cs]]) ls2 c2 ∧ c2 = c + c1 := by
  induction h with
  | nil => exact ⟨_, _, .cons name ps h1 h2 h3 h4 h5 .nil, by omega⟩
  | cons n' p' q1 q2 q3 q4 q5 _ ih =>
    obtain ⟨ls2, c2, i1, i2⟩ := ih
    exact ⟨_, _, .cons n' p' q1 q2 q3 q4 q5 i1, by omega⟩
theorem IsTs.snoc {ds : List D} {ls : List (List Nat)} (h : IsTs ds ls) {name : List Nat} {ns : List (List Nat)} (h1 : name.length ≤ 8) (h2 : ns.length ≤ 64) (h3 : ∀ p ∈ ns, p.length ≤ 8) : ∃ ls2, IsTs (ds ++ [.tup [.str name, .tup (ns.map .str)]]) ls2 := by
  induction h with
  | nil => exact ⟨_, .cons name ns h1 h2 h3 .nil⟩
  | cons n' p' q1 q2 q3 _ ih =>
    obtain ⟨ls2, i1⟩ := ih
    exact ⟨_, .cons n' p' q1 q2 q3 i1⟩
section
variable {fuel : Nat}
theorem program_of {S : Store} (h : Good S) (hfu : 10000 ≤ fuel) {l : Nat} (hl : 20 ≤ l) : ∃ (d : D) (ls : List (List Nat)) (S' : Store), callF fs fuel l 26 [.cell 0] S = .ok d S' ∧ IsP d ls ∧ Up [0] S S' := by
  obtain ⟨l, rfl⟩ : ∃ j, l = j + 1 := ⟨l - 1, by omega⟩
  have hp := h.pos
  have n0 : ∀ {k : Nat}, k ≠ 0 → k ∉ [0] := fun {k} hk z => hk (List.mem_singleton.mp z)
  have nilT : ∀ {S : Store} (ts : List (List Nat)), ownOf S (.lst []) = some (ts.map .str) → ts.length ≤ 1000 := fun {S} ts hts => by
    cases ts with
    | nil => decide
    | cons t r => cases hts
  obtain ⟨a, S1, e1, a0, a1, u1⟩ := habit_of (fuel := fuel) h (p := 43) (m := 7) (by omega) (l := l) (by omega)
  obtain ⟨ws, kw, S2, e2, g2, wl, w8, k2, u2⟩ := row_of_of (fuel := fuel) u1.good (p := 42) (m := a.toNat) (by omega) (tk := .lst []) (.inl ⟨[], rfl⟩) nilT (l := l) (by omega)
  rw [show ((a.toNat : Nat) : Int) = a by omega] at e2
  have L1 := u1.len
  have U2 := u1.trans u2
  obtain ⟨b, S3, e3, b0, b1, u3⟩ := habit_of (fuel := fuel) u2.good (p := 45) (m := 4) (by omega) (l := l) (by omega)
  have U3 := U2.trans u3
  have g3 := u3.get g2 (n0 (by omega))
  have L2 := u2.len
  have L3 := u3.len
  obtain ⟨gs, kg, S4, e4, g4, gl, g8, k4, u4⟩ := row_of_of (fuel := fuel) u3.good (p := 44) (m := (1 + b).toNat) (by omega) (tk := .cell kw) (.inr ⟨kw, ws, by omega, rfl, g3⟩) (fun ts hts => by
    have e : (match S3[kw]? with
      | some (.lst xs) => some xs
      | none => none) = some (ts.map D.str) := hts
    rw [g3] at e
    have := congrArg List.length (Option.some.inj e)
    rw [List.length_map, List.length_map] at this
    omega) (l := l) (by omega)
  rw [show (((1 + b).toNat : Nat) : Int) = 1 + b by omega] at e4
  have U4 := U3.trans u4
  have gw4 := u4.get g3 (n0 (by omega))
  have L4 := u4.len
  have hkw := (List.getElem?_eq_some_iff.mp g3).1
  have hkg := (List.getElem?_eq_some_iff.mp g4).1
  have Ww : Words S4 (.cell kw) ws := ⟨.inr ⟨kw, by omega, rfl, gw4⟩, w8, by omega⟩
  have Wg : Words S4 (.cell kg) gs := ⟨.inr ⟨kg, by omega, rfl, g4⟩, g8, by omega⟩
  obtain ⟨rs, S5, e5, hrs, r1, r12, u5⟩ := outlines_of (fuel := fuel) U4.good Ww Wg (by omega) (by omega) hfu (l := l) (by omega)
  have U5 := U4.trans u5
  have L5 := u5.len
  -- left
  have u6 := U5.push (xs := [.int 30]) rfl
  have gl6 : (S5 ++ [Cell.lst [.int 30]])[S5.length]? = some (.lst [.int 30]) := get_new
  obtain ⟨c, S7, e7, c0, c1, u7⟩ := grab_of (fuel := fuel) u6.good (m := 11) (by omega) (l := l) (by omega)
  have U7 := u6.trans u7
  have gl7 := u7.get gl6 (n0 (by omega))
  have L7 := u7.len
  rw [List.length_append, List.length_cons, List.length_nil] at L7
  have gwS : ∀ {S' : Store}, Up [0] S7 S' → S'[kw]? = some (.lst (ws.map .str)) ∧ S'[kg]? = some (.lst (gs.map .str)) := fun {S'} u => by
    have q1 := u5.get gw4 (n0 (by omega))
    have q2 := u5.get g4 (n0 (by omega))
    refine ⟨u.get (u7.get ?_ (n0 (by omega))) (n0 (by omega)), u.get (u7.get ?_ (n0 (by omega))) (n0 (by omega))⟩
    · rw [List.getElem?_append_left (by omega)]; exact q1
    · rw [List.getElem?_append_left (by omega)]; exact q2
  have left : ∃ (lf : Nat) (v : Int) (S8 : Store), exS ⟨callF fs fuel l, fuel⟩ (.ite (.cmp .eq (.call 10 (.cons (.var 0) (.cons (.lit (.int 11)) .nil))) (.lit (.int 0)))
      (.seq (.set 8 (.alloc (.lst (.cons (.lit (.int 200)) .nil))))
      .skip)
      .skip) [some (.cell 0), some (.cell kw), some (.cell kg), some (.lst rs), none, none, none, some (.tup [.cell kw, .cell kg, .lst rs]), some (.cell S5.length), none] (S5 ++ [.lst [.int 30]]) = .ok (.nx [some (.cell 0), some (.cell kw), some (.cell kg), some (.lst rs), none, none, none, some (.tup [.cell kw, .cell kg, .lst rs]), some (.cell lf), none]) S8 ∧ S8[lf]? = some (.lst [.int v]) ∧ 0 ≤ v ∧ v ≤ 200 ∧ S5.length ≤ lf ∧ Up [0] S S8 ∧ Up [0] S7 S8 := by
    by_cases cc : c = 0
    · subst cc
      exact ⟨S7.length, 200, S7 ++ [.lst [.int 200]], by simp (disch := (first | decide | assumption | (simp only [List.length_append, List.length_cons, List.length_nil, List.length_map] <;> omega) | omega)) [e7], get_new, by omega, by omega, by omega, U7.push rfl, (Up.refl0 u7.good).push rfl⟩
    · exact ⟨S5.length, 30, S7, by simp (disch := (first | decide | assumption | (simp only [List.length_append, List.length_cons, List.length_nil, List.length_map] <;> omega) | omega)) [e7, cc], gl7, by omega, by omega, by omega, U7, Up.refl0 u7.good⟩
  obtain ⟨lf, v, S8, e8, gl8, v0, v2, hlf, U8, u78⟩ := left
  have hlf8 := (List.getElem?_eq_some_iff.mp gl8).1
  obtain ⟨gw8, gg8⟩ := gwS u78
  have L8 := u78.len
  -- funs
  have mkW : ∀ {S' : Store}, S'[kw]? = some (.lst (ws.map .str)) → S'[kg]? = some (.lst (gs.map .str)) → Wrld S' (.tup [.cell kw, .cell kg, .lst rs]) (.cell kw) (.cell kg) ws gs rs := fun {S'} q1 q2 =>
    ⟨rfl, ⟨.inr ⟨kw, by omega, rfl, q1⟩, w8, by omega⟩, ⟨.inr ⟨kg, by omega, rfl, q2⟩, g8, by omega⟩, by omega, hrs, by omega, r1⟩
  obtain ⟨fns, S9, e9, ⟨lF, cF, vF, hF, gl9, vF0, hcF, U9, gw9, gg9⟩, lf9⟩ := compM_acc (f := elG ⟨callF fs fuel l, fuel⟩ [9] (.nm 9) .nil (.tup (.cons (.idx (.var 9) (.lit (.int 0))) (.cons (.blt .tuple (.cons (.idx (.var 9) (.lit (.int 1))) .nil)) (.cons (.call 24 (.cons (.var 0) (.cons (.var 7) (.cons (.var 9) (.cons (.var 8) .nil))))) .nil)))) [some (.cell 0), some (.cell kw), some (.cell kg), some (.lst rs), none, none, none, some (.tup [.cell kw, .cell kg, .lst rs]), some (.cell lf), none])
    (fun acc S' => ∃ (ls : List (List Nat)) (c : Nat) (v' : Int), IsFs acc ls c ∧ S'[lf]? = some (.lst [.int v']) ∧ 0 ≤ v' ∧ (c : Int) + v' ≤ v ∧ Up [0] S S' ∧ S'[kw]? = some (.lst (ws.map .str)) ∧ S'[kg]? = some (.lst (gs.map .str))) (xs := rs) (acc := []) (k := 0) (S := S8) (fun x hx acc S' hi => by
      obtain ⟨ls, c, v', hI, gl', hv', hcv, u, q1, q2⟩ := hi
      obtain ⟨name, ps, hs, rank, R⟩ := hrs x hx
      obtain ⟨cs, lc, cc, v3, S10, e10, hC, hcl, u10, gl10, hv3, hcv3⟩ := blocks_of (fuel := fuel) u.good (mkW q1 q2) hx R hv' gl' (by omega) (fun n e => by cases e; omega) (fun n e => by cases e; omega) (l := l) (by omega)
      have hh := R.hl
      have hh1 := R.h1
      obtain ⟨ls2, c2, hI2, hc2⟩ := hI.snoc R.n8 R.pl R.p8 hC ⟨by omega, by omega⟩
      have er0 : ∀ S, idxM x (.int 0) S = .ok (.str name) S := fun S => by rw [R.eq]; rfl
      have er1 : ∀ S, idxM x (.int 1) S = .ok (.lst (ps.map .str)) S := fun S => by rw [R.eq]; rfl
      have nX : ∀ k, k ≠ 0 → k ≠ lf → k ∉ [0, lf] := fun k a b z => by simp at z; omega
      refine ⟨_, S10, el_nm (y := .tup [.str name, .tup (ps.map .str), .tup cs]) (by simp (disch := (first | decide | assumption | (simp only [List.length_append, List.length_cons, List.length_nil, List.length_map] <;> omega) | omega)) [wipeE, er0, er1, e10]), ls2, c2, v3, hI2, gl10, hv3, by omega, u.own u10 (fun j hj hjl => ?_), u10.get q1 (nX _ (by omega) (by omega)), u10.get q2 (nX _ (by omega) (by omega))⟩
      rcases List.mem_cons.mp hj with e | e
      · rw [e]; exact List.mem_cons_self
      · rw [List.mem_singleton.mp e] at hjl; omega) (by omega) ⟨[], 0, v, .nil, gl8, v0, by omega, U8, gw8, gg8⟩
  rw [List.nil_append] at hF
  -- starts
  have u10 := U9.push (xs := []) rfl
  have gS10 : (S9 ++ [Cell.lst []])[S9.length]? = some (.lst []) := get_new
  have hkw9 := (List.getElem?_eq_some_iff.mp gw9).1
  have hkg9 := (List.getElem?_eq_some_iff.mp gg9).1
  have hlf9 := (List.getElem?_eq_some_iff.mp gl9).1
  obtain ⟨d, S11, e11, d0, d1, u11⟩ := habit_of (fuel := fuel) u10.good (p := 46) (m := 6) (by omega) (l := l) (by omega)
  have U11 := u10.trans u11
  have q12 := forL_ix (f := patB (.nm 6) fun σ' => exS ⟨callF fs fuel l, fuel⟩ (.seq (.ex (.mth .append (.var 5) (.cons (.tup (.cons (.idx (.idx (.var 3) (.call 10 (.cons (.var 0) (.cons (.blt .len (.cons (.var 3) .nil)) .nil)))) (.lit (.int 0))) (.cons (.call 25 (.cons (.var 0) (.cons (.var 1) (.cons (.var 2) .nil)))) .nil))) .nil))) .skip) σ')
    (fun i σ S' => ∃ (ts : List D) (lt : List (List Nat)) (x6 : Option D), σ = [some (.cell 0), some (.cell kw), some (.cell kg), some (.lst rs), some (.lst fns), some (.cell S9.length), x6, some (.tup [.cell kw, .cell kg, .lst rs]), some (.cell lf), none] ∧ S'[S9.length]? = some (.lst ts) ∧ IsTs ts lt ∧ ts.length = i ∧ Up [0] S S' ∧ S'[kw]? = some (.lst (ws.map .str)) ∧ S'[kg]? = some (.lst (gs.map .str)))
    (xs := rngD 0 (1 + d).toNat) (j := 0) (σ := [some (.cell 0), some (.cell kw), some (.cell kg), some (.lst rs), some (.lst fns), some (.cell S9.length), none, some (.tup [.cell kw, .cell kg, .lst rs]), some (.cell lf), none]) (S := S11) (fun i x σ S' hx hi => by
      obtain ⟨ts, lt, x6, rfl, gS, hT, hlen, u, q1, q2⟩ := hi
      obtain ⟨rfl, him⟩ := rng_at hx
      obtain ⟨r, S12, row, e12, e13, hrow, u12⟩ := pick_row (fuel := fuel) u.good hrs (by omega) (l := l) (by omega)
      obtain ⟨name, ps, hs, rank, R⟩ := hrow
      have er0 : ∀ S, idxM row (.int 0) S = .ok (.str name) S := fun S => by rw [R.eq]; rfl
      have p1 := u12.get q1 (n0 (by omega))
      have p2 := u12.get q2 (n0 (by omega))
      have W12 := mkW p1 p2
      obtain ⟨ns, S13, e14, nl, n8, u13⟩ := type_of (fuel := fuel) u12.good W12.w W12.g W12.g1 (l := l) (by omega)
      have gS13 := u13.get (u12.get gS (n0 (by omega))) (n0 (by omega))
      obtain ⟨lt2, hT2⟩ := hT.snoc R.n8 nl n8
      have ea := app_eq gS13 (by omega) (.tup [.str name, .tup (ns.map .str)])
      have u14 := ((u.trans u12).trans u13).put (n := S9.length) (xs := ts ++ [.tup [.str name, .tup (ns.map .str)]]) (by have := U9.len; omega) (by omega) (lows_free hT2.free)
      refine ⟨[some (.cell 0), some (.cell kw), some (.cell kg), some (.lst rs), some (.lst fns), some (.cell S9.length), some (.int i), some (.tup [.cell kw, .cell kg, .lst rs]), some (.cell lf), none], _, ?_, _, lt2, _, rfl, get_set gS13, hT2, by simp [hlen], u14, by rw [List.getElem?_set_ne (by omega)]; exact u13.get p1 (n0 (by omega)), by rw [List.getElem?_set_ne (by omega)]; exact u13.get p2 (n0 (by omega))⟩
      simp (disch := (first | decide | assumption | (simp only [List.length_append, List.length_cons, List.length_nil, List.length_map] <;> omega) | omega)) [e12, e13, er0, e14, recvOk, ea, -idx_cell, -o_idxL]) ⟨[], [], none, rfl, u11.get gS10 (n0 (by omega)), .nil, rfl, U11, u11.get (by rw [List.getElem?_append_left hkw9]; exact gw9) (n0 (by omega)), u11.get (by rw [List.getElem?_append_left hkg9]; exact gg9) (n0 (by omega))⟩
  obtain ⟨σ', S15, e15, ts, lt, x6, rfl, gS15, hT, hlen, U15, gw15, gg15⟩ := q12
  rw [rng_len] at hlen
  have hP : IsP (.tup [.tup (ws.map .str), .tup (gs.map .str), .tup fns, .tup ts]) _ := .mk ws gs (by omega) w8 (by omega) g8 hF (by omega) (by omega) hT (by omega)
  have hfr : D.frees [.cell 0] = false := rfl
  rw [callF_succ (fn := f_law_program) rfl rfl]
  refine ⟨_, _, _, call_low (C := ⟨callF fs fuel l, fuel⟩) (fn := f_law_program) (xs := [.cell 0]) (S := S) (S1 := S15) rfl hfr ?_ (low_free hP.free) (U15.lows h), hP, U15.leave h⟩
  have t1 := tupleC gw15
  have t2 := tupleC gg15
  have t4 := tupleC gS15
  have er : ∀ S, rngM (.int (1 + d)) S = .ok (.xs (rngD 0 (1 + d).toNat)) S := fun S => x_rngM (by omega) (by omega)
  have e8' := e8
  generalize hI : (IS.ite (.cmp .eq (.call 10 (.cons (.var 0) (.cons (.lit (.int 11)) .nil))) (.lit (.int 0)))
      (.seq (.set 8 (.alloc (.lst (.cons (.lit (.int 200)) .nil))))
      .skip)
      .skip) = I8 at e8'
  have ebody : f_law_program.body = (.seq (.set 1 (.call 14 (.cons (.var 0) (.cons (.lit (.int 42)) (.cons (.call 11 (.cons (.var 0) (.cons (.lit (.int 43)) (.cons (.lit (.int 7)) .nil)))) (.cons (.lst .nil) .nil))))))
      (.seq (.set 2 (.call 14 (.cons (.var 0) (.cons (.lit (.int 44)) (.cons (.bin .add (.lit (.int 1)) (.call 11 (.cons (.var 0) (.cons (.lit (.int 45)) (.cons (.lit (.int 4)) .nil))))) (.cons (.var 1) .nil))))))
      (.seq (.set 3 (.call 17 (.cons (.var 0) (.cons (.var 1) (.cons (.var 2) .nil)))))
      (.seq (.setP [7, 8] (.tup (.cons (.tup (.cons (.var 1) (.cons (.var 2) (.cons (.var 3) .nil)))) (.cons (.alloc (.lst (.cons (.lit (.int 30)) .nil))) .nil))))
      (.seq I8
      (.seq (.set 4 (.comp [9] (.nm 9) (.cons (.var 3) .nil) .nil (.tup (.cons (.idx (.var 9) (.lit (.int 0))) (.cons (.blt .tuple (.cons (.idx (.var 9) (.lit (.int 1))) .nil)) (.cons (.call 24 (.cons (.var 0) (.cons (.var 7) (.cons (.var 9) (.cons (.var 8) .nil))))) .nil))))))
      (.seq (.set 5 (.alloc (.lst .nil)))
      (.seq (.for (.nm 6) (.rng1 (.bin .add (.lit (.int 1)) (.call 11 (.cons (.var 0) (.cons (.lit (.int 46)) (.cons (.lit (.int 6)) .nil)))))) (.seq (.ex (.mth .append (.var 5) (.cons (.tup (.cons (.idx (.idx (.var 3) (.call 10 (.cons (.var 0) (.cons (.blt .len (.cons (.var 3) .nil)) .nil)))) (.lit (.int 0))) (.cons (.call 25 (.cons (.var 0) (.cons (.var 1) (.cons (.var 2) .nil)))) .nil))) .nil)))
      .skip))
      (.seq (.ret (.tup (.cons (.blt .tuple (.cons (.var 1) .nil)) (.cons (.blt .tuple (.cons (.var 2) .nil)) (.cons (.blt .tuple (.cons (.var 4) .nil)) (.cons (.blt .tuple (.cons (.var 5) .nil)) .nil))))))
      .skip))))))))) := by rw [← hI]; rfl
  rw [ebody]
  show exS ⟨callF fs fuel l, fuel⟩ _ [some (.cell 0), none, none, none, none, none, none, none, none, none] S = _
  simp (disch := (first | decide | assumption | (simp only [List.length_append, List.length_cons, List.length_nil, List.length_map] <;> omega) | omega)) [e1, e2, e3, e4, e5, e8', x_comp2, -x_comp, srcD, e9, e11, er, -x_rngM, e15, t1, t2, t4]
end
end Lw
set_option linter.all false
set_option maxRecDepth 100000
set_option maxHeartbeats 4000000
/-! K4u: programs turned. -/
namespace Lw
open Fb
theorem IsFs.perm {ds ds' : List D} (p : ds'.Perm ds) : ∀ {ls : List (List Nat)} {c : Nat}, IsFs ds ls c → ∃ ls2, IsFs ds' ls2 c := by
  induction p with
  | nil => exact fun h => ⟨_, h⟩
  | cons x _ ih =>
    intro ls c h
    cases h with
    | cons n p q1 q2 q3 q4 q5 q6 =>
      obtain ⟨l2, i⟩ := ih q6
      exact ⟨_, .cons n p q1 q2 q3 q4 q5 i⟩
  | swap x y l =>
    intro ls c h
    cases h with
    | cons n p q1 q2 q3 q4 q5 q6 =>
      cases q6 with
      | cons n' p' r1 r2 r3 r4 r5 r6 =>
        have := IsFs.cons n' p' r1 r2 r3 r4 r5 (.cons n p q1 q2 q3 q4 q5 r6)
        rw [Nat.add_left_comm] at this
        exact ⟨_, this⟩
  | trans _ _ ih1 ih2 =>
    intro ls c h
    obtain ⟨l1, i1⟩ := ih2 h
    exact ih1 i1
theorem IsTs.perm {ds ds' : List D} (p : ds'.Perm ds) : ∀ {ls : List (List Nat)}, IsTs ds ls → ∃ ls2, IsTs ds' ls2 := by
  induction p with
  | nil => exact fun h => ⟨_, h⟩
  | cons x _ ih =>
    intro ls h
    cases h with
    | cons n p q1 q2 q3 q6 =>
      obtain ⟨l2, i⟩ := ih q6
      exact ⟨_, .cons n p q1 q2 q3 i⟩
  | swap x y l =>
    intro ls h
    cases h with
    | cons n p q1 q2 q3 q6 =>
      cases q6 with
      | cons n' p' r1 r2 r3 r6 => exact ⟨_, .cons n' p' r1 r2 r3 (.cons n p q1 q2 q3 r6)⟩
  | trans _ _ ih1 ih2 =>
    intro ls h
    obtain ⟨l1, i1⟩ := ih2 h
    exact ih1 i1
theorem IsCs.perm {ds ds' : List D} (p : ds'.Perm ds) : ∀ {ls : List (List Nat)} {c : Nat}, IsCs ds ls c → ∃ ls2, IsCs ds' ls2 c := by
  induction p with
  | nil => exact fun h => ⟨_, h⟩
  | cons x _ ih =>
    intro ls c h
    cases h with
    | cons n q1 q2 q3 q4 q5 q6 q7 =>
      obtain ⟨l2, i⟩ := ih q7
      exact ⟨_, .cons n q1 q2 q3 q4 q5 q6 i⟩
  | swap x y l =>
    intro ls c h
    cases h with
    | cons n q1 q2 q3 q4 q5 q6 q7 =>
      cases q7 with
      | cons n' r1 r2 r3 r4 r5 r6 r7 =>
        have := IsCs.cons n' r1 r2 r3 r4 r5 r6 (.cons n q1 q2 q3 q4 q5 q6 r7)
        rw [Nat.add_left_comm] at this
        exact ⟨_, this⟩
  | trans _ _ ih1 ih2 =>
    intro ls c h
    obtain ⟨l1, i1⟩ := ih2 h
    exact ih1 i1
theorem IsFs.at {ds : List D} {ls : List (List Nat)} {c : Nat} (h : IsFs ds ls c) : ∀ x ∈ ds, ∃ (name : List Nat) (ps : List (List Nat)) (cs : List D) (l1 : List (List Nat)) (c1 : Nat), x = .tup [.str name, .tup (ps.map .str), .tup cs] ∧ name.length ≤ 8 ∧ ps.length ≤ 8 ∧ (∀ p ∈ ps, p.length ≤ 8) ∧ IsCs cs l1 c1 ∧ cs.length ≤ 16 ∧ 1 ≤ cs.length := by
  induction h with
  | nil => exact fun x hx => (nomatch hx)
  | cons n p q1 q2 q3 q4 q5 _ ih =>
    intro x hx
    rcases List.mem_cons.mp hx with e | e
    · exact ⟨n, p, _, _, _, e, q1, q2, q3, q4, q5⟩
    · exact ih x e
theorem strs_perm {ys : List D} {ws : List (List Nat)} (p : ys.Perm (ws.map .str)) (h : ∀ w ∈ ws, w.length ≤ 8) : ∃ zs : List (List Nat), ys = zs.map .str ∧ (∀ w ∈ zs, w.length ≤ 8) ∧ zs.length = ws.length := by
  obtain ⟨zs, rfl, hz⟩ := strs_of (ys := ys) (b := 8) (fun y hy => by
    obtain ⟨w, hw, rfl⟩ := List.mem_map.mp (p.mem_iff.mp hy)
    exact ⟨w, rfl, h w hw⟩)
  have := p.length_eq
  rw [List.length_map, List.length_map] at this
  exact ⟨zs, rfl, hz, this⟩
/-- a case's head -/
theorem IsCs.headAt {ds : List D} {ls : List (List Nat)} {c : Nat} (h : IsCs ds ls c) : ∀ x ∈ ds, ∃ (head : List Nat) (r : D), x = .tup [.str head, r] := by
  induction h with
  | nil => exact fun x hx => (nomatch hx)
  | cons n q1 q2 q3 q4 q5 q6 _ ih =>
    intro x hx
    rcases List.mem_cons.mp hx with e | e
    · exact ⟨n, _, e⟩
    · exact ih x e
theorem IsCs.split : ∀ {xs ys : List D} {ls : List (List Nat)} {c : Nat}, IsCs (xs ++ ys) ls c → ∃ l1 c1 l2 c2, IsCs xs l1 c1 ∧ IsCs ys l2 c2 ∧ c1 + c2 = c
  | [], ys, ls, c, h => ⟨_, _, _, _, .nil, h, by omega⟩
  | x :: xs, ys, ls, c, h => by
    cases h with
    | cons n q1 q2 q3 q4 q5 q6 q7 =>
      obtain ⟨l1, c1, l2, c2, i1, i2, i3⟩ := IsCs.split (xs := xs) (ys := ys) q7
      exact ⟨_, _, _, _, .cons n q1 q2 q3 q4 q5 q6 i1, i2, by omega⟩
theorem IsCs.join : ∀ {xs ys : List D} {l1 l2 : List (List Nat)} {c1 c2 : Nat}, IsCs xs l1 c1 → IsCs ys l2 c2 → ∃ l3 c3, IsCs (xs ++ ys) l3 c3 ∧ c3 = c1 + c2
  | _, ys, _, l2, _, c2, .nil, h => ⟨_, _, h, by omega⟩
  | _, ys, _, l2, _, c2, .cons n q1 q2 q3 q4 q5 q6 q7, h => by
    obtain ⟨l3, c3, i, e⟩ := IsCs.join q7 h
    exact ⟨_, _, .cons n q1 q2 q3 q4 q5 q6 i, by omega⟩
theorem cut_last {α : Type} {xs : List α} (h : 1 ≤ xs.length) : cutL xs (some (-1)) none = xs.drop (xs.length - 1) := by
  unfold cutL cut1
  simp only [if_pos (show (-1 : Int) < 0 by omega)]
  rw [show ((-1 : Int) + (xs.length : Int)).toNat = xs.length - 1 by omega, List.take_of_length_le (by rw [List.length_drop]; omega)]
section
variable {fuel : Nat}
abbrev tBody : IS := (.seq (.set 6 (.ite (.cmp .eq (.idx (.idx (.var 5) (.neg (.lit (.int 1)))) (.lit (.int 0))) (.lit (.str [101, 108, 115, 101]))) (.sli (.var 5) (.cons (.neg (.lit (.int 1))) .nil) .nil) (.tup .nil)))
  (.seq (.ex (.mth .append (.var 2) (.cons (.tup (.cons (.var 3) (.cons (.var 4) (.cons (.bin .add (.blt .tuple (.cons (.call 15 (.cons (.var 0) (.cons (.sli (.var 5) .nil (.cons (.bin .sub (.blt .len (.cons (.var 5) .nil)) (.blt .len (.cons (.var 6) .nil))) .nil)) .nil))) .nil)) (.var 6)) .nil)))) .nil)))
  .skip))
theorem turned_of {S : Store} (h : Good S) {d : D} {ls : List (List Nat)} (hP : IsP d ls) {l : Nat} (hl : 3 ≤ l) : ∃ (d' : D) (ls' : List (List Nat)) (S' : Store), callF fs fuel l 28 [.cell 0, d] S = .ok d' S' ∧ IsP d' ls' ∧ Up [0] S S' := by
  obtain ⟨l, rfl⟩ : ∃ j, l = j + 1 := ⟨l - 1, by omega⟩
  have hp := h.pos
  have n0 : ∀ {k : Nat}, k ≠ 0 → k ∉ [0] := fun {k} hk z => hk (List.mem_singleton.mp z)
  cases hP with
  | @mk fns ts lf lt c ws gs w1 w2 g1 g2 hF hc hFl hT hTl =>
    have u1 := (Up.refl0 h).push (xs := []) rfl
    have gf1 : (S ++ [Cell.lst []])[S.length]? = some (.lst []) := get_new
    obtain ⟨ys, S2, e2, p2, u2⟩ := shuf_of (fuel := fuel) u1.good (d := .tup fns) (.inr (.inl rfl)) hF.free (by omega) (l := l) (by omega)
    have U2 := u1.trans u2
    have gf2 := u2.get gf1 (n0 (by omega))
    obtain ⟨lfy, hFy⟩ := hF.perm p2
    have hyl := p2.length_eq
    have q3 := forL_ix (f := patB (.tp [3, 4, 5]) fun σ' => exS ⟨callF fs fuel l, fuel⟩ tBody σ')
      (fun i σ S' => ∃ (fs' : List D) (l1 l2 : List (List Nat)) (c1 c2 : Nat) (x3 x4 x5 x6 : Option D), σ = [some (.cell 0), some (.tup [.tup (ws.map .str), .tup (gs.map .str), .tup fns, .tup ts]), some (.cell S.length), x3, x4, x5, x6, none, none] ∧ S'[S.length]? = some (.lst fs') ∧ IsFs fs' l1 c1 ∧ IsFs (ys.drop i) l2 c2 ∧ c1 + c2 = c ∧ fs'.length = i ∧ Up [0] S S')
      (xs := ys) (j := 0) (σ := [some (.cell 0), some (.tup [.tup (ws.map .str), .tup (gs.map .str), .tup fns, .tup ts]), some (.cell S.length), none, none, none, none, none, none]) (S := S2) (fun i x σ S' hx hi => by
        obtain ⟨fs', l1, l2, c1, c2, x3, x4, x5, x6, rfl, gS, hI, hD, hcc, hlen, u⟩ := hi
        have hil := (List.getElem?_eq_some_iff.mp hx).1
        have hxe := (List.getElem?_eq_some_iff.mp hx).2
        rw [Nat.zero_add, List.drop_eq_getElem_cons hil, hxe] at hD
        cases hD with
        | @cons cs lc cc ds2 ld cd name ps q1 q2 q3 q4 q5 q6 =>
          have hcs1 := q5.2
          have hcs2 := q5.1
          -- the last case
          obtain ⟨init, last, hcs⟩ : ∃ init last, cs = init ++ [last] := ⟨cs.dropLast, cs.getLast (fun z => by rw [z] at hcs1; simp at hcs1), (List.dropLast_concat_getLast _).symm⟩
          subst hcs
          obtain ⟨hdl, hr, hlast⟩ := q4.headAt last (by simp)
          rw [List.length_append, List.length_cons, List.length_nil] at hcs1 hcs2
          have elast : ∀ S, idxM (.tup (init ++ [last])) (.int (-1)) S = .ok last S := fun S => by
            have e : ixL (init ++ [last]) (-1) = some last := by
              unfold ixL
              rw [if_pos (by omega), if_neg (by simp; omega)]
              have : ((-1 : Int) + ((init ++ [last]).length : Int)).toNat = init.length := by simp; omega
              rw [this]; simp
            show M.opt (ixL (init ++ [last]) (-1)) S = _
            rw [e]; rfl
          have ehd : ∀ S, idxM last (.int 0) S = .ok (.str hdl) S := fun S => by rw [hlast]; rfl
          have ecl : cutL (init ++ [last]) (some (-1)) none = [last] := by
            rw [cut_last (by simp)]; simp
          obtain ⟨la, ca, lb, cb, hCa, hCb, hab⟩ := q4.split
          by_cases ce : hdl = [101, 108, 115, 101]
          · subst ce
            have ect : cutL (init ++ [last]) none (some (init.length : Int)) = init := by
              rw [cut_hi (by omega), Int.toNat_natCast]; simp
            obtain ⟨zs, S3, e3, p3, u3⟩ := shuf_of (fuel := fuel) u.good (d := .tup init) (.inr (.inl rfl)) hCa.free (by omega) (l := l) (by omega)
            obtain ⟨lz, hCz⟩ := hCa.perm p3
            obtain ⟨l3, c3, hC3, hc3⟩ := hCz.join hCb
            have hzl := p3.length_eq
            obtain ⟨l4, c4, hI4, hc4⟩ := hI.snoc (name := name) (ps := ps) q1 q2 q3 hC3 ⟨by simp; omega, by simp⟩
            have gS3 := u3.get gS (n0 (by omega))
            have ea := app_eq gS3 (by omega) (.tup [.str name, .tup (ps.map .str), .tup (zs ++ [last])])
            have u4 := (u.trans u3).put (n := S.length) (xs := fs' ++ [.tup [.str name, .tup (ps.map .str), .tup (zs ++ [last])]]) (Nat.le_refl _) (by omega) (lows_free hI4.free)
            refine ⟨[some (.cell 0), some (.tup [.tup (ws.map .str), .tup (gs.map .str), .tup fns, .tup ts]), some (.cell S.length), some (.str name), some (.tup (ps.map .str)), some (.tup (init ++ [last])), some (.tup [last]), none, none], _, ?_, _, l4, _, c4, cd, _, _, _, _, rfl, get_set gS3, hI4, by rw [Nat.zero_add]; exact q6, by omega, by simp [hlen], u4⟩
            have e3' := e3
            simp (disch := (first | decide | assumption | (simp only [List.length_append, List.length_cons, List.length_nil, List.length_map] <;> omega) | omega)) [tBody, elast, ehd, ecl, ect, e3', recvOk, ea, -o_idxT]
          · have ect : cutL (init ++ [last]) none (some ((init.length : Int) + 1)) = init ++ [last] := by
              rw [cut_hi (by omega), show ((init.length : Int) + 1).toNat = init.length + 1 by omega, List.take_of_length_le (by simp)]
            obtain ⟨zs, S3, e3, p3, u3⟩ := shuf_of (fuel := fuel) u.good (d := .tup (init ++ [last])) (.inr (.inl rfl)) q4.free (by simp; omega) (l := l) (by omega)
            obtain ⟨lz, hCz⟩ := q4.perm p3
            have hzl := p3.length_eq
            rw [List.length_append, List.length_cons, List.length_nil] at hzl
            obtain ⟨l4, c4, hI4, hc4⟩ := hI.snoc (name := name) (ps := ps) q1 q2 q3 hCz ⟨by omega, by omega⟩
            have gS3 := u3.get gS (n0 (by omega))
            have ea := app_eq gS3 (by omega) (.tup [.str name, .tup (ps.map .str), .tup zs])
            have u4 := (u.trans u3).put (n := S.length) (xs := fs' ++ [.tup [.str name, .tup (ps.map .str), .tup zs]]) (Nat.le_refl _) (by omega) (lows_free hI4.free)
            refine ⟨[some (.cell 0), some (.tup [.tup (ws.map .str), .tup (gs.map .str), .tup fns, .tup ts]), some (.cell S.length), some (.str name), some (.tup (ps.map .str)), some (.tup (init ++ [last])), some (.tup []), none, none], _, ?_, _, l4, _, c4, cd, _, _, _, _, rfl, get_set gS3, hI4, by rw [Nat.zero_add]; exact q6, by omega, by simp [hlen], u4⟩
            simp (disch := (first | decide | assumption | (simp only [List.length_append, List.length_cons, List.length_nil, List.length_map] <;> omega) | omega)) [tBody, elast, ehd, ce, ect, e3, recvOk, ea, -o_idxT]) ⟨[], [], lfy, 0, c, none, none, none, none, rfl, gf2, .nil, hFy, by omega, rfl, U2⟩
    obtain ⟨σ', S3, e3, fs', l1, l2, c1, c2, x3, x4, x5, x6, rfl, gS3, hI3, _, hcc, hlen, U3⟩ := q3
    obtain ⟨y1, S4, e4, p4, u4⟩ := shuf_of (fuel := fuel) U3.good (d := .tup (ws.map .str)) (.inr (.inl rfl)) (frees_strs _) (by rw [List.length_map]; omega) (l := l) (by omega)
    obtain ⟨ws', rfl, w8', wl'⟩ := strs_perm p4 w2
    obtain ⟨y2, S5, e5, p5, u5⟩ := shuf_of (fuel := fuel) u4.good (d := .tup (gs.map .str)) (.inr (.inl rfl)) (frees_strs _) (by rw [List.length_map]; omega) (l := l) (by omega)
    obtain ⟨gs', rfl, g8', gl'⟩ := strs_perm p5 g2
    obtain ⟨ts', S6, e6, p6, u6⟩ := shuf_of (fuel := fuel) u5.good (d := .tup ts) (.inr (.inl rfl)) hT.free (by omega) (l := l) (by omega)
    obtain ⟨lt', hT'⟩ := hT.perm p6
    have htl := p6.length_eq
    have U6 := ((U3.trans u4).trans u5).trans u6
    have gS5 := u5.get (u4.get gS3 (n0 (by omega))) (n0 (by omega))
    have hP' : IsP (.tup [.tup (ws'.map .str), .tup (gs'.map .str), .tup fs', .tup ts']) _ := .mk ws' gs' (by omega) w8' (by omega) g8' hI3 (by omega) (by omega) hT' (by omega)
    have hfr : ∀ d, D.frees [.cell 0, d] = false := fun _ => rfl
    rw [callF_succ (fn := f_law_turned) rfl rfl]
    refine ⟨_, _, _, call_low (C := ⟨callF fs fuel l, fuel⟩) (fn := f_law_turned) (S := S) (S1 := S6) rfl (hfr _) ?_ (low_free hP'.free) (U6.lows h), hP', U6.leave h⟩
    have et := tupleC gS5
    simp (disch := (first | decide | assumption | (simp only [List.length_append, List.length_cons, List.length_nil, List.length_map] <;> omega) | omega)) [f_law_turned, e2, srcD, e3, e4, e5, et, e6]
end
end Lw
set_option linter.all false
set_option maxRecDepth 100000
set_option maxHeartbeats 4000000
/-! K4v: mades, the pump, the law. -/
namespace Lw
open Fb
theorem p_cell {S : Store} {n : Nat} {xs : List D} {is : List Nat} {k : Ev → M Fl} {σ : Ev} (h : S[n]? = some (.lst xs)) : patB (.tp is) k (.cell n) σ S = setK is xs σ k S := by
  have e : seqOf S (.cell n) = some xs := by
    show (match S[n]? with
      | some (.lst xs) => some xs
      | none => none) = _
    rw [h]
  unfold patB patE setK
  simp only [e]
  try rfl
theorem mul_tup {S : Store} {a : List D} {k : Int} (h : a.length ≤ 1000 ∧ k ≤ 1000 ∧ -1000000 ≤ k) : binM .mul (.tup a) (.int k) S = .ok (.tup (repL a k)) S := by
  show M.opt (if a.length ≤ 1000 ∧ k ≤ 1000 ∧ -1000000 ≤ k then some (D.tup (repL a k)) else none) S = _
  rw [if_pos h]; rfl
section
variable {fuel : Nat}
theorem pump_of {S : Store} (h : Good S) {l : Nat} (hl : 6 ≤ l) : ∃ (d : D) (ls : List (List Nat)) (S' : Store), callF fs fuel l 27 [.cell 0] S = .ok d S' ∧ IsP d ls ∧ Up [0] S S' := by
  obtain ⟨l, rfl⟩ : ∃ j, l = j + 1 := ⟨l - 1, by omega⟩
  obtain ⟨ws, n, S1, e1, g1, wl, w8, k1, u1⟩ := row_of_of (fuel := fuel) h (p := 47) (m := 6) (by omega) (tk := .lst []) (.inl ⟨[], rfl⟩) (fun ts hts => by
    cases ts with
    | nil => decide
    | cons t r => cases hts) (l := l) (by omega)
  obtain ⟨r, S2, e2, r0, r1, u2⟩ := grab_of (fuel := fuel) u1.good (m := 2) (by omega) (l := l) (by omega)
  obtain ⟨q, S3, e3, q0, q1, u3⟩ := grab_of (fuel := fuel) u2.good (m := 9) (by omega) (l := l) (by omega)
  have U := (u1.trans u2).trans u3
  match ws, wl, w8, g1, e1 with
  | [wr, gr, up, dn, nm, it], _, w8, g1, e1 =>
    have b1 : wr.length ≤ 8 := w8 _ (by simp)
    have b2 : gr.length ≤ 8 := w8 _ (by simp)
    have b3 : up.length ≤ 8 := w8 _ (by simp)
    have b4 : dn.length ≤ 8 := w8 _ (by simp)
    have b5 : nm.length ≤ 8 := w8 _ (by simp)
    have b6 : it.length ≤ 8 := w8 _ (by simp)
    have e1' : callF fs fuel l 14 [.cell 0, .int 47, .int 6, .lst []] S = .ok (.cell n) S1 := e1
    -- the word
    obtain ⟨wd, hwd, hwl, hw8⟩ : ∃ wd : List (List Nat), repL [D.str wr] (1 + r) = wd.map .str ∧ wd.length ≤ 8 ∧ ∀ w ∈ wd, w.length ≤ 8 := by
      have : r = 0 ∨ r = 1 := by omega
      rcases this with rfl | rfl
      · exact ⟨[wr], rfl, by simp, fun w hw => by rw [List.mem_singleton.mp hw]; exact b1⟩
      · exact ⟨[wr, wr], rfl, by simp, fun w hw => by
          rcases List.mem_cons.mp hw with e | e
          · rw [e]; exact b1
          · rw [List.mem_singleton.mp e]; exact b1⟩
    have em : ∀ S, binM .mul (.tup [.str wr]) (.int (1 + r)) S = .ok (.tup (wd.map .str)) S := fun S => by
      rw [mul_tup ⟨by simp, by omega, by omega⟩, hwd]
    have vN : IsE (.tup [.str [118], .str nm]) 118 nm 1 1 := .v nm b5
    have vI : IsE (.tup [.str [118], .str it]) 118 it 1 1 := .v it b6
    have n1 : IsE (.tup [.str [110], .int 1]) 110 _ 1 1 := .n 1 (by omega) (by omega)
    have nq : IsE (.tup [.str [110], .int q]) 110 _ 1 1 := .n q (by omega) (by omega)
    have less := IsE.add 45 (.inr rfl) vN n1
    have plus := IsE.add 43 (.inl rfl) vI n1
    have mT : IsM (.tup [.tup [], .str [84]]) _ := .mk [] [84] (by decide) (fun w hw => (nomatch hw)) (by decide)
    have mU : IsM (.tup [.tup [], .str [85]]) _ := .mk [] [85] (by decide) (fun w hw => (nomatch hw)) (by decide)
    have mW : IsM (.tup [.tup (wd.map .str), .str [84]]) _ := .mk wd [84] hwl hw8 (by decide)
    have s1 := IsS.call it dn b6 b4 mT .nil (by decide)
    have s2 := IsS.call it up b6 b3 mW (.cons less (by omega) (by omega) .nil) (by simp)
    have s3 := IsS.call it dn b6 b4 mU .nil (by decide)
    have fall := IsS.if_ vN (by omega) (by omega) n1 (by omega) (by omega) (.cons s1 .nil) (.cons s2 .nil)
    have one := IsCs.cons [45] (by decide) (.cons fall .nil) (by omega) vI (by omega) (by omega) .nil
    have other := IsCs.cons wr b1 (.cons s3 .nil) (by omega) plus (by omega) (by omega) (.cons gr b2 .nil (by omega) nq (by omega) (by omega) .nil)
    have fns := IsFs.cons up [nm] b3 (by simp) (fun p hp => by rw [List.mem_singleton.mp hp]; exact b5) one (by simp) (.cons dn [] b4 (by simp) (fun p hp => (nomatch hp)) other (by simp) .nil)
    have hP := IsP.mk [wr] [gr] (by simp) (fun p hp => by rw [List.mem_singleton.mp hp]; exact b1) (by simp) (fun p hp => by rw [List.mem_singleton.mp hp]; exact b2) fns (by omega) (by simp) (.cons up [gr] b3 (by simp) (fun p hp => by rw [List.mem_singleton.mp hp]; exact b2) .nil) (by simp)
    rw [callF_succ (fn := f_law_pump) rfl rfl]
    refine ⟨_, _, _, call_low (C := ⟨callF fs fuel l, fuel⟩) (fn := f_law_pump) (xs := [.cell 0]) (S := S) (S1 := S3) rfl rfl ?_ (low_free hP.free) (U.lows h), hP, U.leave h⟩
    have ep : ∀ is k σ, patB (.tp is) k (.cell n) σ S1 = setK is [.str wr, .str gr, .str up, .str dn, .str nm, .str it] σ k S1 := fun is k σ => p_cell g1
    simp (disch := (first | decide | assumption | (simp only [List.length_append, List.length_cons, List.length_nil, List.length_map] <;> omega) | omega)) [f_law_pump, e1', ep, e2, em, e3]
abbrev mBody : IS := (.seq (.set 5 (.tup (.cons (.blt .tuple (.cons (.comp [7] (.nm 7) (.rng1 (.bin .mul (.var 4) (.blt .min (.cons (.lit (.int 1)) (.cons (.blt .len (.cons (.var 2) .nil)) .nil))))) .nil (.idx (.var 2) (.call 10 (.cons (.var 0) (.cons (.blt .len (.cons (.var 2) .nil)) .nil))))) .nil)) (.cons (.var 3) .nil))))
  (.seq (.set 6 (.call 2 (.cons (.var 5) .nil)))
  (.seq (.ite (.or (.not (.isi (.var 6) [.str])) (.cmp .ne (.var 6) (.call 30 (.cons (.var 5) .nil))))
  (.seq (.ret (.lit (.bl false)))
  .skip)
  .skip)
  .skip)))
theorem mades_of {S : Store} (h : Good S) {d : D} {ls : List (List Nat)} (hP : IsP d ls) {l : Nat} (hl : 4 ≤ l) : ∃ S', callF fs fuel l 34 [.cell 0, d] S = .ok (.bl true) S' ∧ Up [0] S S' := by
  obtain ⟨l, rfl⟩ : ∃ j, l = j + 1 := ⟨l - 1, by omega⟩
  cases hP with
  | @mk fns ts lf lt c ws gs w1 w2 g1 g2 hF hc hFl hT hTl =>
    have inner : ∀ (src : List Nat) (x4 x5 x6 : Option D) (S0 : Store), src.length ≤ 8 → Up [0] S S0 → ∀ g : Int, 0 ≤ g → g < 5 → ∃ (y4 y5 y6 : Option D) (S' : Store), forL (patB (.nm 4) fun σ' => exS ⟨callF fs fuel l, fuel⟩ mBody σ') [.int 0, .int g, .int 4] [some (.cell 0), some (.tup [.tup (ws.map .str), .tup (gs.map .str), .tup fns, .tup ts]), some (.lst (ws.map .str)), some (.str src), x4, x5, x6, none] S0 =
        .ok (.nx [some (.cell 0), some (.tup [.tup (ws.map .str), .tup (gs.map .str), .tup fns, .tup ts]), some (.lst (ws.map .str)), some (.str src), y4, y5, y6, none]) S' ∧ Up [0] S S' := fun src x4 x5 x6 S0 hs u0 g g0 g5 => by
      have q := forL_ix (f := patB (.nm 4) fun σ' => exS ⟨callF fs fuel l, fuel⟩ mBody σ')
        (fun i σ S' => ∃ (y4 y5 y6 : Option D), σ = [some (.cell 0), some (.tup [.tup (ws.map .str), .tup (gs.map .str), .tup fns, .tup ts]), some (.lst (ws.map .str)), some (.str src), y4, y5, y6, none] ∧ Up [0] S S') (xs := [.int 0, .int g, .int 4]) (j := 0) (σ := [some (.cell 0), some (.tup [.tup (ws.map .str), .tup (gs.map .str), .tup fns, .tup ts]), some (.lst (ws.map .str)), some (.str src), x4, x5, x6, none]) (S := S0) (fun i x σ S' hx hi => by
          obtain ⟨y4, y5, y6, rfl, u⟩ := hi
          obtain ⟨v, rfl, v0, v4⟩ : ∃ v : Int, x = .int v ∧ 0 ≤ v ∧ v ≤ 4 := by
            have hm := List.mem_of_getElem? hx
            simp only [List.mem_cons, List.not_mem_nil, or_false] at hm
            rcases hm with rfl | rfl | rfl
            · exact ⟨0, rfl, by omega, by omega⟩
            · exact ⟨g, rfl, by omega, by omega⟩
            · exact ⟨4, rfl, by omega, by omega⟩
          have hmn : ∃ m0 : Nat, (v * (if (ws.length : Int) < 1 then (ws.length : Int) else 1)).toNat = m0 ∧ m0 ≤ 4 ∧ (0 < m0 → 0 < ws.length) ∧ 0 ≤ v * (if (ws.length : Int) < 1 then (ws.length : Int) else 1) ∧ v * (if (ws.length : Int) < 1 then (ws.length : Int) else 1) ≤ 4 := by
            by_cases hw : (ws.length : Int) < 1
            · have : (ws.length : Int) = 0 := by omega
              rw [if_pos hw, this, Int.mul_zero]
              exact ⟨0, rfl, by omega, by omega, by omega, by omega⟩
            · rw [if_neg hw, Int.mul_one]
              exact ⟨v.toNat, rfl, by omega, by omega, by omega, by omega⟩
          obtain ⟨m0, hm0, hm4, hmw, hp0, hp4⟩ := hmn
          have er : ∀ S, rngM (.int (v * (if (ws.length : Int) < 1 then (ws.length : Int) else 1))) S = .ok (.xs (rngD 0 m0)) S := fun S => by rw [x_rngM (by omega) (by omega), hm0]
          have emul : ∀ S, binM .mul (.int v) (.int (if (ws.length : Int) < 1 then (ws.length : Int) else 1)) S = .ok (.int (v * (if (ws.length : Int) < 1 then (ws.length : Int) else 1))) S := fun S => o_mulI (.inl (by unfold two64; omega))
          generalize v * (if (ws.length : Int) < 1 then (ws.length : Int) else 1) = MI at *
          obtain ⟨ys, S2, e2, y1, y8, u2⟩ := word_of (fuel := fuel) u.good (wd := .lst (ws.map .str)) (ws := ws) ⟨.inl rfl, w2, w1⟩ (l := l) (by omega) (k := 2) (j := 7) (σ := [some (.cell 0), some (.tup [.tup (ws.map .str), .tup (gs.map .str), .tup fns, .tup ts]), some (.lst (ws.map .str)), some (.str src), some (.int v), y5, y6, none]) (by simp) rfl rfl (by decide) (by decide) (m := m0) (by omega) hmw
          obtain ⟨t, hM⟩ := isM_of (ys := ys) (src := src) (by omega) y8 hs
          have e3 : ∀ S, callF fs fuel l 2 [.tup [.tup (ys.map .str), .str src]] S = .ok (.str t) S := made_of hM (by omega)
          have e4 : ∀ S, callF fs fuel l 30 [.tup [.tup (ys.map .str), .str src]] S = .ok (.str t) S := lmade_of hM (by omega)
          have el : ∀ S, bltD S .len [.lst (ws.map .str)] = some (.int ws.length) := fun S => by rw [len_lst, List.length_map]
          refine ⟨[some (.cell 0), some (.tup [.tup (ws.map .str), .tup (gs.map .str), .tup fns, .tup ts]), some (.lst (ws.map .str)), some (.str src), some (.int v), some (.tup [.tup (ys.map .str), .str src]), some (.str t), none], S2, ?_, _, _, _, rfl, u.trans u2⟩
          simp (disch := (first | decide | assumption | (simp only [List.length_append, List.length_cons, List.length_nil, List.length_map] <;> omega) | omega)) [mBody, el, -len_lst, emul, er, -x_rngM, x_comp2, -x_comp, e2, e3, e4, D.isTy]) ⟨x4, x5, x6, rfl, u0⟩
      obtain ⟨σ', S', e, y4, y5, y6, rfl, u⟩ := q
      exact ⟨y4, y5, y6, S', e, u⟩
    have q := forL_ix (f := patB (.nm 3) fun σ' => exS ⟨callF fs fuel l, fuel⟩ (.seq (.for (.nm 4) (.cons (.tup (.cons (.lit (.int 0)) (.cons (.call 10 (.cons (.var 0) (.cons (.lit (.int 5)) .nil))) (.cons (.lit (.int 4)) .nil)))) .nil) mBody) .skip) σ')
      (fun i σ S' => ∃ (y3 y4 y5 y6 : Option D), σ = [some (.cell 0), some (.tup [.tup (ws.map .str), .tup (gs.map .str), .tup fns, .tup ts]), some (.lst (ws.map .str)), y3, y4, y5, y6, none] ∧ Up [0] S S') (xs := .str [84] :: .str [85] :: gs.map .str) (j := 0) (σ := [some (.cell 0), some (.tup [.tup (ws.map .str), .tup (gs.map .str), .tup fns, .tup ts]), some (.lst (ws.map .str)), none, none, none, none, none]) (S := S) (fun i x σ S' hx hi => by
        obtain ⟨y3, y4, y5, y6, rfl, u⟩ := hi
        obtain ⟨src, rfl, hs⟩ : ∃ src : List Nat, x = .str src ∧ src.length ≤ 8 := by
          have hm := List.mem_of_getElem? hx
          simp only [List.mem_cons] at hm
          rcases hm with rfl | rfl | hm
          · exact ⟨[84], rfl, by decide⟩
          · exact ⟨[85], rfl, by decide⟩
          · obtain ⟨w, hw, rfl⟩ := List.mem_map.mp hm
            exact ⟨w, rfl, g2 w hw⟩
        obtain ⟨g, S1, e1, g0, g5, u1⟩ := grab_of (fuel := fuel) u.good (m := 5) (by omega) (l := l) (by omega)
        obtain ⟨z4, z5, z6, S2, e2, u2⟩ := inner src y4 y5 y6 S1 hs (u.trans u1) g g0 g5
        refine ⟨_, S2, ?_, some (.str src), z4, z5, z6, rfl, u2⟩
        simp (disch := (first | decide | assumption | (simp only [List.length_append, List.length_cons, List.length_nil, List.length_map] <;> omega) | omega)) [e1, srcD, e2]) ⟨none, none, none, none, rfl, Up.refl0 h⟩
    obtain ⟨σ', S', e, y3, y4, y5, y6, rfl, u⟩ := q
    have hfr : ∀ d, D.frees [.cell 0, d] = false := fun _ => rfl
    rw [callF_succ (fn := f_law_mades_right) rfl rfl]
    refine ⟨_, call_low (C := ⟨callF fs fuel l, fuel⟩) (fn := f_law_mades_right) (S := S) (S1 := S') (d := .bl true) rfl (hfr _) ?_ rfl (u.lows h), u.leave h⟩
    have el1 : ∀ S, bltD S .list [.tup (ws.map .str)] = some (.lst (ws.map .str)) := fun S => rfl
    have el2 : ∀ S, bltD S .list [.tup (gs.map .str)] = some (.lst (gs.map .str)) := fun S => rfl
    have hgl : (gs.map D.str).length ≤ 16 := by rw [List.length_map]; exact g1
    generalize hG : gs.map D.str = G at *
    generalize hWm : ws.map D.str = WM at *
    simp (disch := (first | decide | assumption | (simp only [List.length_append, List.length_cons, List.length_nil, List.length_map] <;> omega) | omega)) [f_law_mades_right, el1, el2, srcD, e]
end
end Lw
set_option linter.all false
set_option maxRecDepth 100000
set_option maxHeartbeats 4000000
/-! K4w: the law. -/
namespace Lw
open Fb
theorem good_one {c : Cell} (h : SackC c) : Good [c] := ⟨⟨c, rfl, h⟩, fun d hd => by rw [List.mem_singleton.mp hd]; exact h.low _⟩
theorem law_ev {fuel : Nat} (hfu : 10000 ≤ fuel) {is : List Int} (hn : is.length ≤ 63) {l : Nat} (hl : 70 ≤ l) : ∃ S, callF fs fuel l 35 [.ro (is.map .int)] [] = .ok (.bl true) S := by
  obtain ⟨l, rfl⟩ : ∃ j, l = j + 1 := ⟨l - 1, by omega⟩
  obtain ⟨c, e1, hc⟩ := sack_of (fuel := fuel) hn (l := l) (by omega)
  have q := forL_ix (f := patB (.nm 2) fun σ' => exS ⟨callF fs fuel l, fuel⟩ (.seq (.set 3 (.call 26 (.cons (.var 1) .nil)))
      (.seq (.ite (.or (.not (.call 34 (.cons (.var 1) (.cons (.var 3) .nil)))) (.not (.call 33 (.cons (.var 3) .nil))))
      (.seq (.ret (.lit (.bl false)))
      .skip)
      .skip)
      (.seq (.ite (.or (.not (.call 33 (.cons (.call 28 (.cons (.var 1) (.cons (.var 3) .nil))) .nil))) (.not (.call 33 (.cons (.var 3) .nil))))
      (.seq (.ret (.lit (.bl false)))
      .skip)
      .skip)
      .skip))) σ')
    (fun i σ S' => ∃ (x2 x3 : Option D), σ = [some (.ro (is.map .int)), some (.cell 0), x2, x3] ∧ Good S') (xs := rngD 0 2) (j := 0) (σ := [some (.ro (is.map .int)), some (.cell 0), none, none]) (S := [c]) (fun i x σ S' hx hi => by
      obtain ⟨x2, x3, rfl, g⟩ := hi
      obtain ⟨d, ls, S1, e2, hP, u1⟩ := program_of (fuel := fuel) g hfu (l := l) (by omega)
      obtain ⟨S2, e3, u2⟩ := mades_of (fuel := fuel) u1.good hP (l := l) (by omega)
      have e4 : ∀ S, callF fs fuel l 33 [d] S = .ok (.bl true) S := right_of hP (by omega) hfu
      obtain ⟨d2, ls2, S3, e5, hP2, u3⟩ := turned_of (fuel := fuel) u2.good hP (l := l) (by omega)
      have e6 : ∀ S, callF fs fuel l 33 [d2] S = .ok (.bl true) S := right_of hP2 (by omega) hfu
      refine ⟨[some (.ro (is.map .int)), some (.cell 0), some x, some d], S3, ?_, _, _, rfl, u3.good⟩
      generalize is.map D.int = IL
      simp (disch := (first | decide | assumption | (simp only [List.length_append, List.length_cons, List.length_nil, List.length_map] <;> omega) | omega)) [e2, e3, e4, e5, e6]) ⟨none, none, rfl, good_one hc⟩
  obtain ⟨σ', S1, e2, x2, x3, rfl, g⟩ := q
  obtain ⟨d, ls, S2, e3, hP, u2⟩ := pump_of (fuel := fuel) g (l := l) (by omega)
  have e4 : ∀ S, callF fs fuel l 33 [d] S = .ok (.bl true) S := right_of hP (by omega) hfu
  rw [callF_succ (fn := f_law) rfl rfl]
  have fr : D.frees [.ro (is.map D.int)] = true := by
    have : ∀ is : List Int, D.frees (is.map D.int) = true := fun is => by
      induction is with
      | nil => rfl
      | cons i r ih => exact ih
    simp [D.frees, D.free, this]
  have er : ∀ S, rngM (.int 2) S = .ok (.xs (rngD 0 2)) S := fun S => rfl
  refine ⟨[], call_freeE (S' := S2) rfl fr rfl ?_⟩
  generalize is.map D.int = IL at *
  simp (disch := (first | decide | assumption | (simp only [List.length_append, List.length_cons, List.length_nil, List.length_map] <;> omega) | omega)) [f_law, e1, er, -x_rngM, e2, e3, e4]
end Lw
set_option Elab.async false
set_option linter.all false
set_option maxRecDepth 100000
set_option maxHeartbeats 1000000
/-! Fb2: how plain data lie in the layer's heap; how heaps grow. -/
namespace Fb
open PySem PySem.Spec PyProof.Rows L2
abbrev SO (x : List Nat) : Str := ⟨x.toArray⟩
theorem SO_inj {x y : List Nat} (h : SO x = SO y) : x = y := by
  have := congrArg (fun z : Str => z.cps.toList) h
  simpa using this
theorem SO_len (x : List Nat) : (SO x).length = x.length := by simp [SO, Str.length]
abbrev Fg := PySem.W.Frag
/-- a tuple, a list of the written part -/
def KT (K : Fg) (a : Addr) (vs : List V) : Prop :=
  ∃ (o : Obj) (its : Array Value) (n : Nat), K.lookup a = some o ∧ o.cls = .type "tuple" ∧ o.data = .seq its n ∧ its.size ≤ sizeLine ∧ Vals vs its.toList
def KL (K : Fg) (a : Addr) (vs : List V) : Prop :=
  ∃ (o : Obj) (its : Array Value) (n : Nat), K.lookup a = some o ∧ o.cls = .type "list" ∧ o.dict = none ∧ o.data = .seq its n ∧ its.size ≤ sizeLine ∧ Vals vs its.toList
def QT (K : Fg) (m : List Addr) (H : Hp) (a : Addr) (vs : List V) : Prop := (Rd H a (.tup vs) ∧ a ∉ m) ∨ KT K a vs
def QL (B m : List Addr) (H : Hp) (a : Addr) (vs : List V) : Prop := H a = some (.lst vs) ∧ a ∉ B ∧ a ∉ m
def QR (K : Fg) (B m : List Addr) (H : Hp) (a : Addr) (vs : List V) : Prop := (Rd H a (.lst vs) ∧ a ∉ B ∧ a ∉ m) ∨ KL K a vs
theorem QT.sq {K : Fg} {m : List Addr} {H : Hp} {a : Addr} {vs : List V} (h : QT K m H a vs) : SqT K H a vs := h.imp (·.1) id
theorem QL.sq {K : Fg} {B m : List Addr} {H : Hp} {a : Addr} {vs : List V} (h : QL B m H a vs) : SqL K H a vs := SqL.of h.1
theorem QR.sq {K : Fg} {B m : List Addr} {H : Hp} {a : Addr} {vs : List V} (h : QR K B m H a vs) : SqL K H a vs := h.imp (·.1) id
/-- signs as Python has them -/
def okS (x : List Nat) : Bool := x.all fun c => decide (c < 1114112)
theorem okS_app {x y : List Nat} (h : okS x = true) (k : okS y = true) : okS (x ++ y) = true := by unfold okS at *; rw [List.all_append, h, k]; rfl
theorem okS_sub {x y : List Nat} (h : okS x = true) (k : ∀ c ∈ y, c ∈ x) : okS y = true := List.all_eq_true.mpr fun c hc => List.all_eq_true.mp h c (k c hc)
mutual
inductive RelD (K : Fg) (B m : List Addr) (H : Hp) : D → V → Prop
  | non : RelD K B m H .non .non
  | bl (b : Bool) : RelD K B m H (.bl b) (.bl b)
  | int (i : Int) : RelD K B m H (.int i) (.int i)
  | str (x : List Nat) : okS x = true → RelD K B m H (.str x) (.str (SO x))
  | tup {ds : List D} {a : Addr} {vs : List V} : QT K m H a vs → RelDs K B m H ds vs → RelD K B m H (.tup ds) (.ref a)
  | lst {ds : List D} {a : Addr} {vs : List V} : QL B m H a vs → RelDs K B m H ds vs → RelD K B m H (.lst ds) (.ref a)
  | ro {ds : List D} {a : Addr} {vs : List V} : QR K B m H a vs → RelDs K B m H ds vs → RelD K B m H (.ro ds) (.ref a)
  | cell {n : Nat} {a : Addr} : m[n]? = some a → RelD K B m H (.cell n) (.ref a)
inductive RelDs (K : Fg) (B m : List Addr) (H : Hp) : List D → List V → Prop
  | nil : RelDs K B m H [] []
  | cons {d : D} {v : V} {ds : List D} {vs : List V} : RelD K B m H d v → RelDs K B m H ds vs → RelDs K B m H (d :: ds) (v :: vs)
end
section
variable {K : Fg} {B B' m m' m'' : List Addr} {H H' H'' : Hp} {S S' S'' : Store}
/-- transport along what is kept -/
structure Tr (K : Fg) (B m B' m' : List Addr) (H H' : Hp) : Prop where
  tup : ∀ (a : Addr) (vs : List V), Rd H a (.tup vs) → a ∉ m → Rd H' a (.tup vs) ∧ a ∉ m'
  obj : ∀ (a : Addr) (u : HO), H a = some u → a ∉ B → a ∉ m → H' a = some u ∧ a ∉ B' ∧ a ∉ m'
  cell : ∀ (n : Nat) (a : Addr), m[n]? = some a → m'[n]? = some a
theorem Tr.rd (t : Tr K B m B' m' H H') {a : Addr} {u : HO} (h : Rd H a u) (hb : a ∉ B) (hm : a ∉ m) : Rd H' a u ∧ a ∉ B' ∧ a ∉ m' := by
  rcases h with h | ⟨o, h⟩
  · obtain ⟨h1, h2⟩ := t.obj a _ h hb hm
    exact ⟨.inl h1, h2⟩
  · obtain ⟨h1, h2⟩ := t.obj a _ h hb hm
    exact ⟨.inr ⟨o, h1⟩, h2⟩
mutual
theorem RelD.tr (t : Tr K B m B' m' H H') : ∀ {d : D} {v : V}, RelD K B m H d v → RelD K B' m' H' d v
  | _, _, .non => .non
  | _, _, .bl b => .bl b
  | _, _, .int i => .int i
  | _, _, .str x h => .str x h
  | _, _, .tup q r => .tup (q.imp (fun h => t.tup _ _ h.1 h.2) id) (RelDs.tr t r)
  | _, _, .lst q r => .lst (t.obj _ _ q.1 q.2.1 q.2.2) (RelDs.tr t r)
  | _, _, .ro q r => .ro (q.imp (fun h => t.rd h.1 h.2.1 h.2.2) id) (RelDs.tr t r)
  | _, _, .cell e => .cell (t.cell _ _ e)
theorem RelDs.tr (t : Tr K B m B' m' H H') : ∀ {ds : List D} {vs : List V}, RelDs K B m H ds vs → RelDs K B' m' H' ds vs
  | _, _, .nil => .nil
  | _, _, .cons r s => .cons (RelD.tr t r) (RelDs.tr t s)
end
theorem RelDs.len : ∀ {ds : List D} {vs : List V}, RelDs K B m H ds vs → ds.length = vs.length
  | _, _, .nil => rfl
  | _, _, .cons _ s => by rw [List.length_cons, List.length_cons, s.len]
theorem RelDs.app : ∀ {ds es : List D} {vs us : List V}, RelDs K B m H ds vs → RelDs K B m H es us → RelDs K B m H (ds ++ es) (vs ++ us)
  | _, _, _, _, .nil, t => t
  | _, _, _, _, .cons r s, t => .cons r (s.app t)
theorem RelDs.get : ∀ {ds : List D} {vs : List V} {i : Nat} {d : D}, RelDs K B m H ds vs → ds[i]? = some d → ∃ v, vs[i]? = some v ∧ RelD K B m H d v
  | _, _, _, _, .nil, e => by simp at e
  | _, _, 0, _, .cons r _, e => by simp at e; subst e; exact ⟨_, rfl, r⟩
  | _, _, i + 1, d, .cons _ s, e => by
    obtain ⟨v, h1, h2⟩ := s.get (i := i) (d := d) (by simpa using e)
    exact ⟨v, by simpa using h1, h2⟩
theorem RelDs.getV : ∀ {ds : List D} {vs : List V} {i : Nat} {v : V}, RelDs K B m H ds vs → vs[i]? = some v → ∃ d, ds[i]? = some d ∧ RelD K B m H d v
  | _, _, _, _, .nil, e => by simp at e
  | _, _, 0, _, .cons r _, e => by simp at e; subst e; exact ⟨_, rfl, r⟩
  | _, _, i + 1, d, .cons _ s, e => by
    obtain ⟨v, h1, h2⟩ := s.getV (i := i) (v := d) (by simpa using e)
    exact ⟨v, by simpa using h1, h2⟩
theorem RelDs.take : ∀ {ds : List D} {vs : List V} (n : Nat), RelDs K B m H ds vs → RelDs K B m H (ds.take n) (vs.take n)
  | _, _, 0, _ => .nil
  | _, _, _ + 1, .nil => .nil
  | _, _, n + 1, .cons r s => .cons r (s.take n)
theorem RelDs.drop : ∀ {ds : List D} {vs : List V} (n : Nat), RelDs K B m H ds vs → RelDs K B m H (ds.drop n) (vs.drop n)
  | _, _, 0, r => r
  | _, _, _ + 1, .nil => .nil
  | _, _, n + 1, .cons _ s => s.drop n
theorem RelDs.rev : ∀ {ds : List D} {vs : List V}, RelDs K B m H ds vs → RelDs K B m H ds.reverse vs.reverse
  | _, _, .nil => .nil
  | _, _, .cons r s => by rw [List.reverse_cons, List.reverse_cons]; exact s.rev.app (.cons r .nil)
theorem RelDs.rep {ds : List D} {vs : List V} (r : RelDs K B m H ds vs) : ∀ n : Nat, RelDs K B m H (List.replicate n ds).flatten (List.replicate n vs).flatten
  | 0 => .nil
  | n + 1 => by rw [List.replicate_succ, List.replicate_succ, List.flatten_cons, List.flatten_cons]; exact r.app (r.rep n)
theorem RelDs.setAt : ∀ {ds : List D} {vs : List V} {d : D} {v : V} (n : Nat), RelDs K B m H ds vs → RelD K B m H d v → RelDs K B m H (ds.set n d) (vs.set n v)
  | _, _, _, _, _, .nil, _ => .nil
  | _, _, _, _, 0, .cons _ s, q => .cons q s
  | _, _, _, _, n + 1, .cons r s, q => .cons r (s.setAt n q)
theorem RelDs.dropLast : ∀ {ds : List D} {vs : List V}, RelDs K B m H ds vs → RelDs K B m H ds.dropLast vs.dropLast
  | ds, vs, h => by
    rw [List.dropLast_eq_take, List.dropLast_eq_take, h.len]
    exact h.take _
theorem RelDs.erase : ∀ {ds : List D} {vs : List V} (n : Nat), RelDs K B m H ds vs → RelDs K B m H (ds.eraseIdx n) (vs.eraseIdx n)
  | _, _, _, .nil => .nil
  | _, _, 0, .cons _ s => s
  | _, _, n + 1, .cons r s => .cons r (s.erase n)

/-! ### the store -/
def CRel (K : Fg) (B m : List Addr) (H : Hp) : Cell → Addr → Prop
  | .lst ds, a => ∃ vs, H a = some (.lst vs) ∧ RelDs K B m H ds vs
structure At (K : Fg) (B m : List Addr) (S : Store) (H : Hp) : Prop where
  len : S.length = m.length
  nd : (B ++ m).Nodup
  live : ∀ a ∈ B, H a ≠ none
  cells : ∀ (i : Nat) (c : Cell) (a : Addr), S[i]? = some c → m[i]? = some a → CRel K B m H c a
theorem At.mlive (t : At K B m S H) {a : Addr} (h : a ∈ m) : ∃ vs, H a = some (.lst vs) := by
  obtain ⟨i, hi, e⟩ := List.getElem_of_mem h
  have hs : i < S.length := by rw [t.len]; exact hi
  have q := t.cells i S[i] a (List.getElem?_eq_getElem hs) (by rw [List.getElem?_eq_getElem hi, e])
  cases hc : S[i] with
  | lst ds =>
    rw [hc] at q
    obtain ⟨vs, h1, _⟩ := q
    exact ⟨vs, h1⟩
theorem At.fresh (t : At K B m S H) {a : Addr} (h : H a = none) : a ∉ B ∧ a ∉ m := by
  refine ⟨fun hb => t.live a hb h, fun hm => ?_⟩
  obtain ⟨vs, e⟩ := t.mlive hm
  rw [h] at e
  cases e
theorem At.apart (t : At K B m S H) {a : Addr} (h : a ∈ B) : a ∉ m := fun hm => (List.nodup_append.mp t.nd).2.2 a h a hm rfl
/-- how the heap and the cells' places go on -/
structure Le (m m' : List Addr) (H H' : Hp) : Prop where
  pre : ∃ r, m' = m ++ r ∧ ∀ a ∈ r, H a = none
  keep : ∀ (a : Addr) (o : HO), H a = some o → a ∉ m → H' a = some o
theorem Le.refl : Le m m H H := ⟨⟨[], by simp, fun _ h => by cases h⟩, fun _ _ e _ => e⟩
theorem Le.trans (t : At K B m S H) (t' : At K B m' S' H') (x : Le m m' H H') (y : Le m' m'' H' H'') : Le m m'' H H'' := by
  obtain ⟨r, e, hr⟩ := x.pre
  obtain ⟨r', e', hr'⟩ := y.pre
  refine ⟨⟨r ++ r', by rw [e', e, List.append_assoc], fun a ha => ?_⟩, fun a o ho ha => ?_⟩
  · rcases List.mem_append.mp ha with h | h
    · exact hr a h
    · cases q : H a with
      | none => rfl
      | some o =>
        have n := hr' a h
        by_cases hm : a ∈ m
        · obtain ⟨vs, e2⟩ := t'.mlive (a := a) (by rw [e]; exact List.mem_append_left _ hm)
          rw [n] at e2; cases e2
        · rw [x.keep a o q hm] at n; cases n
  · refine y.keep a o (x.keep a o ho ha) fun h => ?_
    rw [e] at h
    rcases List.mem_append.mp h with h | h
    · exact ha h
    · rw [hr a h] at ho; cases ho
theorem Le.tr (t : At K B m S H) (x : Le m m' H H') : Tr K B m B m' H H' := by
  obtain ⟨r, e, hr⟩ := x.pre
  have nr : ∀ {a : Addr} {u : HO}, Rd H a u → a ∉ r := fun {a u} h z => by
    rcases h with h | ⟨o, h⟩ <;> rw [hr _ z] at h <;> cases h
  have kp : ∀ {a : Addr} {u : HO}, Rd H a u → a ∉ m → Rd H' a u := fun {a u} h hm => by
    rcases h with h | ⟨o, h⟩
    · exact .inl (x.keep _ _ h hm)
    · exact .inr ⟨o, x.keep _ _ h hm⟩
  refine ⟨fun a vs h hm => ⟨kp h hm, fun z => ?_⟩, fun a u h hb hm => ⟨x.keep a u h hm, hb, fun z => ?_⟩, fun n a h => ?_⟩
  · rw [e] at z
    exact (List.mem_append.mp z).elim hm (nr h)
  · rw [e] at z
    exact (List.mem_append.mp z).elim hm (nr (.inl h))
  · rw [e]
    exact (List.getElem?_append_left (List.getElem?_eq_some_iff.mp h).1).trans h
theorem Le.live (t' : At K B m' S' H') (x : Le m m' H H') {a : Addr} (h : H a ≠ none) : H' a ≠ none := by
  obtain ⟨r, e, hr⟩ := x.pre
  intro n
  by_cases hm : a ∈ m
  · obtain ⟨vs, e2⟩ := t'.mlive (a := a) (by rw [e]; exact List.mem_append_left _ hm)
    rw [n] at e2; cases e2
  · cases q : H a with
    | none => exact h q
    | some o => rw [x.keep a o q hm] at n; cases n
/-- a new object that is no cell -/
theorem Le.new (t : At K B m S H) {p : Addr} {o : HO} (h : H p = none) : Le m m H (upd H p o) := ⟨⟨[], by simp, fun _ z => by cases z⟩, fun a u e _ => by rw [upd_ne (ne_of_none e h)]; exact e⟩
theorem At.new (t : At K B m S H) {p : Addr} {o : HO} (h : H p = none) : At K B m S (upd H p o) := by
  have x : Le m m H (upd H p o) := Le.new t h
  have f := t.fresh h
  refine ⟨t.len, t.nd, fun a ha => ?_, fun i c a hc ha => ?_⟩
  · rw [upd_ne (fun z => f.1 (by rw [← z]; exact ha))]; exact t.live a ha
  · have q := t.cells i c a hc ha
    cases c with
    | lst ds =>
      obtain ⟨vs, e, r⟩ := q
      refine ⟨vs, ?_, r.tr (x.tr t)⟩
      rw [upd_ne (ne_of_none e h)]; exact e
/-- a new cell -/
theorem Le.grow (t : At K B m S H) {p : Addr} {o : HO} (h : H p = none) : Le m (m ++ [p]) H (upd H p o) :=
  ⟨⟨[p], rfl, fun a ha => by rw [List.mem_singleton.mp ha]; exact h⟩, fun a u e _ => by rw [upd_ne (ne_of_none e h)]; exact e⟩
theorem At.grow (t : At K B m S H) {p : Addr} {ds : List D} {vs : List V} (h : H p = none) (r : RelDs K B m H ds vs) : At K B (m ++ [p]) (S ++ [.lst ds]) (upd H p (.lst vs)) := by
  have x : Le m (m ++ [p]) H (upd H p (.lst vs)) := Le.grow t h
  have f := t.fresh h
  refine ⟨by simp [t.len], ?_, fun a ha => ?_, fun i c a hc ha => ?_⟩
  · rw [← List.append_assoc]
    refine List.nodup_append.mpr ⟨t.nd, by simp, fun a ha b hb e => ?_⟩
    rw [List.mem_singleton.mp hb] at e
    rw [e] at ha
    exact (List.mem_append.mp ha).elim f.1 f.2
  · rw [upd_ne (fun z => f.1 (by rw [← z]; exact ha))]; exact t.live a ha
  · by_cases hi : i < S.length
    · rw [List.getElem?_append_left hi] at hc
      rw [List.getElem?_append_left (by rw [← t.len]; exact hi)] at ha
      have q := t.cells i c a hc ha
      cases c with
      | lst ds' =>
        obtain ⟨vs', e, r'⟩ := q
        refine ⟨vs', ?_, r'.tr (x.tr t)⟩
        rw [upd_ne (ne_of_none e h)]; exact e
    · have hl : i = S.length := by
        have := (List.getElem?_eq_some_iff.mp hc).1
        simp at this
        omega
      subst hl
      rw [List.getElem?_append_right (Nat.le_refl _)] at hc
      rw [t.len, List.getElem?_append_right (Nat.le_refl _)] at ha
      simp at hc ha
      subst hc; subst ha
      exact ⟨vs, upd_same, r.tr (x.tr t)⟩
/-- a cell is written -/
theorem Le.put (t : At K B m S H) {n : Nat} {p : Addr} {o : HO} (hp : m[n]? = some p) : Le m m H (upd H p o) :=
  ⟨⟨[], by simp, fun _ z => by cases z⟩, fun a u e ha => by rw [upd_ne (fun z => ha (by rw [z]; exact List.mem_of_getElem? hp))]; exact e⟩
theorem At.put (t : At K B m S H) {n : Nat} {p : Addr} {ds : List D} {vs : List V} (hp : m[n]? = some p) (r : RelDs K B m H ds vs) : At K B m (S.set n (.lst ds)) (upd H p (.lst vs)) := by
  have x : Le m m H (upd H p (.lst vs)) := Le.put t hp
  have hm := List.mem_of_getElem? hp
  refine ⟨by simp [t.len], t.nd, fun a ha => ?_, fun i c a hc ha => ?_⟩
  · rw [upd_ne (fun z => t.apart ha (by rw [z]; exact hm))]; exact t.live a ha
  · by_cases hi : n = i
    · subst hi
      rw [hp] at ha
      cases ha
      rw [List.getElem?_set_self (by have := (List.getElem?_eq_some_iff.mp hp).1; rw [t.len]; exact this)] at hc
      cases hc
      exact ⟨vs, upd_same, r.tr (x.tr t)⟩
    · rw [List.getElem?_set_ne hi] at hc
      have hne : a ≠ p := fun e => hi (by
        subst e
        have nd := (List.nodup_append.mp t.nd).2.1
        obtain ⟨h1, e1⟩ := List.getElem?_eq_some_iff.mp hp
        obtain ⟨h2, e2⟩ := List.getElem?_eq_some_iff.mp ha
        exact (List.getElem_inj nd).mp (e1.trans e2.symm))
      have q := t.cells i c a hc ha
      cases c with
      | lst ds' =>
        obtain ⟨vs', e, r'⟩ := q
        exact ⟨vs', by rw [upd_ne hne]; exact e, r'.tr (x.tr t)⟩

/-! ### reading a relation -/
theorem RelD.str_of {x : List Nat} {v : V} (h : RelD K B m H (.str x) v) : v = .str (SO x) := by cases h; rfl
theorem RelD.str_ok {x : List Nat} {v : V} (h : RelD K B m H (.str x) v) : okS x = true := by cases h; assumption
theorem RelD.int_of {x : Int} {v : V} (h : RelD K B m H (.int x) v) : v = .int x := by cases h; rfl
theorem RelD.bl_of {x : Bool} {v : V} (h : RelD K B m H (.bl x) v) : v = .bl x := by cases h; rfl
theorem RelD.non_of {v : V} (h : RelD K B m H .non v) : v = .non := by cases h; rfl
theorem RelD.tup_of {ds : List D} {v : V} (h : RelD K B m H (.tup ds) v) : ∃ a vs, v = .ref a ∧ SqT K H a vs ∧ RelDs K B m H ds vs := by
  cases h with
  | tup q r => exact ⟨_, _, rfl, q.sq, r⟩
theorem RelD.cell_of {n : Nat} {v : V} (h : RelD K B m H (.cell n) v) : ∃ a, v = .ref a ∧ m[n]? = some a := by
  cases h with
  | cell e => exact ⟨_, rfl, e⟩
/-- a list in either mode -/
theorem RelD.lst_of (t : At K B m S H) {d : D} {xs : List D} {v : V} (h : RelD K B m H d v) (e : lstOf S d = some xs) : ∃ a vs, v = .ref a ∧ SqL K H a vs ∧ RelDs K B m H xs vs := by
  cases h with
  | lst q r =>
    cases e
    exact ⟨_, _, rfl, q.sq, r⟩
  | ro q r =>
    cases e
    exact ⟨_, _, rfl, q.sq, r⟩
  | @cell n a e1 =>
    have e2 : (match S[n]? with
      | some (.lst xs) => some xs
      | none => none) = some xs := e
    cases q : S[n]? with
    | none => rw [q] at e2; cases e2
    | some c =>
      cases c with
      | lst ys =>
        rw [q] at e2
        cases e2
        obtain ⟨vs, h1, r⟩ := t.cells n _ a q e1
        exact ⟨a, vs, rfl, SqL.of h1, r⟩
  | _ => cases e
theorem RelD.own_of (t : At K B m S H) {d : D} {xs : List D} {v : V} (h : RelD K B m H d v) (e : ownOf S d = some xs) : ∃ a vs, v = .ref a ∧ H a = some (.lst vs) ∧ RelDs K B m H xs vs := by
  cases h with
  | lst q r =>
    cases e
    exact ⟨_, _, rfl, q.1, r⟩
  | @cell n a e1 =>
    have e2 : (match S[n]? with
      | some (.lst xs) => some xs
      | none => none) = some xs := e
    cases q : S[n]? with
    | none => rw [q] at e2; cases e2
    | some c =>
      cases c with
      | lst ys =>
        rw [q] at e2
        cases e2
        obtain ⟨vs, h1, r⟩ := t.cells n _ a q e1
        exact ⟨a, vs, rfl, h1, r⟩
  | _ => cases e
theorem RelD.seq_of (t : At K B m S H) {d : D} {xs : List D} {v : V} (h : RelD K B m H d v) (e : seqOf S d = some xs) : ∃ a vs, v = .ref a ∧ (SqL K H a vs ∨ SqT K H a vs) ∧ RelDs K B m H xs vs := by
  cases d with
  | tup ys =>
    cases e
    obtain ⟨a, vs, h1, h2, h3⟩ := h.tup_of
    exact ⟨a, vs, h1, .inr h2, h3⟩
  | lst ys =>
    obtain ⟨a, vs, h1, h2, h3⟩ := h.lst_of t (xs := xs) e
    exact ⟨a, vs, h1, .inl h2, h3⟩
  | ro ys =>
    obtain ⟨a, vs, h1, h2, h3⟩ := h.lst_of t (xs := xs) e
    exact ⟨a, vs, h1, .inl h2, h3⟩
  | cell n =>
    obtain ⟨a, vs, h1, h2, h3⟩ := h.lst_of t (xs := xs) e
    exact ⟨a, vs, h1, .inl h2, h3⟩
  | _ => cases e
theorem RelD.new_tup (t : At K B m S H) {p : Addr} {ds : List D} {vs : List V} (h : H p = none) (r : RelDs K B m H ds vs) : RelD K B m (upd H p (.tup vs)) (.tup ds) (.ref p) :=
  .tup (.inl ⟨.inl upd_same, (t.fresh h).2⟩) (r.tr ((Le.new t h).tr t))
theorem RelD.new_lst (t : At K B m S H) {p : Addr} {ds : List D} {vs : List V} (h : H p = none) (r : RelDs K B m H ds vs) : RelD K B m (upd H p (.lst vs)) (.lst ds) (.ref p) :=
  .lst ⟨upd_same, (t.fresh h).1, (t.fresh h).2⟩ (r.tr ((Le.new t h).tr t))

/-! ### slots -/
def RelE (K : Fg) (B m : List Addr) (H : Hp) (δ : Ev) (σ : L2.St) : Prop := δ.length = σ.length ∧ ∀ (i : Nat) (d : D), δ[i]? = some (some d) → ∃ v, σ[i]? = some (some v) ∧ RelD K B m H d v
theorem RelE.tr {δ : Ev} {σ : L2.St} (r : RelE K B m H δ σ) (t : Tr K B m B' m' H H') : RelE K B' m' H' δ σ := ⟨r.1, fun i d e => let ⟨v, h1, h2⟩ := r.2 i d e; ⟨v, h1, h2.tr t⟩⟩
theorem RelE.set {δ : Ev} {σ : L2.St} (r : RelE K B m H δ σ) {d : D} {v : V} (q : RelD K B m H d v) (i : Nat) : RelE K B m H (δ.set i (some d)) (σ.set i (some v)) := by
  refine ⟨by simp [r.1], fun j e hj => ?_⟩
  by_cases hi : i = j
  · subst hi
    by_cases hl : i < δ.length
    · rw [List.getElem?_set_self hl] at hj
      cases hj
      exact ⟨v, List.getElem?_set_self (by rw [← r.1]; exact hl), q⟩
    · rw [List.getElem?_eq_none (by simpa using hl)] at hj
      cases hj
  · rw [List.getElem?_set_ne hi] at hj
    obtain ⟨u, h1, h2⟩ := r.2 j e hj
    exact ⟨u, by rw [List.getElem?_set_ne hi]; exact h1, h2⟩
theorem RelE.unset {δ : Ev} {σ : L2.St} (r : RelE K B m H δ σ) (i : Nat) : RelE K B m H (δ.set i none) (σ.set i none) := by
  refine ⟨by simp [r.1], fun j e hj => ?_⟩
  by_cases hi : i = j
  · subst hi
    by_cases hl : i < δ.length
    · rw [List.getElem?_set_self hl] at hj
      cases hj
    · rw [List.getElem?_eq_none (by simpa using hl)] at hj
      cases hj
  · rw [List.getElem?_set_ne hi] at hj
    obtain ⟨u, h1, h2⟩ := r.2 j e hj
    exact ⟨u, by rw [List.getElem?_set_ne hi]; exact h1, h2⟩
theorem RelE.wipe {δ : Ev} {σ : L2.St} (r : RelE K B m H δ σ) : ∀ vs : List Nat, RelE K B m H (wipeE δ vs) (wipe σ vs)
  | [] => r
  | v :: vs => (r.wipe vs).unset v
theorem join_some {δ : Ev} {i : Nat} {d : D} (h : δ[i]?.join = some d) : δ[i]? = some (some d) := by
  cases e : δ[i]? with
  | none => rw [e] at h; cases h
  | some o => rw [e] at h; exact congrArg some h
theorem start_rel {ds : List D} {vs : List V} (r : RelDs K B m H ds vs) {N : List Str} : RelE K B m H (ds.map some ++ List.replicate (N.length - ds.length) none) (L2.start N vs) := by
  unfold L2.start
  refine ⟨by simp [r.len], fun i d e => ?_⟩
  by_cases hi : i < ds.length
  · rw [List.getElem?_append_left (by simpa using hi), List.getElem?_map] at e
    cases q : ds[i]? with
    | none => rw [q] at e; cases e
    | some d' =>
      rw [q] at e
      cases e
      obtain ⟨v, h1, h2⟩ := r.get q
      refine ⟨v, ?_, h2⟩
      rw [List.getElem?_append_left (by have := r.len; simp; omega), List.getElem?_map, h1]
      rfl
  · rw [List.getElem?_append_right (by simpa using hi), List.getElem?_replicate] at e
    split at e <;> cases e
end
end Fb
set_option Elab.async false
set_option linter.all false
set_option maxRecDepth 100000
set_option maxHeartbeats 1000000
/-! Fb3: what the evaluator's answers ask of the layer; operators by values. -/
namespace Fb
open PySem PySem.Spec PyProof.Rows L2
abbrev Xt := List (Addr × List Str)
def ExRel (K : Fg) (Z : Xt) (B m : List Addr) (H : Hp) (c : Nat) (as : List D) (cls : Value) (dd : Option Addr) : Prop :=
  ∃ C fns p fs vs, Z[c]? = some (C, fns) ∧ cls = .ref C ∧ dd = some p ∧ H p = some (.xd fs) ∧ RelDs K B m H as vs ∧ fns.length = vs.length ∧
    ∀ (i : Nat) (f : Str), fns[i]? = some f → fs.lookup f = vs[i]?
/-- what an answer asks -/
def FinG (K : Fg) (Z : Xt) (B m : List Addr) (H : Hp) (W : XK) {α : Type} (r : Res α) (P : α → Store → List Addr → Hp → Prop) : Prop := match r with
  | .ok a S' => ∀ m' H', Le m m' H H' → At K B m' S' H' → P a S' m' H'
  | .exc c as S' => ∀ cls dd m' H', Le m m' H H' → At K B m' S' H' → ExRel K Z B m' H' c as cls dd → W cls dd H'
  | .bad => False
/-- a list that was just made: H ahead of all, H2 without it -/
structure Fresh (K : Fg) (B m' : List Addr) (S' : Store) (H H' : Hp) (d : D) (v : V) : Prop where
  of : ∀ xs, d = .lst xs → ∃ a vs H2, v = .ref a ∧ H a = none ∧ H2 a = none ∧ H' = upd H2 a (.lst vs) ∧ At K B m' S' H2 ∧ RelDs K B m' H2 xs vs
def PD (K : Fg) (B : List Addr) (H : Hp) (fr : Bool) (Q : VK) (d : D) (S' : Store) (m' : List Addr) (H' : Hp) : Prop :=
  ∀ v, RelD K B m' H' d v → (fr = true → Fresh K B m' S' H H' d v) → Q v H'
section
variable {K : Fg} {Z : Xt} {B m m0 m1 m' : List Addr} {H H0 H1 H' : Hp} {S S0 S1 S' : Store} {W : XK} {α β : Type}
theorem FinG.rebase {r : Res α} {P : α → Store → List Addr → Hp → Prop} (t : At K B m S H) (t0 : At K B m0 S0 H0) (l : Le m m0 H H0) (h : FinG K Z B m H W r P) : FinG K Z B m0 H0 W r P := by
  cases r with
  | ok a S' => exact fun m' H' l' t' => h m' H' (Le.trans t t0 l l') t'
  | exc c as S' => exact fun cls dd m' H' l' t' => h cls dd m' H' (Le.trans t t0 l l') t'
  | bad => exact h
theorem FinG.imp {r : Res α} {P P' : α → Store → List Addr → Hp → Prop} (h : FinG K Z B m H W r P) (i : ∀ a S' m' H', P a S' m' H' → P' a S' m' H') : FinG K Z B m H W r P' := by
  cases r with
  | ok a S' => exact fun m' H' l' t' => i _ _ _ _ (h m' H' l' t')
  | exc c as S' => exact h
  | bad => exact h
/-- a binding: the first part's answer -/
theorem FinG.bind {f : M α} {g : α → M β} {P : β → Store → List Addr → Hp → Prop} (t : At K B m S H) (h : FinG K Z B m H W (M.bind f g S) P) :
    FinG K Z B m H W (f S) fun a S' m' H' => FinG K Z B m' H' W (g a S') P := by
  unfold M.bind at h
  cases e : f S with
  | ok a S' =>
    rw [e] at h
    exact fun m' H' l' t' => h.rebase t t' l'
  | exc c as S' => rw [e] at h; exact h
  | bad => rw [e] at h; exact h
theorem FinG.opt {o : Option α} {P : α → Store → List Addr → Hp → Prop} (h : FinG K Z B m H W (M.opt o S) P) : ∃ a, o = some a ∧ FinG K Z B m H W (.ok a S) P := by
  cases o with
  | none => exact h.elim
  | some a => exact ⟨a, rfl, h⟩
theorem FinG.now {a : α} {P : α → Store → List Addr → Hp → Prop} (t : At K B m S H) (h : FinG K Z B m H W (.ok a S) P) : P a S m H := h m H Le.refl t
end

/-! ### operators by values -/
section
variable {K : Fg} {Z : Xt} {B m : List Addr} {H H0 : Hp} {S : Store} {W : XK} {Q : VK}
theorem fin_plain {d : D} {v : V} {fr : Bool} (t : At K B m S H) (h : FinG K Z B m H W (.ok d S) (PD K B H0 fr Q)) (r : RelD K B m H d v) (n : ∀ xs, d ≠ .lst xs) : Q v H :=
  h.now t v r fun _ => ⟨fun xs e => absurd e (n xs)⟩
theorem fin_tup {ds : List D} {vs : List V} {p : Addr} {fr : Bool} (t : At K B m S H) (h : FinG K Z B m H W (.ok (.tup ds) S) (PD K B H0 fr Q)) (hp : H p = none) (r : RelDs K B m H ds vs) : Q (.ref p) (upd H p (.tup vs)) :=
  h m _ (Le.new t hp) (t.new hp) _ (RelD.new_tup t hp r) fun _ => ⟨fun xs e => nomatch e⟩
theorem fin_lst {ds : List D} {vs : List V} {p : Addr} {fr : Bool} (t : At K B m S H) (n : ∀ a, H a = none → H0 a = none) (h : FinG K Z B m H W (.ok (.lst ds) S) (PD K B H0 fr Q)) (hp : H p = none) (r : RelDs K B m H ds vs) :
    Q (.ref p) (upd H p (.lst vs)) :=
  h m _ (Le.new t hp) (t.new hp) _ (RelD.new_lst t hp r) fun _ => ⟨fun xs e => by cases e; exact ⟨p, vs, H, rfl, n p hp, hp, rfl, t, r⟩⟩
/-- a store to a cell -/
theorem fin_put {d : D} {v : V} {n : Nat} {p : Addr} {ds : List D} {vs : List V} {fr : Bool} (t : At K B m S H) (hp : m[n]? = some p) (r : RelDs K B m H ds vs) (h : FinG K Z B m H W (.ok d (S.set n (.lst ds))) (PD K B H0 fr Q))
    (q : RelD K B m H d v) (nl : fr = true → ∀ xs, d ≠ .lst xs) : Q v (upd H p (.lst vs)) :=
  h m _ (Le.put t hp) (t.put hp r) v (q.tr ((Le.put t hp).tr t)) fun f => ⟨fun xs e => absurd e (nl f xs)⟩
end
def boOf : Bo → Operator
  | .add => .Add | .sub => .Sub | .mul => .Mult | .mod => .Mod | .fdiv => .FloorDiv | .pow => .Pow | .shl => .LShift
def rBin (K : Fg) (o : Bo) : R2 := fun x y H Q => ∃ B m S a b H0 d, At K B m S H ∧ RelD K B m H a x ∧ RelD K B m H b y ∧ (∀ p, H p = none → H0 p = none) ∧
  binD S o a b = some d ∧ ∃ Z W, FinG K Z B m H W (.ok d S) (PD K B H0 true Q)
theorem two64_eq : two64 = 2 ^ 64 := by decide
theorem SL_eq : SL = sizeLine := by rw [sizeLine_eq]; rfl
theorem OpR.imp' {X : Cx} {f : Value → Value → Sem Value} {r r' : R2} (h : OpR X f r) (i : ∀ x y H Q, r' x y H Q → r x y H Q) : OpR X f r' :=
  fun pins s σ H x y v u Q I rx ry q => h pins s σ H x y v u Q I rx ry (i _ _ _ _ q)
theorem SO_append (a b : List Nat) : SO a ++ SO b = SO (a ++ b) := by
  refine Str.ext' ?_
  show (SO a).cps ++ (SO b).cps = _
  simp [SO]
theorem addD_cases {S : Store} {a b d : D} (h : addD S a b = some d) : (∃ i j, a = .int i ∧ b = .int j ∧ d = .int (i + j)) ∨ (∃ i j, a = .str i ∧ b = .str j ∧ i.length + j.length ≤ SL ∧ d = .str (i ++ j)) ∨
    (∃ i j, a = .tup i ∧ b = .tup j ∧ i.length + j.length ≤ SL ∧ d = .tup (i ++ j)) ∨ (∃ i j, ownOf S a = some i ∧ ownOf S b = some j ∧ i.length + j.length ≤ SL ∧ d = .lst (i ++ j)) := by
  unfold addD at h
  split at h
  · cases h; exact .inl ⟨_, _, rfl, rfl, rfl⟩
  · split at h
    · cases h; exact .inr (.inl ⟨_, _, rfl, rfl, by assumption, rfl⟩)
    · cases h
  · split at h
    · cases h; exact .inr (.inr (.inl ⟨_, _, rfl, rfl, by assumption, rfl⟩))
    · cases h
  · split at h
    · split at h
      · cases h; exact .inr (.inr (.inr ⟨_, _, by assumption, by assumption, by assumption, rfl⟩))
      · cases h
    · cases h
theorem mulD_cases {S : Store} {a b d : D} (h : mulD S a b = some d) : (∃ i j, a = .int i ∧ b = .int j ∧ mulOk i j = true ∧ d = .int (i * j)) ∨ (∃ i k, a = .tup i ∧ b = .int k ∧ (i.length ≤ 1000 ∧ k ≤ 1000 ∧ -1000000 ≤ k) ∧ d = .tup (repL i k)) ∨
    (∃ i k, a = .str i ∧ b = .int k ∧ (i.length ≤ 1000 ∧ k ≤ 1000 ∧ -1000000 ≤ k) ∧ d = .str (repL i k)) ∨ (∃ i k, ownOf S a = some i ∧ b = .int k ∧ (i.length ≤ 1000 ∧ k ≤ 1000 ∧ -1000000 ≤ k) ∧ d = .lst (repL i k)) := by
  unfold mulD at h
  split at h
  · split at h
    · cases h; exact .inl ⟨_, _, rfl, rfl, by assumption, rfl⟩
    · cases h
  · split at h
    · cases h; exact .inr (.inl ⟨_, _, rfl, rfl, by assumption, rfl⟩)
    · cases h
  · split at h
    · cases h; exact .inr (.inr (.inl ⟨_, _, rfl, rfl, by assumption, rfl⟩))
    · cases h
  · split at h
    · split at h
      · cases h; exact .inr (.inr (.inr ⟨_, _, by assumption, rfl, by assumption, rfl⟩))
      · cases h
    · cases h
  · cases h
theorem flat_rep {α : Type} (vs : List α) (n : Nat) : (List.replicate n vs).flatten.length = n * vs.length := by
  induction n with
  | zero => simp
  | succ n ih => rw [List.replicate_succ, List.flatten_cons, List.length_append, ih, Nat.succ_mul]; omega
theorem nil_of_len {α β : Type} {a : List α} {b : List β} (h : a.length = b.length) (e : b = []) : a = [] := by
  subst e
  exact List.eq_nil_of_length_eq_zero h
section
variable {X : Cx}
theorem op_binA : OpR X (binaryOp .Add) (rBin X.K .add) := by
  have h1 : OpR X (binaryOp .Add) _ := (OpR.or op_add (OpR.or op_add_str (OpR.or op_catA op_cat)))
  refine OpR.imp' h1 ?_
  rintro x y H Q ⟨B, m, S, a, b, H0, d, t, ra, rb, hn, e, Z, W, h⟩
  rcases addD_cases e with ⟨i, j, rfl, rfl, rfl⟩ | ⟨i, j, rfl, rfl, hz, rfl⟩ | ⟨i, j, rfl, rfl, hz, rfl⟩ | ⟨i, j, ea, eb, hz, rfl⟩
  · exact .inl ⟨i, j, ra.int_of, rb.int_of, fin_plain t h (.int _) fun _ e => nomatch e⟩
  · refine .inr (.inl ⟨SO i, SO j, ra.str_of, rb.str_of, by rw [SO_len, SO_len, ← SL_eq]; exact hz, ?_⟩)
    rw [SO_append]
    exact fin_plain t h (.str _ (okS_app ra.str_ok rb.str_ok)) fun _ e => nomatch e
  · obtain ⟨a1, v1, rfl, s1, r1⟩ := ra.tup_of
    obtain ⟨a2, v2, rfl, s2, r2⟩ := rb.tup_of
    refine .inr (.inr (.inl ⟨a1, a2, v1, v2, rfl, rfl, s1, s2, by rw [← r1.len, ← r2.len, ← SL_eq]; exact hz, fun q => ?_, fun q1 q2 => ?_, fun q1 q2 p hp => fin_tup t h hp (r1.app r2)⟩))
    · have e0 : i = [] := nil_of_len r1.len q
      subst e0
      exact fin_plain t h rb fun _ e => nomatch e
    · have e0 : j = [] := nil_of_len r2.len q2
      subst e0
      rw [List.append_nil] at h
      exact fin_plain t h ra fun _ e => nomatch e
  · obtain ⟨l1, v1, rfl, h1, r1⟩ := ra.own_of t ea
    obtain ⟨l2, v2, rfl, h2, r2⟩ := rb.own_of t eb
    exact .inr (.inr (.inr ⟨l1, l2, v1, v2, rfl, rfl, h1, h2, by rw [← r1.len, ← r2.len, ← SL_eq]; exact hz, fun p hp => fin_lst t hn h hp (r1.app r2)⟩))
theorem op_binI {o : Bo} {f : Value → Value → Sem Value} {Cd : Int → Int → Prop} {g : Int → Int → Int} (hr : OpR X f (rI Cd fun i j => .int (g i j)))
    (hb : ∀ S a b d, binD S o a b = some d → ∃ i j, a = .int i ∧ b = .int j ∧ Cd i j ∧ d = .int (g i j)) : OpR X f (rBin X.K o) := by
  refine OpR.imp' hr ?_
  rintro x y H Q ⟨B, m, S, a, b, H0, d, t, ra, rb, hn, e, Z, W, h⟩
  obtain ⟨i, j, rfl, rfl, hc, rfl⟩ := hb _ _ _ _ e
  exact ⟨i, j, ra.int_of, rb.int_of, hc, fin_plain t h (.int _) fun _ e => nomatch e⟩
theorem op_sub' : OpR X (binaryOp .Sub) (rI (fun _ _ => True) fun i j => .int (i - j)) := OpR.imp' op_sub fun x y H Q ⟨i, j, e1, e2, _, q⟩ => ⟨i, j, e1, e2, q⟩
theorem op_binS : OpR X (binaryOp .Sub) (rBin X.K .sub) := op_binI op_sub' fun S a b d h => by
  simp only [binD] at h
  split at h
  · cases h; exact ⟨_, _, rfl, rfl, trivial, rfl⟩
  · cases h
theorem op_binMod : OpR X (binaryOp .Mod) (rBin X.K .mod) := op_binI op_mod fun S a b d h => by
  simp only [binD] at h
  split at h
  · split at h
    · cases h; exact ⟨_, _, rfl, rfl, by assumption, rfl⟩
    · cases h
  · cases h
theorem op_binDiv : OpR X (binaryOp .FloorDiv) (rBin X.K .fdiv) := op_binI op_fdiv fun S a b d h => by
  simp only [binD] at h
  split at h
  · split at h
    · cases h; exact ⟨_, _, rfl, rfl, by assumption, rfl⟩
    · cases h
  · cases h
theorem natAbs_lt {i : Int} (h1 : -two64 < i) (h2 : i < two64) : i.natAbs < 2 ^ 64 := by
  have e : two64 = ((2 ^ 64 : Nat) : Int) := by decide
  omega
theorem op_binPow : OpR X (binaryOp .Pow) (rBin X.K .pow) := op_binI op_pow fun S a b d h => by
  simp only [binD] at h
  split at h
  · split at h
    · rename_i c
      cases h; exact ⟨_, _, rfl, rfl, ⟨c.1, c.2.1, natAbs_lt c.2.2.1 c.2.2.2⟩, rfl⟩
    · cases h
  · cases h
theorem op_binShl : OpR X (binaryOp .LShift) (rBin X.K .shl) := op_binI op_shl fun S a b d h => by
  simp only [binD] at h
  split at h
  · split at h
    · rename_i c
      cases h; exact ⟨_, _, rfl, rfl, ⟨c.1, c.2.1, natAbs_lt c.2.2.1 c.2.2.2⟩, rfl⟩
    · cases h
  · cases h
end
end Fb
set_option Elab.async false
set_option linter.all false
set_option maxRecDepth 100000
set_option maxHeartbeats 4000000
/-! Fb3m: products of texts, tuples, lists with ints. -/
namespace Fb
open PySem PySem.Spec PyProof.Rows L2
theorem tmul_same (l : Addr) (items : Array Value) (n : Nat) (dd : Option Addr) (sl : Array (Option Value)) (x : Int) (u : Tok) (c0 : (decide (x < -(2 ^ 63)) || decide (x ≥ 2 ^ 63)) = false) (c1 : (items.isEmpty || x == 1) = true) :
    Meets (Builtin.«tuple.__mul__» ⟨[.ref l, .int x u], []⟩) (fun _ R s => s.heap.get? l = some { cls := .type "tuple", dict := dd, data := .seq items n, slots := sl } ∧ R (.ok (.ret (Value.ref l))) s) :=
  .of_wp fun prog w A R s h => by
    obtain ⟨hp, g, d, tk, os⟩ := s
    obtain ⟨hl, h⟩ := h
    have f1 := AutoSeq1.idx_int
    wp_walk using wpAny_loadPart' hl
    repeat (first
      | (refine wpAny_ite_false (decide_eq_false (by rw [c0]; exact Bool.false_ne_true)) ?_; wp_walk using wpAny_loadPart' hl)
      | (refine wpAny_ite_true (decide_eq_true c1) ?_; wp_walk using wpAny_loadPart' hl))
    exact ⟨_, rfl, h⟩
theorem tmul_none (l : Addr) (items : Array Value) (n : Nat) (dd : Option Addr) (sl : Array (Option Value)) (x : Int) (u : Tok) (c0 : (decide (x < -(2 ^ 63)) || decide (x ≥ 2 ^ 63)) = false) (c1 : (items.isEmpty || x == 1) = false) (c2 : (decide (x ≤ 0) || items.isEmpty) = true) :
    Meets (Builtin.«tuple.__mul__» ⟨[.ref l, .int x u], []⟩) (fun _ R s => s.heap.get? l = some { cls := .type "tuple", dict := dd, data := .seq items n, slots := sl } ∧
      R (.ok (.ret (Value.ref s.heap.objs.size))) { s with heap := s.heap.push { cls := Value.type "tuple", data := Data.seq #[] }, toks := s.toks }) :=
  .of_wp fun prog w A R s h => by
    obtain ⟨hp, g, d, tk, os⟩ := s
    obtain ⟨hl, h⟩ := h
    have f1 := AutoSeq1.idx_int
    wp_walk using wpAny_loadPart' hl
    repeat (first
      | (refine wpAny_ite_false (decide_eq_false (by rw [c0]; exact Bool.false_ne_true)) ?_; wp_walk using wpAny_loadPart' hl)
      | (refine wpAny_ite_false (decide_eq_false (by rw [c1]; exact Bool.false_ne_true)) ?_; wp_walk using wpAny_loadPart' hl)
      | (refine wpAny_ite_true (decide_eq_true c2) ?_; wp_walk using wpAny_loadPart' hl)
      | (refine wpAny_ite_false (decide_eq_false (Nat.not_lt.mpr (Nat.zero_le _))) ?_; wp_walk using wpAny_loadPart' hl))
    exact ⟨_, rfl, h⟩
/-- a tuple times an int: the same tuple, an empty one, or its copies -/
def rRepA (K : Fg) : R2 := fun x y H Q => ∃ l k xs, x = .ref l ∧ y = .int k ∧ SqT K H l xs ∧ -1000000 ≤ k ∧ k ≤ 1000 ∧ xs.length ≤ 1000 ∧
  ((xs = [] ∨ k = 1) → Q (.ref l) H) ∧ (¬ (xs = [] ∨ k = 1) → ∀ p, H p = none → Q (.ref p) (upd H p (.tup (repL xs k))))
section
variable {X : Cx}
theorem op_repA : OpR X (binaryOp .Mult) (rRepA X.K) := by
  intro pins s σ H x y v u Q I rx ry h
  obtain ⟨l, k, xs, rfl, rfl, hT, h1, h2, hz, qs, qn⟩ := h
  by_cases hbig : xs ≠ [] ∧ 2 ≤ k
  · have hne : ¬ (xs = [] ∨ k = 1) := fun z => z.elim hbig.1 (fun e => by have := hbig.2; omega)
    exact op_repT pins s σ H _ _ v u Q I rx ry ⟨l, k, xs, rfl, rfl, hT, hbig.1, hbig.2, h2, hz, qn hne⟩
  · cases rx
    obtain ⟨t, rfl⟩ := ry
    obtain ⟨its, r, ⟨⟨cls, dd, data, sl⟩, ho, hc, n, hd⟩, hs⟩ := I.tuple hT
    simp only at hc hd
    subst hc hd
    have c0 : (decide (k < -(2 ^ 63)) || decide (k ≥ 2 ^ 63)) = false := by
      rw [decide_eq_false (by omega), decide_eq_false (by omega)] <;> rfl
    have he : its.toArray.isEmpty = xs.isEmpty := by cases r <;> simp
    by_cases hsame : xs = [] ∨ k = 1
    · have c1 : (its.toArray.isEmpty || k == 1) = true := by
        rw [he]
        rcases hsame with e | e
        · rw [e]; rfl
        · rw [e]; simp
      exact wpAny_binaryOp_repeat_ref (T := "tuple") (U := "int") (by decide) ⟨_, ho, rfl⟩ (fun s' => typeIs_int s' k t) noFill_tuple_mul F.fills_int_mul F.slot_int_rmul repeat_tuple F.slot_int_index.lookup
        (call_meets F.slot_int_rmul (typeIs_int s k t) F.entry_int_rmul (F.args_int_rmul_2 _ _) (int_rmul_tuple k t l its.toArray n dd sl)
          ⟨ho, rfl, ⟨_, ho, rfl⟩, call_meets F.slot_tuple_mul ⟨_, ho, rfl⟩ F.entry_tuple_mul (F.args_tuple_mul_2 _ _) (tmul_same l its.toArray n dd sl k t c0 c1) ⟨ho, ⟨.ref l, H, I, rfl, qs hsame⟩⟩⟩)
    · have hx : xs ≠ [] := fun e => hsame (.inl e)
      have hk : k ≤ 0 := by
        have a1 : ¬ k = 1 := fun e => hsame (.inr e)
        have a2 : ¬ 2 ≤ k := fun e => hbig ⟨hx, e⟩
        omega
      have hxe : xs.isEmpty = false := by cases xs with
        | nil => exact absurd rfl hx
        | cons a b => rfl
      have c1 : (its.toArray.isEmpty || k == 1) = false := by
        rw [he, hxe, Bool.false_or]
        exact beq_eq_false_iff_ne.mpr (by omega)
      have c2 : (decide (k ≤ 0) || its.toArray.isEmpty) = true := by
        rw [decide_eq_true hk]; rfl
      have e0 : repL xs k = [] := by
        unfold repL
        rw [show k.toNat = 0 by omega]
        rfl
      refine wpAny_binaryOp_repeat_ref (T := "tuple") (U := "int") (by decide) ⟨_, ho, rfl⟩ (fun s' => typeIs_int s' k t) noFill_tuple_mul F.fills_int_mul F.slot_int_rmul repeat_tuple F.slot_int_index.lookup
        (call_meets F.slot_int_rmul (typeIs_int s k t) F.entry_int_rmul (F.args_int_rmul_2 _ _) (int_rmul_tuple k t l its.toArray n dd sl)
          ⟨ho, rfl, ⟨_, ho, rfl⟩, call_meets F.slot_tuple_mul ⟨_, ho, rfl⟩ F.entry_tuple_mul (F.args_tuple_mul_2 _ _) (tmul_none l its.toArray n dd sl k t c0 c1 c2) ⟨ho, ?_⟩⟩)
      have q := qn hsame s.heap.objs.size (I.hok.fresh (Nat.le_refl _))
      rw [e0] at q
      refine ⟨.ref s.heap.objs.size, _, I.laid (t' := s.toks) (o := .tup []) (fun b ob q => Heap.get?_push_of_some _ q) (Nat.le_refl _) ?_, rfl, q⟩
      exact ⟨Nat.zero_le _, [], .nil, IsTup.new _ _⟩
/-- a text times an int -/
def rRepS : R2 := fun x y H Q => ∃ a k, x = .str (SO a) ∧ y = .int k ∧ -1000000 ≤ k ∧ k ≤ 1000 ∧ a.length ≤ 1000 ∧ Q (.str (SO (repL a k))) H
theorem fold_app {α : Type} (a : List α) : ∀ (n : Nat) (acc : Array α), (List.replicate n a.toArray).foldl (· ++ ·) acc = acc ++ (List.replicate n a).flatten.toArray
  | 0, acc => by simp
  | n + 1, acc => by
    rw [List.replicate_succ, List.foldl_cons, fold_app a n, List.replicate_succ, List.flatten_cons]
    simp
theorem repL_len {α : Type} (a : List α) (k : Int) : (repL a k).length = k.toNat * a.length := flat_rep a k.toNat
theorem op_repS : OpR X (binaryOp .Mult) rRepS := by
  intro pins s σ H x y v u Q I rx ry h
  obtain ⟨a, k, rfl, rfl, h1, h2, hz, q⟩ := h
  obtain ⟨t, rfl⟩ := rx
  obtain ⟨t', rfl⟩ := ry
  have hm : k.toNat * a.length ≤ 1000 * 1000 := Nat.mul_le_mul (by omega) hz
  have c0 : (decide (k < -(2 ^ 63 : Int)) || decide (k ≥ 2 ^ 63)) = false := by
    rw [decide_eq_false (by omega), decide_eq_false (by omega)] <;> rfl
  refine PySem.P.mul_str c0 (fun h3 _ => ?_) (fun h3 _ => ?_) ?_
  · have hk : 1 ≤ k := by omega
    have e1 : ((SO a).length : Int) ≤ 1000 := by rw [SO_len]; omega
    have e2 : (1000 : Int) ≤ (2 ^ 63 - 1) / k := (Int.le_ediv_iff_mul_le (by omega)).mpr (by omega)
    omega
  · unfold Builtin.Str.tooLong
    rw [SO_len, Nat.mul_comm, sizeLine_eq]
    exact decide_eq_false (by omega)
  · by_cases hk : k < 1
    · rw [if_pos hk]
      have e0 : repL a k = [] := by
        unfold repL
        rw [show k.toNat = 0 by omega]
        rfl
      rw [e0] at q
      exact ⟨by decide, ⟨.str (SO []), H, I.tok _, ⟨_, rfl⟩, q⟩⟩
    · rw [if_neg hk]
      by_cases hs : (k == 1 || (SO a).length == 0) = true
      · rw [if_pos hs]
        have e0 : repL a k = a := by
          rcases Bool.or_eq_true_iff.mp hs with e | e
          · have e1 : k = 1 := eq_of_beq e
            rw [e1]
            simp [repL]
          · have e1 : a = [] := by
              have e2 : (SO a).length = 0 := eq_of_beq e
              rw [SO_len] at e2
              exact List.eq_nil_of_length_eq_zero e2
            rw [e1]
            apply List.eq_nil_of_length_eq_zero
            rw [repL_len]
            simp
        rw [e0] at q
        exact ⟨.str (SO a), H, I, ⟨_, rfl⟩, q⟩
      · rw [if_neg hs]
        have e0 : (⟨(List.replicate k.toNat (SO a).cps).foldl (· ++ ·) #[]⟩ : Str) = SO (repL a k) := by
          show (⟨(List.replicate k.toNat a.toArray).foldl (· ++ ·) #[]⟩ : Str) = _
          rw [fold_app]
          simp [repL, SO]
        rw [e0]
        refine ⟨?_, ⟨.str (SO (repL a k)), H, I.tok _, ⟨_, rfl⟩, q⟩⟩
        first
          | (rw [SO_len, repL_len, sizeLine_eq]; omega)
          | (show (SO (repL a k)).length ≤ _; rw [SO_len, repL_len, sizeLine_eq]; omega)
theorem mulOk_of {i j : Int} (h : mulOk i j = true) : CMul i j := by
  have h2 := of_decide_eq_true h
  rw [two64_eq] at h2
  exact h2
theorem op_binMul : OpR X (binaryOp .Mult) (rBin X.K .mul) := by
  have h1 : OpR X (binaryOp .Mult) _ := (OpR.or op_mul (OpR.or op_repA (OpR.or op_repS op_rep)))
  refine OpR.imp' h1 ?_
  rintro x y H Q ⟨B, m, S, a, b, H0, d, t, ra, rb, hn, e, Z, W, h⟩
  rcases mulD_cases e with ⟨i, j, rfl, rfl, hc, rfl⟩ | ⟨i, k, rfl, rfl, hz, rfl⟩ | ⟨i, k, rfl, rfl, hz, rfl⟩ | ⟨i, k, ea, rfl, hz, rfl⟩
  · exact .inl ⟨i, j, ra.int_of, rb.int_of, mulOk_of hc, fin_plain t h (.int _) fun _ e => nomatch e⟩
  · obtain ⟨a1, v1, rfl, s1, r1⟩ := ra.tup_of
    refine .inr (.inl ⟨a1, k, v1, rfl, rb.int_of, s1, hz.2.2, hz.2.1, by rw [← r1.len]; exact hz.1, fun q => ?_, fun q p hp => fin_tup t h hp (r1.rep _)⟩)
    have e0 : repL i k = i := by
      rcases q with q | q
      · have e1 : i = [] := nil_of_len r1.len q
        rw [e1]
        apply List.eq_nil_of_length_eq_zero
        rw [repL_len]
        simp
      · rw [q]; simp [repL]
    rw [e0] at h
    exact fin_plain t h ra fun _ e => nomatch e
  · exact .inr (.inr (.inl ⟨i, k, ra.str_of, rb.int_of, hz.2.2, hz.2.1, hz.1, fin_plain t h (.str _ (okS_sub ra.str_ok fun c hc => by
      obtain ⟨l, hl, hm⟩ := List.mem_flatten.mp (show c ∈ (List.replicate k.toNat i).flatten from hc)
      rw [List.eq_of_mem_replicate hl] at hm
      exact hm)) fun _ e => nomatch e⟩))
  · obtain ⟨l1, v1, rfl, h1, r1⟩ := ra.own_of t ea
    have hl := r1.len
    have hm : v1.length * k.toNat ≤ 1000 * 1000 := Nat.mul_le_mul (by omega) (by omega)
    exact .inr (.inr (.inr ⟨l1, k, v1, rfl, rb.int_of, h1, by omega, by omega, by rw [sizeLine_eq]; omega, fun p hp => fin_lst t hn h hp (r1.rep _)⟩))
def boOp : (o : Bo) → OpR X (binaryOp (boOf o)) (rBin X.K o)
  | .add => op_binA | .sub => op_binS | .mul => op_binMul | .mod => op_binMod | .fdiv => op_binDiv | .pow => op_binPow | .shl => op_binShl
end
end Fb
set_option Elab.async false
set_option linter.all false
set_option maxRecDepth 100000
set_option maxHeartbeats 2000000
/-! Fb4: comparisons by values. -/
namespace Fb
open PySem PySem.Spec PyProof.Rows L2
mutual
def toPy : D → PyData
  | .non => .none
  | .bl b => .bool b
  | .int i => .int i
  | .str x => .str (SO x)
  | .tup xs => .tuple (toPys xs)
  | .lst xs => .list (toPys xs)
  | .ro xs => .list (toPys xs)
  | .cell _ => .none
def toPys : List D → List PyData
  | [] => []
  | x :: xs => toPy x :: toPys xs
end
section
variable {K : Fg} {B m : List Addr} {H : Hp} {S : Store}
mutual
theorem RelD.dp : ∀ {d : D} {v : V}, RelD K B m H d v → d.free = true → Dp K H v (toPy d)
  | _, _, .non, _ => .non
  | _, _, .bl b, _ => .bl b
  | _, _, .int i, _ => .int i
  | _, _, .str x _, _ => .str _
  | _, _, .tup q r, f => .tup q.sq (RelDs.dp r f)
  | _, _, .lst q r, f => .lst q.sq (RelDs.dp r f)
  | _, _, .ro q r, f => .lst q.sq (RelDs.dp r f)
  | _, _, .cell _, f => nomatch (show false = true from f)
theorem RelDs.dp : ∀ {ds : List D} {vs : List V}, RelDs K B m H ds vs → D.frees ds = true → DpAll K H vs (toPys ds)
  | _, _, .nil, _ => .nil
  | _, _, .cons r s, f => .cons (RelD.dp r (Bool.and_eq_true_iff.mp f).1) (RelDs.dp s (Bool.and_eq_true_iff.mp f).2)
end
end
theorem SO_beq (x y : List Nat) : (SO x == SO y) = (x == y) := by
  rw [Bool.eq_iff_iff, beq_iff_eq, beq_iff_eq]
  exact ⟨SO_inj, fun e => by rw [e]⟩
theorem beqI_l (a : Bool) (j : Int) : ((if a then 1 else 0) == j) = beqI a j := rfl
mutual
theorem eqv_py : ∀ a b : D, a.free = true → b.free = true → PyData.eqv (toPy a) (toPy b) = D.eqv a b
  | .non, b, _, f => by cases b <;> first | rfl | cases f
  | .bl a, b, _, f => by cases b <;> first | rfl | cases f
  | .int i, b, _, f => by
    cases b with
    | bl c => show (i == (if c then 1 else 0)) = beqI c i; unfold beqI; exact Bool.beq_comm
    | cell n => cases f
    | _ => rfl
  | .str x, b, _, f => by
    cases b with
    | str y => exact SO_beq x y
    | cell n => cases f
    | _ => rfl
  | .tup xs, b, g, f => by
    cases b with
    | tup ys => exact eqvs_py xs ys g f
    | cell n => cases f
    | _ => rfl
  | .lst xs, b, g, f => by
    cases b with
    | lst ys => exact eqvs_py xs ys g f
    | ro ys => exact eqvs_py xs ys g f
    | cell n => cases f
    | _ => rfl
  | .ro xs, b, g, f => by
    cases b with
    | lst ys => exact eqvs_py xs ys g f
    | ro ys => exact eqvs_py xs ys g f
    | cell n => cases f
    | _ => rfl
  | .cell n, _, g, _ => nomatch (show false = true from g)
theorem eqvs_py : ∀ xs ys : List D, D.frees xs = true → D.frees ys = true → PyData.eqvAll (toPys xs) (toPys ys) = D.eqvs xs ys
  | [], [], _, _ => rfl
  | [], _ :: _, _, _ => rfl
  | _ :: _, [], _, _ => rfl
  | x :: xs, y :: ys, g, f => by
    have g2 := Bool.and_eq_true_iff.mp g
    have f2 := Bool.and_eq_true_iff.mp f
    show (PyData.eqv (toPy x) (toPy y) && PyData.eqvAll (toPys xs) (toPys ys)) = (D.eqv x y && D.eqvs xs ys)
    rw [eqv_py x y g2.1 f2.1, eqvs_py xs ys g2.2 f2.2]
end
mutual
theorem depth_py : ∀ a : D, (toPy a).depth = D.depth a
  | .non => rfl | .bl _ => rfl | .int _ => rfl | .str _ => rfl | .cell _ => rfl
  | .tup xs => by show PyData.depthAll (toPys xs) + 1 = _; rw [depths_py xs]; rfl
  | .lst xs => by show PyData.depthAll (toPys xs) + 1 = _; rw [depths_py xs]; rfl
  | .ro xs => by show PyData.depthAll (toPys xs) + 1 = _; rw [depths_py xs]; rfl
theorem depths_py : ∀ xs : List D, PyData.depthAll (toPys xs) = D.depths xs
  | [] => rfl
  | x :: xs => by show max (toPy x).depth (PyData.depthAll (toPys xs)) = _; rw [depth_py x, depths_py xs]; rfl
end
section
variable {K : Fg} {B m : List Addr} {H : Hp}
theorem strOk_of {x : List Nat} (h : okS x = true) : PyData.strOk (SO x) = true := by
  unfold PyData.strOk
  rw [Array.all_eq_true']
  intro c hc
  have h2 := List.all_eq_true.mp h c (by simpa [SO] using hc)
  exact h2
mutual
theorem lay_py : ∀ {a : D} {v : V}, RelD K B m H a v → (toPy a).canLay0 = true
  | _, _, .non => rfl
  | _, _, .bl _ => rfl
  | _, _, .int _ => rfl
  | _, _, .str _ h => strOk_of h
  | _, _, .cell _ => rfl
  | _, _, .tup _ r => lays_py r
  | _, _, .lst _ r => lays_py r
  | _, _, .ro _ r => lays_py r
theorem lays_py : ∀ {xs : List D} {vs : List V}, RelDs K B m H xs vs → PyData.canLayAll0 (toPys xs) = true
  | _, _, .nil => rfl
  | _, _, .cons r s => by show (PyData.canLay0 (toPy _) && PyData.canLayAll0 (toPys _)) = true; rw [lay_py r, lays_py s]; rfl
end
theorem shaped_py {a : D} {v : V} (r : RelD K B m H a v) (h : D.depth a ≤ 64) : SeqAt.shaped (toPy a) = true := by
  unfold SeqAt.shaped
  rw [lay_py r, depth_py, decide_eq_true h]
  rfl
theorem shaped_pys {xs : List D} {vs : List V} (r : RelDs K B m H xs vs) (h : D.depths xs ≤ 63) : SeqAt.shaped (.list (toPys xs)) = true := by
  unfold SeqAt.shaped
  rw [show PyData.canLay0 (.list (toPys xs)) = true from lays_py r, show PyData.depth (.list (toPys xs)) = PyData.depthAll (toPys xs) + 1 from rfl, depths_py, decide_eq_true (show D.depths xs + 1 ≤ 64 by omega)]
  rfl
end
theorem mem_py {x : D} (fx : x.free = true) : ∀ ys : List D, D.frees ys = true → ((toPys ys).any fun z => PyData.eqv z (toPy x)) = memD x ys
  | [], _ => rfl
  | y :: ys, f => by
    have f2 := Bool.and_eq_true_iff.mp f
    show (PyData.eqv (toPy y) (toPy x) || (toPys ys).any fun z => PyData.eqv z (toPy x)) = (D.eqv y x || memD x ys)
    rw [eqv_py y x f2.1 fx, mem_py fx ys f2.2]
/-! ### by values -/
def rCmp (K : Fg) (o : Co) : R2 := fun x y H Q => ∃ B m S a b t, At K B m S H ∧ RelD K B m H a x ∧ RelD K B m H b y ∧ cmpD S o a b = some t ∧ Q (.bl t) H
def coOf : Co → CmpOp
  | .eq => .Eq | .ne => .NotEq | .lt => .Lt | .le => .LtE | .gt => .Gt | .ge => .GtE | .isIn => .In | .notIn => .NotIn
section
variable {X : Cx}
theorem RelD.data {K : Fg} {B m : List Addr} {H : Hp} {S : Store} (t : At K B m S H) {d a : D} {v : V} (r : RelD K B m H d v) (e : dataOf S d = some a) (f : a.free = true) : Dp K H v (toPy a) ∧ (D.depth a ≤ 60 → SeqAt.shaped (toPy a) = true) := by
  cases d with
  | cell n =>
    have e2 : (lstOf S (.cell n)).map D.lst = some a := e
    cases q : lstOf S (.cell n) with
    | none => rw [q] at e2; cases e2
    | some xs =>
      rw [q] at e2
      cases e2
      obtain ⟨p, vs, rfl, hs, rs⟩ := r.lst_of t q
      exact ⟨.lst hs (rs.dp f), fun z => shaped_pys rs (by have : D.depths xs + 1 ≤ 60 := z; omega)⟩
  | _ => cases e; exact ⟨r.dp f, fun z => shaped_py r (by omega)⟩
theorem eqD_cases {S : Store} {a b : D} {t : Bool} (h : eqD S a b = some t) : ∃ c d, dataOf S a = some c ∧ dataOf S b = some d ∧ c.free = true ∧ d.free = true ∧ D.depth c ≤ 60 ∧ D.depth d ≤ 60 ∧ t = D.eqv c d := by
  unfold eqD at h
  split at h
  · split at h
    · rename_i c
      cases h
      simp only [Bool.and_eq_true, decide_eq_true_eq] at c
      exact ⟨_, _, by assumption, by assumption, c.1.1.1, c.1.1.2, c.1.2, c.2, rfl⟩
    · cases h
  · cases h
theorem op_cmpEq (hu : X.A.units + 64 < cLine) : OpR X (compareOp .Eq) (rCmp X.K .eq) := by
  refine OpR.imp' (op_eqD hu) ?_
  rintro x y H Q ⟨B, m, S, a, b, t, t0, ra, rb, e, q⟩
  obtain ⟨c, d, e1, e2, f1, f2, d1, d2, rfl⟩ := eqD_cases e
  refine ⟨toPy c, toPy d, (ra.data t0 e1 f1).1, (rb.data t0 e2 f2).1, (ra.data t0 e1 f1).2 d1, (rb.data t0 e2 f2).2 d2, ?_⟩
  rw [eqv_py c d f1 f2]
  exact q
theorem map_not {o : Option Bool} {t : Bool} (h : o.map (!·) = some t) : ∃ s, o = some s ∧ t = !s := by
  cases o with
  | none => cases h
  | some s => cases h; exact ⟨s, rfl, rfl⟩
theorem op_cmpNe (hu : X.A.units + 64 < cLine) : OpR X (compareOp .NotEq) (rCmp X.K .ne) := by
  refine OpR.imp' (op_neD hu) ?_
  rintro x y H Q ⟨B, m, S, a, b, t, t0, ra, rb, e, q⟩
  obtain ⟨s, e0, rfl⟩ := map_not e
  obtain ⟨c, d, e1, e2, f1, f2, d1, d2, rfl⟩ := eqD_cases e0
  refine ⟨toPy c, toPy d, (ra.data t0 e1 f1).1, (rb.data t0 e2 f2).1, (ra.data t0 e1 f1).2 d1, (rb.data t0 e2 f2).2 d2, ?_⟩
  rw [eqv_py c d f1 f2]
  exact q
theorem op_cmpI {o : Co} {f : Value → Value → Sem Value} {g : Int → Int → Bool} (hr : OpR X f (rI0 fun i j => .bl (g i j))) (hc : ∀ S a b, cmpD S o a b = ltD g a b) : OpR X f (rCmp X.K o) := by
  refine OpR.imp' hr ?_
  rintro x y H Q ⟨B, m, S, a, b, t, t0, ra, rb, e, q⟩
  rw [hc] at e
  unfold ltD at e
  split at e
  · cases e
    exact ⟨_, _, ra.int_of, rb.int_of, q⟩
  · cases e
theorem flat_V {K : Fg} {B m : List Addr} {H : Hp} {d : D} {v : V} (r : RelD K B m H d v) (f : d.flat = true) : flatV v = true := by
  cases r <;> first | rfl | exact nomatch f
theorem flats_V {K : Fg} {B m : List Addr} {H : Hp} : ∀ {ds : List D} {vs : List V}, RelDs K B m H ds vs → ds.all D.flat = true → vs.all flatV = true
  | _, _, .nil, _ => rfl
  | _, _, .cons r s, f => by
    have f2 := Bool.and_eq_true_iff.mp f
    show (flatV _ && List.all _ flatV) = true
    rw [flat_V r f2.1, flats_V s f2.2]
    rfl
theorem eqV_flat {K : Fg} {B m : List Addr} {H : Hp} {d e : D} {v u : V} (r : RelD K B m H d v) (q : RelD K B m H e u) (f : d.flat = true) (g : e.flat = true) : eqV v u = D.eqv d e := by
  cases r with
  | tup _ _ => exact absurd f Bool.false_ne_true
  | lst _ _ => exact absurd f Bool.false_ne_true
  | ro _ _ => exact absurd f Bool.false_ne_true
  | cell _ => exact absurd f Bool.false_ne_true
  | non => cases q <;> rfl
  | bl a => cases q <;> rfl
  | int i => cases q <;> first | rfl | (show (i == _) = beqI _ i; unfold beqI; exact Bool.beq_comm)
  | str x h => cases q <;> first | rfl | exact SO_beq _ _
theorem inV_flat {K : Fg} {B m : List Addr} {H : Hp} {x : D} {v : V} (q : RelD K B m H x v) (g : x.flat = true) : ∀ {ds : List D} {vs : List V}, RelDs K B m H ds vs → ds.all D.flat = true → inV v vs = memD x ds
  | _, _, .nil, _ => rfl
  | _, _, .cons r s, f => by
    have f2 := Bool.and_eq_true_iff.mp f
    show (eqV _ _ || inV v _) = (D.eqv _ _ || memD x _)
    rw [eqV_flat r q f2.1 g, inV_flat q g s f2.2]
theorem inD_cases {S : Store} {a b : D} {t : Bool} (h : inD S a b = some t) : (∃ c y, a = .str [c] ∧ b = .str y ∧ t = y.contains c) ∨ (∃ ys, b = .tup ys ∧ a.flat = true ∧ ys.all D.flat = true ∧ t = memD a ys) ∨
    (∃ ys, lstOf S b = some ys ∧ a.free = true ∧ D.frees ys = true ∧ D.depth a ≤ 60 ∧ D.depths ys ≤ 60 ∧ t = memD a ys) := by
  unfold inD at h
  split at h
  · split at h
    · cases h; exact .inl ⟨_, _, rfl, rfl, rfl⟩
    · cases h
  · split at h
    · rename_i c
      cases h
      simp only [Bool.and_eq_true] at c
      exact .inr (.inl ⟨_, rfl, c.1, c.2, rfl⟩)
    · cases h
  · split at h
    · split at h
      · rename_i c
        cases h
        simp only [Bool.and_eq_true, decide_eq_true_eq] at c
        exact .inr (.inr ⟨_, by assumption, c.1.1.1, c.1.1.2, c.1.2, c.2, rfl⟩)
      · cases h
    · cases h
theorem one_in (c : Nat) (y : List Nat) : (!(Builtin.Str.occurrences (SO y) (SO [c]) 0 (SO y).length 1).isEmpty) = y.contains c := by
  rw [show (Builtin.Str.occurrences (SO y) (SO [c]) 0 (SO y).length 1).isEmpty = !decide (c ∈ (SO y).cps.toList) from empty_one (SO y) c, Bool.not_not]
  simp [SO]
theorem op_cmpIn (hu : X.A.units + 65 < cLine) : OpR X (compareOp .In) (rCmp X.K .isIn) := by
  have h1 : OpR X (compareOp .In) _ := OpR.or op_in_str (OpR.or op_in_seq (op_inD hu))
  refine OpR.imp' h1 ?_
  rintro x y H Q ⟨B, m, S, a, b, t, t0, ra, rb, e, q⟩
  rcases inD_cases e with ⟨c, z, rfl, rfl, rfl⟩ | ⟨ys, rfl, f1, f2, rfl⟩ | ⟨ys, e1, f1, f2, d1, d2, rfl⟩
  · refine .inl ⟨_, _, ra.str_of, rb.str_of, ?_⟩
    rw [one_in]
    exact q
  · obtain ⟨p, vs, rfl, hs, rs⟩ := rb.tup_of
    refine .inr (.inl ⟨p, vs, rfl, .inr hs, flat_V ra f1, flats_V rs f2, ?_⟩)
    rw [if_neg Bool.false_ne_true, inV_flat ra f1 rs f2]
    exact q
  · obtain ⟨p, vs, rfl, hs, rs⟩ := rb.lst_of t0 e1
    refine .inr (.inr ⟨toPy a, toPys ys, ra.dp f1, .lst hs (rs.dp f2), shaped_py ra (by omega), shaped_pys rs (by omega), ?_⟩)
    rw [mem_py f1 ys f2]
    exact q
theorem op_cmpNotIn (hu : X.A.units + 65 < cLine) : OpR X (compareOp .NotIn) (rCmp X.K .notIn) := by
  have h1 : OpR X (compareOp .NotIn) _ := OpR.or op_notin_str (OpR.or op_notIn_seq (op_notInD hu))
  refine OpR.imp' h1 ?_
  rintro x y H Q ⟨B, m, S, a, b, t, t0, ra, rb, e, q⟩
  obtain ⟨s, e0, rfl⟩ := map_not e
  rcases inD_cases e0 with ⟨c, z, rfl, rfl, rfl⟩ | ⟨ys, rfl, f1, f2, rfl⟩ | ⟨ys, e1, f1, f2, d1, d2, rfl⟩
  · refine .inl ⟨_, _, ra.str_of, rb.str_of, ?_⟩
    rw [one_in]
    exact q
  · obtain ⟨p, vs, rfl, hs, rs⟩ := rb.tup_of
    refine .inr (.inl ⟨p, vs, rfl, .inr hs, flat_V ra f1, flats_V rs f2, ?_⟩)
    rw [if_pos rfl, inV_flat ra f1 rs f2]
    exact q
  · obtain ⟨p, vs, rfl, hs, rs⟩ := rb.lst_of t0 e1
    refine .inr (.inr ⟨toPy a, toPys ys, ra.dp f1, .lst hs (rs.dp f2), shaped_py ra (by omega), shaped_pys rs (by omega), ?_⟩)
    rw [mem_py f1 ys f2]
    exact q
theorem coOp (hu : X.A.units + 65 < cLine) : (o : Co) → OpR X (compareOp (coOf o)) (rCmp X.K o)
  | .eq => op_cmpEq (by omega) | .ne => op_cmpNe (by omega) | .lt => op_cmpI op_lt fun _ _ _ => rfl | .le => op_cmpI op_le fun _ _ _ => rfl
  | .gt => op_cmpI op_gt fun _ _ _ => rfl | .ge => op_cmpI op_ge fun _ _ _ => rfl | .isIn => op_cmpIn hu | .notIn => op_cmpNotIn hu
end
end Fb
set_option Elab.async false
set_option linter.all false
set_option maxRecDepth 100000
set_option maxHeartbeats 2000000
/-! Fb5: truth, subscripts, slices, built-ins, methods by values. -/
namespace Fb
open PySem PySem.Spec PyProof.Rows L2
section
variable {K : Fg} {B m : List Addr} {H H0 : Hp} {S : Store}
theorem seq_isEmpty {ds : List D} {vs : List V} (r : RelDs K B m H ds vs) : ds.isEmpty = vs.isEmpty := by cases r <;> rfl
theorem RelD.truth (t : At K B m S H) {d : D} {v : V} {b : Bool} (r : RelD K B m H d v) (e : truthD S d = some b) : TruV K v H b := by
  have seq : ∀ xs, seqOf S d = some xs → (some !xs.isEmpty) = some b → TruV K v H b := fun xs e1 e2 => by
    obtain ⟨a, vs, rfl, hs, rs⟩ := r.seq_of t e1
    cases e2
    rcases hs with hs | hs
    · exact .inl ⟨vs, hs, by rw [seq_isEmpty rs]⟩
    · exact .inr (.inl ⟨vs, hs, by rw [seq_isEmpty rs]⟩)
  cases d with
  | non => cases r; cases e; rfl
  | bl c => cases r; cases e; rfl
  | int i => cases r; cases e; rfl
  | str x =>
    cases r
    have e : (if x.length ≤ SL then some (!x.isEmpty) else none) = some b := e
    split at e
    · cases e
      refine ⟨by rw [SO_len, ← SL_eq]; assumption, ?_⟩
      rw [SO_len]
      cases x with
      | nil => rfl
      | cons c r => simp; omega
    · cases e
  | tup xs => exact seq xs rfl e
  | lst xs => exact seq xs rfl e
  | ro xs => exact seq xs rfl e
  | cell n =>
    have e : (seqOf S (.cell n)).map (fun xs => !xs.isEmpty) = some b := e
    cases q : seqOf S (.cell n) with
    | none => rw [q] at e; cases e
    | some xs => rw [q] at e; exact seq xs q e
theorem ixL_at {α : Type} (xs : List α) (i : Int) : ixL xs i = atI xs i := by
  unfold ixL atI ixN
  by_cases h : i < 0
  · rw [if_pos h, if_neg (show ¬ 0 ≤ i by omega)]
    by_cases h2 : i + xs.length < 0
    · rw [if_pos h2, if_neg (show ¬ -(xs.length : Int) ≤ i by omega)]; rfl
    · rw [if_neg h2, if_pos (show -(xs.length : Int) ≤ i by omega)]; rfl
  · rw [if_neg h, if_pos (show 0 ≤ i by omega)]
    by_cases h2 : i < xs.length
    · rw [if_pos h2]; rfl
    · rw [if_neg h2, List.getElem?_eq_none (by omega)]; rfl
theorem atI_rel {ds : List D} {vs : List V} {i : Int} {d : D} (r : RelDs K B m H ds vs) (e : ixL ds i = some d) : ∃ v, atI vs i = some v ∧ RelD K B m H d v := by
  rw [ixL_at] at e
  unfold atI at *
  rw [← r.len]
  cases q : ixN ds.length i with
  | none => rw [q] at e; cases e
  | some j =>
    rw [q] at e
    obtain ⟨v, h1, h2⟩ := r.get (i := j) e
    exact ⟨v, h1, h2⟩
theorem cut1_eq (n d : Nat) (o : Option Int) : cut1 n o d = HT.sIx n d o := by cases o <;> rfl
theorem cutL_V {ds : List D} {vs : List V} (r : RelDs K B m H ds vs) (lo hi : Option Int) : RelDs K B m H (cutL ds lo hi) (cutV vs lo hi) := by
  unfold cutL cutV
  rw [cut1_eq, cut1_eq, r.len]
  exact (r.drop _).take _
end
/-! ### subscripts -/
def rIdx (K : Fg) : R2 := fun x y H Q => ∃ B m S a b d, At K B m S H ∧ RelD K B m H a x ∧ RelD K B m H b y ∧ (∃ S', idxM a b S = .ok d S') ∧ ∀ v, RelD K B m H d v → Q v H
section
variable {X : Cx}
theorem idx_cases {S S' : Store} {a b d : D} (h : idxM a b S = .ok d S') : S' = S ∧ ((∃ z i c, a = .str z ∧ b = .int i ∧ z.length ≤ SL ∧ ixL z i = some c ∧ d = .str [c]) ∨ ∃ xs i, seqOf S a = some xs ∧ b = .int i ∧ ixL xs i = some d) := by
  unfold idxM at h
  split at h
  · split at h
    · cases e : ixL _ _ with
      | none => rw [e] at h; cases h
      | some c => rw [e] at h; cases h; exact ⟨rfl, .inl ⟨_, _, c, rfl, rfl, by assumption, e, rfl⟩⟩
    · cases h
  · split at h
    · cases e : ixL _ _ with
      | none => rw [e] at h; cases h
      | some c => rw [e] at h; cases h; exact ⟨rfl, .inr ⟨_, _, by assumption, rfl, e⟩⟩
    · cases h
  · cases h
theorem op_idx : IxR X (rIdx X.K) := by
  have h1 : IxR X (rIx X.K) := ix_seq
  intro value slice pins s σ H x y v u Q I rx ry h hs
  refine h1 value slice pins s σ H x y v u Q I rx ry ?_ hs
  obtain ⟨B, m, S, a, b, d, t, ra, rb, ⟨S', e⟩, q⟩ := h
  obtain ⟨rfl, e0⟩ := idx_cases e
  clear e
  rcases e0 with ⟨z, i, c, rfl, rfl, hz, e, rfl⟩ | ⟨xs, i, e1, rfl, e2⟩
  · refine .inr (.inr ⟨SO z, i, c, ra.str_of, rb.int_of, by rw [SO_len, ← SL_eq]; exact hz, ?_, ?_⟩)
    · show atI z.toArray.toList i = some c
      rw [← ixL_at]
      exact e
    · refine q _ (.str _ ?_)
      refine okS_sub ra.str_ok fun k hk => ?_
      rw [List.mem_singleton.mp hk]
      rw [ixL_at] at e
      unfold atI at e
      cases q2 : ixN z.length i with
      | none => rw [q2] at e; cases e
      | some j => rw [q2] at e; exact List.mem_of_getElem? e
  · obtain ⟨p, vs, rfl, hq, rs⟩ := ra.seq_of t e1
    obtain ⟨v2, h2, r2⟩ := atI_rel rs e2
    rcases hq with hq | hq
    · exact .inl ⟨p, vs, i, v2, rfl, rb.int_of, hq, h2, q _ r2⟩
    · exact .inr (.inl ⟨p, vs, i, v2, rfl, rb.int_of, hq, h2, q _ r2⟩)
/-! ### slices -/
def rCut (K : Fg) : V → Option Int → Option Int → Hp → VK → Prop := fun x lo hi H Q => ∃ B m S a H0 d, At K B m S H ∧ RelD K B m H a x ∧ (∀ p, H p = none → H0 p = none) ∧
  cutD S a lo hi = some d ∧ ∃ Z W, FinG K Z B m H W (.ok d S) (PD K B H0 true Q)
theorem cutS_SO (z : List Nat) (lo hi : Option Int) : cutS (SO z) lo hi = SO (cutL z lo hi) := by
  unfold cutS cutL
  rw [SO_len, cut1_eq, cut1_eq]
theorem cutL_mem {α : Type} {xs : List α} {lo hi : Option Int} {c : α} (h : c ∈ cutL xs lo hi) : c ∈ xs := List.mem_of_mem_drop (List.mem_of_mem_take h)
theorem SlR.imp' {r r' : V → Option Int → Option Int → Hp → VK → Prop} (h : SlR X r) (i : ∀ x lo hi H Q, r' x lo hi H Q → r x lo hi H Q) : SlR X r' :=
  fun pins s σ H x v vl vu lo hi sl Q I rx hs pl pu q => h pins s σ H x v vl vu lo hi sl Q I rx hs pl pu (i _ _ _ _ _ q)
theorem cutD_cases {S : Store} {a d : D} {lo hi : Option Int} (h : cutD S a lo hi = some d) : (∃ z, a = .str z ∧ z.length ≤ SL ∧ d = .str (cutL z lo hi)) ∨ (∃ xs, a = .tup xs ∧ d = .tup (cutL xs lo hi)) ∨ (∃ xs, lstOf S a = some xs ∧ d = .lst (cutL xs lo hi)) := by
  unfold cutD at h
  split at h
  · split at h
    · cases h; exact .inl ⟨_, rfl, by assumption, rfl⟩
    · cases h
  · cases h; exact .inr (.inl ⟨_, rfl, rfl⟩)
  · cases e : lstOf S a with
    | none => rw [e] at h; cases h
    | some xs => rw [e] at h; cases h; exact .inr (.inr ⟨xs, rfl, rfl⟩)
theorem op_cut : SlR X (rCut X.K) := by
  have h1 : SlR X _ := SlR.or sl_str (SlR.or sl_tupA sl_list)
  refine SlR.imp' h1 ?_
  rintro x lo hi H Q ⟨B, m, S, a, H0, d, t, ra, hn, e, Z, W, h⟩
  rcases cutD_cases e with ⟨z, rfl, hz, rfl⟩ | ⟨xs, rfl, rfl⟩ | ⟨xs, e1, rfl⟩
  · refine .inl ⟨SO z, ra.str_of, by rw [SO_len, ← SL_eq]; exact hz, ?_⟩
    rw [cutS_SO]
    exact fin_plain t h (.str _ (okS_sub ra.str_ok fun c hc => cutL_mem hc)) fun _ e => nomatch e
  · obtain ⟨p, vs, rfl, hq, rs⟩ := ra.tup_of
    refine .inr (.inl ⟨p, vs, rfl, hq, fun e => ?_, fun _ p hp => fin_tup t h hp (cutL_V rs lo hi)⟩)
    have e0 : cutL xs lo hi = xs := by
      unfold cutL
      rw [cut1_eq, cut1_eq, rs.len, e.1, e.2, List.drop_zero, Nat.sub_zero, ← rs.len, List.take_length]
    rw [e0] at h
    exact fin_plain t h ra fun _ e => nomatch e
  · obtain ⟨p, vs, rfl, hq, rs⟩ := ra.lst_of t e1
    exact .inr (.inr ⟨p, vs, rfl, hq, fun p hp => fin_lst t hn h hp (cutL_V rs lo hi)⟩)

/-! ### built-ins -/
/-- a call of a built-in by values -/
def rBlt (K : Fg) (b : Bt) : List V → Hp → VK → Prop := fun xs H Q => ∃ B m S as H0 d, At K B m S H ∧ RelDs K B m H as xs ∧ (∀ p, H p = none → H0 p = none) ∧ bltD S b as = some d ∧ ∃ Z W, FinG K Z B m H W (.ok d S) (PD K B H0 true Q)
theorem CallR.imp' {f : Value} {r r' : List V → Hp → VK → Prop} (h : CallR X f r) (i : ∀ xs H Q, r' xs H Q → r xs H Q) : CallR X f r' :=
  fun pins s σ H xs us Q I rx q => h pins s σ H xs us Q I rx (i _ _ _ q)
theorem RelDs.one {K : Fg} {B m : List Addr} {H : Hp} {d : D} {vs : List V} (r : RelDs K B m H [d] vs) : ∃ v, vs = [v] ∧ RelD K B m H d v := by
  cases r with
  | cons r s => cases s; exact ⟨_, rfl, r⟩
theorem RelDs.two {K : Fg} {B m : List Addr} {H : Hp} {d e : D} {vs : List V} (r : RelDs K B m H [d, e] vs) : ∃ v u, vs = [v, u] ∧ RelD K B m H d v ∧ RelD K B m H e u := by
  cases r with
  | cons r s =>
    obtain ⟨u, rfl, q⟩ := s.one
    exact ⟨_, u, rfl, r, q⟩
theorem blt_len : CallR X (.builtin "len") (rBlt X.K .len) := by
  refine CallR.imp' call_len ?_
  rintro xs H Q ⟨B, m, S, as, H0, d, t, r, hn, e, Z, W, h⟩
  have seq : ∀ x ys, as = [x] → seqOf S x = some ys → d = .int ys.length → ∃ x n, xs = [x] ∧ LenV X.K x H n ∧ Q (.int n) H := by
    rintro x ys rfl e1 rfl
    obtain ⟨v, rfl, rv⟩ := r.one
    obtain ⟨p, vs, rfl, hq, rs⟩ := rv.seq_of t e1
    refine ⟨_, ys.length, rfl, hq.imp (fun q => ⟨vs, q, rs.len⟩) (fun q => ⟨vs, q, rs.len⟩), fin_plain t h (.int _) fun _ e => nomatch e⟩
  unfold bltD at e
  split at e <;> try contradiction
  · split at e
    · cases e
      obtain ⟨v, rfl, rv⟩ := r.one
      refine ⟨_, _, rfl, ?_, fin_plain t h (.int _) fun _ e => nomatch e⟩
      rw [rv.str_of]
      exact ⟨by rw [SO_len, ← SL_eq]; assumption, (SO_len _).symm⟩
    · cases e
  · cases q : seqOf S _ with
    | none => rw [q] at e; cases e
    | some ys => rw [q] at e; cases e; exact seq _ ys rfl q rfl
theorem blt_int : CallR X (.type "int") (rBlt X.K .int) := by
  refine CallR.imp' call_int1 ?_
  rintro xs H Q ⟨B, m, S, as, H0, d, t, r, hn, e, Z, W, h⟩
  unfold bltD at e
  split at e <;> try contradiction
  · cases e
    obtain ⟨v, rfl, rv⟩ := r.one
    exact .inl ⟨_, by rw [rv.int_of], fin_plain t h (.int _) fun _ e => nomatch e⟩
  · cases e
    obtain ⟨v, rfl, rv⟩ := r.one
    exact .inr ⟨_, by rw [rv.bl_of], fin_plain t h (.int _) fun _ e => nomatch e⟩
theorem blt_abs : CallR X (.builtin "abs") (rBlt X.K .abs) := by
  refine CallR.imp' call_abs ?_
  rintro xs H Q ⟨B, m, S, as, H0, d, t, r, hn, e, Z, W, h⟩
  unfold bltD at e
  split at e <;> try contradiction
  cases e
  obtain ⟨v, rfl, rv⟩ := r.one
  exact ⟨_, by rw [rv.int_of], fin_plain t h (.int _) fun _ e => nomatch e⟩
theorem blt_min (hc : X.calm = true) : CallR X (.builtin "min") (rBlt X.K .min) := by
  refine CallR.imp' (call_min2 hc) ?_
  rintro xs H Q ⟨B, m, S, as, H0, d, t, r, hn, e, Z, W, h⟩
  unfold bltD at e
  split at e <;> try contradiction
  cases e
  obtain ⟨v, u, rfl, rv, ru⟩ := r.two
  exact ⟨_, _, by rw [rv.int_of, ru.int_of], fin_plain t h (.int _) fun _ e => nomatch e⟩
theorem blt_max (hc : X.calm = true) : CallR X (.builtin "max") (rBlt X.K .max) := by
  refine CallR.imp' (call_max2 hc) ?_
  rintro xs H Q ⟨B, m, S, as, H0, d, t, r, hn, e, Z, W, h⟩
  unfold bltD at e
  split at e <;> try contradiction
  cases e
  obtain ⟨v, u, rfl, rv, ru⟩ := r.two
  exact ⟨_, _, by rw [rv.int_of, ru.int_of], fin_plain t h (.int _) fun _ e => nomatch e⟩
theorem seqOf_cases {S : Store} {d : D} {xs : List D} (h : seqOf S d = some xs) : d = .tup xs ∨ lstOf S d = some xs := by
  cases d <;> first | (cases h; exact .inl rfl) | exact .inr h
theorem blt_tuple : CallR X (.type "tuple") (rBlt X.K .tuple) := by
  refine CallR.imp' call_tuple_of ?_
  rintro xs H Q ⟨B, m, S, as, H0, d, t, r, hn, e, Z, W, h⟩
  unfold bltD at e
  split at e <;> try contradiction
  obtain ⟨v, rfl, rv⟩ := r.one
  cases q : seqOf S _ with
  | none => rw [q] at e; cases e
  | some ys =>
    rw [q] at e
    cases e
    rcases seqOf_cases q with rfl | q
    · obtain ⟨p, vs, rfl, hq, rs⟩ := rv.tup_of
      exact ⟨p, vs, rfl, .inr ⟨hq, fin_plain t h rv fun _ e => nomatch e⟩⟩
    · obtain ⟨p, vs, rfl, hq, rs⟩ := rv.lst_of t q
      exact ⟨p, vs, rfl, .inl ⟨hq, fun l hl => fin_tup t h hl rs⟩⟩
theorem blt_list : CallR X (.type "list") (rBlt X.K .list) := by
  refine CallR.imp' call_list_of ?_
  rintro xs H Q ⟨B, m, S, as, H0, d, t, r, hn, e, Z, W, h⟩
  unfold bltD at e
  split at e <;> try contradiction
  obtain ⟨v, rfl, rv⟩ := r.one
  cases q : seqOf S _ with
  | none => rw [q] at e; cases e
  | some ys =>
    rw [q] at e
    cases e
    obtain ⟨p, vs, rfl, hq, rs⟩ := rv.seq_of t q
    exact ⟨p, vs, rfl, hq, fun l hl => fin_lst t hn h hl rs⟩
theorem bools_V {K : Fg} {B m : List Addr} {H : Hp} : ∀ {ds : List D} {vs : List V} {bs : List Bool}, RelDs K B m H ds vs → boolsOf ds = some bs → vs = bs.map V.bl
  | _, _, _, .nil, e => by cases e; rfl
  | d :: ds, _, bs, .cons r s, e => by
    cases d with
    | bl b =>
      have e : (boolsOf ds).map (b :: ·) = some bs := e
      cases q : boolsOf ds with
      | none => rw [q] at e; cases e
      | some cs => rw [q] at e; cases e; rw [bools_V s q, r.bl_of]; rfl
    | _ => cases e
theorem ints_V {K : Fg} {B m : List Addr} {H : Hp} : ∀ {ds : List D} {vs : List V} {bs : List Int}, RelDs K B m H ds vs → intsOf ds = some bs → vs = bs.map V.int
  | _, _, _, .nil, e => by cases e; rfl
  | d :: ds, _, bs, .cons r s, e => by
    cases d with
    | int b =>
      have e : (intsOf ds).map (b :: ·) = some bs := e
      cases q : intsOf ds with
      | none => rw [q] at e; cases e
      | some cs => rw [q] at e; cases e; rw [ints_V s q, r.int_of]; rfl
    | _ => cases e
theorem strs_V {K : Fg} {B m : List Addr} {H : Hp} : ∀ {ds : List D} {vs : List V} {bs : List (List Nat)}, RelDs K B m H ds vs → strsOf ds = some bs → vs = (bs.map SO).map V.str ∧ ∀ z ∈ bs, okS z = true
  | _, _, _, .nil, e => by cases e; exact ⟨rfl, fun _ h => by cases h⟩
  | d :: ds, _, bs, .cons r s, e => by
    cases d with
    | str b =>
      have e : (strsOf ds).map (b :: ·) = some bs := e
      cases q : strsOf ds with
      | none => rw [q] at e; cases e
      | some cs =>
        rw [q] at e
        cases e
        obtain ⟨e1, e2⟩ := strs_V s q
        refine ⟨by rw [e1, r.str_of]; rfl, fun z hz => ?_⟩
        rcases List.mem_cons.mp hz with e3 | e3
        · rw [e3]; exact r.str_ok
        · exact e2 z e3
    | _ => cases e
theorem blt_all (hc : X.calm = true) : CallR X (.builtin "all") (rBlt X.K .all) := by
  refine CallR.imp' (cr_all hc) ?_
  rintro xs H Q ⟨B, m, S, as, H0, d, t, r, hn, e, Z, W, h⟩
  unfold bltD at e
  split at e <;> try contradiction
  obtain ⟨v, rfl, rv⟩ := r.one
  split at e
  · rename_i ys q
    cases q2 : boolsOf ys with
    | none => rw [q2] at e; cases e
    | some bs =>
      rw [q2] at e
      cases e
      obtain ⟨p, vs, rfl, hq, rs⟩ := rv.lst_of t q
      rw [bools_V rs q2] at hq
      exact ⟨p, bs, rfl, hq, fin_plain t h (.bl _) fun _ e => nomatch e⟩
  · cases e
theorem blt_any (hc : X.calm = true) : CallR X (.builtin "any") (rBlt X.K .any) := by
  refine CallR.imp' (cr_any hc) ?_
  rintro xs H Q ⟨B, m, S, as, H0, d, t, r, hn, e, Z, W, h⟩
  unfold bltD at e
  split at e <;> try contradiction
  obtain ⟨v, rfl, rv⟩ := r.one
  split at e
  · rename_i ys q
    cases q2 : boolsOf ys with
    | none => rw [q2] at e; cases e
    | some bs =>
      rw [q2] at e
      cases e
      obtain ⟨p, vs, rfl, hq, rs⟩ := rv.lst_of t q
      rw [bools_V rs q2] at hq
      exact ⟨p, bs, rfl, hq, fin_plain t h (.bl _) fun _ e => nomatch e⟩
  · cases e
theorem blt_sum (hc : X.calm = true) : CallR X (.builtin "sum") (rBlt X.K .sum) := by
  refine CallR.imp' (cr_sum hc) ?_
  rintro xs H Q ⟨B, m, S, as, H0, d, t, r, hn, e, Z, W, h⟩
  unfold bltD at e
  split at e <;> try contradiction
  obtain ⟨v, rfl, rv⟩ := r.one
  split at e
  · rename_i ys q
    cases q2 : intsOf ys with
    | none => rw [q2] at e; cases e
    | some bs =>
      rw [q2] at e
      cases e
      obtain ⟨p, vs, rfl, hq, rs⟩ := rv.lst_of t q
      rw [ints_V rs q2] at hq
      exact ⟨p, bs, rfl, hq, fin_plain t h (.int _) fun _ e => nomatch e⟩
  · cases e
end
end Fb
set_option Elab.async false
set_option linter.all false
set_option maxRecDepth 100000
set_option maxHeartbeats 2000000
/-! Fb5b: str(), isinstance, methods of lists and texts by values. -/
namespace Fb
open PySem PySem.Spec PyProof.Rows L2 TL
theorem SO_tl (x : Str) : SO (tl x) = x := mk_tl x
theorem repr_neg (n : Nat) : toString (Int.negSucc n) = "-" ++ toString (n + 1) := rfl
theorem int_text (i : Int) : Str.ofString (toString i) = SO (intText i) := by
  rw [← SO_tl (Str.ofString (toString i))]
  refine congrArg SO ?_
  cases i with
  | ofNat n =>
    rw [show tl (Str.ofString (toString (Int.ofNat n))) = numL n from tl_num n]
    rfl
  | negSucc n =>
    rw [repr_neg, tl_ofString, String.toList_append, List.map_append]
    have e : (toString (n + 1)).toList.map Char.toNat = numL (n + 1) := by
      have h := tl_num (n + 1)
      rw [tl_ofString] at h
      exact h
    rw [e]
    unfold intText
    rw [if_pos (Int.negSucc_lt_zero n)]
    have e2 : List.map Char.toNat "-".toList = [45] := by decide
    rw [e2]
    rfl
theorem digits_ok (n : Nat) : okS (numL n) = true := List.all_eq_true.mpr fun c hc => by
  have h := numL_digits n
  have h2 : 48 ≤ c ∧ c ≤ 57 := by
    by_cases h3 : c < 48 ∨ 57 < c
    · exact absurd hc (numL_free h3)
    · omega
  exact decide_eq_true (by omega)
theorem intText_ok (i : Int) : okS (intText i) = true := by
  unfold intText
  split
  · show okS ([45] ++ digitsOf i.natAbs) = true
    exact okS_app rfl (digits_ok i.natAbs)
  · exact digits_ok i.natAbs
section
variable {X : Cx}
theorem blt_str : CallR X (.type "str") (rBlt X.K .str) := by
  have h1 : CallR X (.type "str") _ := CallR.or call_str_int SkE.call_str_str
  refine CallR.imp' h1 ?_
  rintro xs H Q ⟨B, m, S, as, H0, d, t, r, hn, e, Z, W, h⟩
  unfold bltD at e
  split at e <;> try contradiction
  · split at e
    · cases e
      obtain ⟨v, rfl, rv⟩ := r.one
      refine .inl ⟨_, by rw [rv.int_of], by assumption, ?_⟩
      rw [int_text]
      exact fin_plain t h (.str _ (intText_ok _)) fun _ e => nomatch e
    · cases e
  · cases e
    obtain ⟨v, rfl, rv⟩ := r.one
    exact .inr ⟨_, by rw [rv.str_of], by rw [← rv.str_of]; exact fin_plain t h rv fun _ e => nomatch e⟩
end
/-! ### isinstance -/
def tyN : D → String
  | .non => "NoneType" | .bl _ => "bool" | .int _ => "int" | .str _ => "str" | .tup _ => "tuple" | .lst _ => "list" | .ro _ => "list" | .cell _ => "list"
def tyS : Ty → String
  | .str => "str" | .int => "int" | .bool => "bool" | .tup => "tuple" | .lst => "list"
def D.isT : D → Ty → Bool
  | .str _, .str => true
  | .int _, .int => true
  | .bl _, .int => true
  | .bl _, .bool => true
  | .tup _, .tup => true
  | .lst _, .lst => true
  | .ro _, .lst => true
  | .cell _, .lst => true
  | _, _ => false
section
variable {K : Fg} {B m : List Addr} {H : Hp} {S : Store}
theorem RelD.tyx (t : At K B m S H) {d : D} {v : V} (r : RelD K B m H d v) : TyX K H v (.type (tyN d)) := by
  cases r with
  | non => exact .base .non
  | bl b => exact .base (.bl b)
  | int i => exact .base (.int i)
  | str x h => exact .base (.str _)
  | tup q _ =>
    rcases q with ⟨h | ⟨o, h⟩, _⟩ | ⟨o, its, n, h, c, _⟩
    · exact .base (.tup h)
    · exact .fTuple h
    · exact .kTuple h c
  | lst q _ => exact .base (.lst q.1)
  | ro q _ =>
    rcases q with ⟨h | ⟨o, h⟩, _⟩ | ⟨o, its, n, h, c, _⟩
    · exact .base (.lst h)
    · exact .base (.frz h)
    · exact .kList h c
  | cell e =>
    obtain ⟨vs, h⟩ := t.mlive (List.mem_of_getElem? e)
    exact .base (.lst h)
theorem isT_isTy (t : At K B m S H) {d : D} {v : V} (r : RelD K B m H d v) (y : Ty) : D.isTy S d y = D.isT d y := by
  cases r with
  | @cell n a e =>
    cases y <;> first | rfl | skip
    have hn : n < S.length := by rw [t.len]; exact (List.getElem?_eq_some_iff.mp e).1
    show (ownOf S (.cell n)).isSome = true
    show (match S[n]? with
      | some (.lst xs) => some xs
      | none => none).isSome = true
    rw [List.getElem?_eq_getElem hn]
    cases S[n] with
    | lst xs => rfl
  | _ => cases y <;> rfl
end
theorem kit_eq (K : Fg) (d : D) (y : Ty) : PySem.W.kitOne K (.type (tyN d)) (.type (tyS y)) = some (D.isT d y) := by
  cases d <;> cases y <;> first | rfl | kernel_rfl
theorem kit_any (K : Fg) (d : D) : ∀ ys : List Ty, PySem.W.kitAny K (.type (tyN d)) (ys.map fun y => .type (tyS y)) = some (ys.any (D.isT d))
  | [] => rfl
  | y :: ys => by
    rw [List.map_cons, List.any_cons]
    unfold PySem.W.kitAny
    rw [kit_eq]
    cases D.isT d y with
    | true => rfl
    | false => exact kit_any K d ys

section
variable {X : Cx}
/-- isinstance(x, T) -/
theorem isi_one : CallR X (.builtin "isinstance") (fun xs H Q => ∃ B m S a v y, At X.K B m S H ∧ RelD X.K B m H a v ∧ xs = [v, .ty (tyS y)] ∧ Q (.bl (D.isTy S a y)) H) := by
  refine CallR.imp' call_isi ?_
  rintro xs H Q ⟨B, m, S, a, v, y, t, r, rfl, q⟩
  rw [isT_isTy t r] at q
  exact ⟨v, _, _, _, _, rfl, .ty _, r.tyx t, kit_eq _ _ _, q⟩
theorem paired_ty : ∀ ys : List Ty, Paired ClsV (ys.map fun y => V.ty (tyS y)) (ys.map fun y => Value.type (tyS y))
  | [] => .nil
  | y :: ys => .cons (.ty _) (paired_ty ys)
theorem isi_any : CallR X (.builtin "isinstance") (fun xs H Q => ∃ B m S a v p, ∃ ys : List Ty, At X.K B m S H ∧ RelD X.K B m H a v ∧ xs = [v, .ref p] ∧ H p = some (.tup (ys.map fun y => V.ty (tyS y))) ∧ Q (.bl (ys.any (D.isTy S a))) H) := by
  refine CallR.imp' call_isiT ?_
  rintro xs H Q ⟨B, m, S, a, v, p, ys, t, r, rfl, hp, q⟩
  have e : ys.any (D.isTy S a) = ys.any (D.isT a) := by
    congr 1
    funext y
    exact isT_isTy t r y
  rw [e] at q
  exact ⟨v, p, _, _, _, _, rfl, hp, paired_ty ys, r.tyx t, kit_any _ _ _, q⟩
/-! ### methods -/
def mtT : Mt → String
  | .append => "list" | .pop => "list" | .popAt => "list" | .extend => "list" | _ => "str"
def mtN : Mt → Str
  | .append => "append" | .pop => "pop" | .popAt => "pop" | .extend => "extend" | .join => "join" | .split => "split" | .startswith => "startswith" | .upper => "upper" | .index => "index" | .count => "count"
/-- methods that hand back a new list -/
def frM : Mt → Bool
  | .split => true
  | _ => false
/-- a method by values -/
def rMth (K : Fg) (mt : Mt) : V → List V → Hp → VK → Prop := fun x xs H Q => ∃ B m S a as H0 d S', At K B m S H ∧ RelD K B m H a x ∧ RelDs K B m H as xs ∧ (∀ p, H p = none → H0 p = none) ∧
  mthD S mt a as = some (d, S') ∧ ∃ Z W, FinG K Z B m H W (.ok d S') (PD K B H0 (frM mt) Q)
theorem MtR.imp' {id : String} {r r' : V → List V → Hp → VK → Prop} (h : MtR X id r) (i : ∀ x xs H Q, r' x xs H Q → r x xs H Q) : MtR X id r' :=
  fun pins s σ H x xs v us Q I rx rv q => h pins s σ H x xs v us Q I rx rv (i _ _ _ _ q)
theorem MtM.imp' {id : String} {r r' : V → List V → Hp → VK → Prop} (h : MtM X id r) (i : ∀ x xs H Q, r' x xs H Q → r x xs H Q) : MtR X id r' :=
  fun pins s σ H x xs v us Q I rx rv q => h pins s σ H x xs v us Q I rx rv (i _ _ _ _ q)
theorem cell_at {K : Fg} {B m : List Addr} {H : Hp} {S : Store} {n : Nat} {ys : List D} {p : Addr} (t : At K B m S H) (e : S[n]? = some (.lst ys)) (hp : m[n]? = some p) : ∃ vs, H p = some (.lst vs) ∧ RelDs K B m H ys vs := t.cells n _ p e hp
theorem mt_append' : MtR X "list.append" (rMth X.K .append) := by
  refine MtM.imp' mt_append ?_
  rintro x xs H Q ⟨B, m, S, a, as, H0, d, S', t, ra, rs, hn, e, Z, W, h⟩
  unfold mthD at e
  split at e <;> try contradiction
  obtain ⟨p, rfl, hp⟩ := ra.cell_of
  obtain ⟨y, rfl, ry⟩ := rs.one
  split at e
  · split at e
    · rename_i q hz
      cases e
      obtain ⟨vs, h1, r1⟩ := cell_at t q hp
      exact ⟨p, vs, y, rfl, rfl, h1, by rw [← r1.len, ← SL_eq]; exact hz, fin_put t hp (r1.app (.cons ry .nil)) h .non (fun e => nomatch e)⟩
    · cases e
  · cases e
theorem mt_extend' : MtR X "list.extend" (rMth X.K .extend) := by
  refine MtM.imp' mt_extend ?_
  rintro x xs H Q ⟨B, m, S, a, as, H0, d, S', t, ra, rs, hn, e, Z, W, h⟩
  unfold mthD at e
  split at e <;> try contradiction
  obtain ⟨p, rfl, hp⟩ := ra.cell_of
  obtain ⟨y, rfl, ry⟩ := rs.one
  split at e
  · split at e
    · rename_i q1 q2 hz
      cases e
      obtain ⟨vs, h1, r1⟩ := cell_at t q1 hp
      obtain ⟨b, us, rfl, h2, r2⟩ := ry.own_of t q2
      exact ⟨p, b, vs, us, rfl, rfl, h1, h2, by rw [← r1.len, ← r2.len, ← SL_eq]; exact hz, fin_put t hp (r1.app r2) h .non (fun e => nomatch e)⟩
    · cases e
  · cases e
theorem mt_pop' : MtR X "list.pop" (rMth X.K .pop) := by
  refine MtM.imp' mt_pop ?_
  rintro x xs H Q ⟨B, m, S, a, as, H0, d, S', t, ra, rs, hn, e, Z, W, h⟩
  unfold mthD at e
  split at e <;> try contradiction
  obtain ⟨p, rfl, hp⟩ := ra.cell_of
  cases rs
  split at e
  · rename_i ys q
    cases q2 : ys[ys.length - 1]? with
    | none => rw [q2] at e; cases e
    | some y =>
      rw [q2] at e
      cases e
      obtain ⟨vs, h1, r1⟩ := cell_at t q hp
      obtain ⟨v, h2, r2⟩ := r1.get q2
      exact ⟨p, vs, v, rfl, rfl, h1, by rw [← r1.len]; exact h2, fin_put t hp r1.dropLast h r2 (fun e => nomatch e)⟩
  · cases e
theorem mt_popAt' : MtR X "list.pop" (rMth X.K .popAt) := by
  refine MtM.imp' mt_popAt ?_
  rintro x xs H Q ⟨B, m, S, a, as, H0, d, S', t, ra, rs, hn, e, Z, W, h⟩
  unfold mthD at e
  split at e <;> try contradiction
  obtain ⟨p, rfl, hp⟩ := ra.cell_of
  obtain ⟨y, rfl, ry⟩ := rs.one
  split at e
  · rename_i ys q
    split at e
    · rename_i hz
      cases q2 : ys[Int.toNat _]? with
      | none => rw [q2] at e; cases e
      | some y =>
        rw [q2] at e
        cases e
        obtain ⟨vs, h1, r1⟩ := cell_at t q hp
        obtain ⟨v, h2, r2⟩ := r1.get q2
        have hl := r1.len
        have hs : SL = 16777216 := rfl
        refine ⟨p, vs, _, _, v, rfl, by rw [ry.int_of], h1, by omega, by omega, ?_, h2, fin_put t hp (r1.erase _) h r2 (fun e => nomatch e)⟩
        exact (ixN_seq (by unfold ixN; rw [if_pos hz.1, if_pos (by omega)])).1
    · cases e
  · cases e
theorem join_SO (s : List Nat) (zs : List (List Nat)) : Txt.join (SO s) (zs.map SO) = SO (joinD s zs) := by
  rw [join_eq, ← SO_tl (Str.join (SO s) (zs.map SO)), tl_join]
  refine congrArg SO ?_
  have e : (zs.map SO).map tl = zs := by
    rw [List.map_map]
    exact (List.map_congr_left (fun z _ => rfl)).trans (List.map_id zs)
  rw [e]
  show joinL s zs = joinD s zs
  clear e
  induction zs with
  | nil => rfl
  | cons z r ih =>
    cases r with
    | nil => rfl
    | cons y r' =>
      show z ++ (s ++ joinL s (y :: r')) = z ++ s ++ joinD s (y :: r')
      rw [ih, List.append_assoc]
theorem join_ok {s : List Nat} (hs : okS s = true) : ∀ zs : List (List Nat), (∀ z ∈ zs, okS z = true) → okS (joinD s zs) = true
  | [], _ => rfl
  | [z], h => h z List.mem_cons_self
  | z :: y :: r, h => okS_app (okS_app (h z List.mem_cons_self) hs) (join_ok hs (y :: r) fun w hw => h w (List.mem_cons_of_mem _ hw))
theorem mt_join' : MtR X "str.join" (rMth X.K .join) := by
  refine MtR.imp' mt_join ?_
  rintro x xs H Q ⟨B, m, S, a, as, H0, d, S', t, ra, rs, hn, e, Z, W, h⟩
  unfold mthD at e
  split at e <;> try contradiction
  obtain ⟨y, rfl, ry⟩ := rs.one
  split at e
  · rename_i ys q
    split at e
    · rename_i zs q2
      split at e
      · rename_i hz
        cases e
        obtain ⟨p, vs, rfl, hq, r1⟩ := ry.seq_of t q
        obtain ⟨e1, e2⟩ := strs_V r1 q2
        rw [e1] at hq
        refine ⟨_, p, zs.map SO, ra.str_of, rfl, hq, ?_, ?_⟩
        · rw [SO_len, List.length_map, List.map_map]
          have e3 : zs.map ((fun z : Str => z.length) ∘ SO) = zs.map (·.length) := List.map_congr_left fun z _ => SO_len z
          rw [e3]
          exact hz
        · rw [join_SO]
          exact fin_plain t h (.str _ (join_ok ra.str_ok zs e2)) fun _ e => nomatch e
      · cases e
    · cases e
  · cases e
end
end Fb
set_option Elab.async false
set_option linter.all false
set_option maxRecDepth 100000
set_option maxHeartbeats 2000000
/-! Fb6: the evaluator's expressions against the layer's, construct by construct. -/
namespace Fb
open PySem PySem.Spec PyProof.Rows L2
/-- expressions whose list, if it is one, was just made -/
def isFresh : IE → Bool
  | .lst _ => true
  | .comp .. => true
  | .bin .. => true
  | .blt b _ => true
  | .sli .. => true
  | .rev _ => true
  | .mth m _ _ => frM m
  | _ => false
def Te (K : Fg) (Z : Xt) (C : Cf) (W : WX) (e : IE) : TE := fun σ H Q => ∃ B m S δ, At K B m S H ∧ RelE K B m H δ σ ∧ FinG K Z B m H (fun c d h => W c d σ h) (evE C e δ S) (PD K B H (isFresh e) Q)
def PB (Q : Bool → Hp → Prop) (b : Bool) (S' : Store) (m' : List Addr) (H' : Hp) : Prop := Q b H'
def Tb (K : Fg) (Z : Xt) (C : Cf) (W : WX) (e : IE) : TT := fun σ H Q => ∃ B m S δ, At K B m S H ∧ RelE K B m H δ σ ∧ FinG K Z B m H (fun c d h => W c d σ h) (evT C e δ S) (PB Q)
def PAs (K : Fg) (B : List Addr) (Q : List V → Hp → Prop) (ds : List D) (S' : Store) (m' : List Addr) (H' : Hp) : Prop := ∀ vs, RelDs K B m' H' ds vs → Q vs H'
def Ta (K : Fg) (Z : Xt) (C : Cf) (W : WX) (e : IE) : TA := fun σ H Q => ∃ B m S δ, At K B m S H ∧ RelE K B m H δ σ ∧ FinG K Z B m H (fun c d h => W c d σ h) (evA C e δ S) (PAs K B Q)
theorem _root_.L2.PE.imp' {X : Cx} {e : Expr} {t t' : TE} (h : PE X e t) (i : ∀ σ H Q, t' σ H Q → t σ H Q) : PE X e t' := ⟨fun pins s σ H Q I q => h.run pins s σ H Q I (i _ _ _ q)⟩
theorem _root_.L2.PT.imp' {X : Cx} {e : Expr} {t t' : TT} (h : PT X e t) (i : ∀ σ H Q, t' σ H Q → t σ H Q) : PT X e t' := ⟨fun pins s σ H Q I q => h.run pins s σ H Q I (i _ _ _ q)⟩
theorem _root_.L2.PW.imp' {X : Cx} {e : Expr} {t t' : TT} (h : PW X e t) (i : ∀ σ H Q, t' σ H Q → t σ H Q) : PW X e t' := ⟨fun w pins s σ H Q I q => h.run w pins s σ H Q I (i _ _ _ q)⟩
theorem _root_.L2.PA.imp' {X : Cx} {es : List Expr} {t t' : TA} (h : PA X es t) (i : ∀ σ H Q, t' σ H Q → t σ H Q) : PA X es t' := ⟨fun p pins s σ H Q I q => h.run p pins s σ H Q I (i _ _ _ q)⟩
/-- where one stands between two parts: from (m, H), the whole's start, to (m0, H0) -/
structure Mid (K : Fg) (B m m0 : List Addr) (S S0 : Store) (H H0 : Hp) (δ : Ev) (σ : L2.St) : Prop where
  t : At K B m S H
  t0 : At K B m0 S0 H0
  le : Le m m0 H H0
  e : RelE K B m0 H0 δ σ
section
variable {K : Fg} {Z : Xt} {C : Cf} {W : WX} {B m m0 m1 : List Addr} {S S0 S1 : Store} {H H0 H1 : Hp} {δ : Ev} {σ : L2.St} {β : Type} {P : β → Store → List Addr → Hp → Prop}
theorem Mid.start (t : At K B m S H) (e : RelE K B m H δ σ) : Mid K B m m S S H H δ σ := ⟨t, t, Le.refl, e⟩
theorem Mid.go (J : Mid K B m m0 S S0 H H0 δ σ) (l : Le m0 m1 H0 H1) (t1 : At K B m1 S1 H1) : Mid K B m m1 S S1 H H1 δ σ := ⟨J.t, t1, Le.trans J.t J.t0 J.le l, J.e.tr (l.tr J.t0)⟩
theorem Mid.none (J : Mid K B m m0 S S0 H H0 δ σ) {a : Addr} (h : H0 a = none) : H a = none := by
  cases q : H a with
  | none => rfl
  | some o => exact absurd h (J.le.live J.t0 (by rw [q]; exact fun z => by cases z))
theorem Mid.val (J : Mid K B m m0 S S0 H H0 δ σ) (l : Le m0 m1 H0 H1) {d : D} {v : V} (r : RelD K B m0 H0 d v) : RelD K B m1 H1 d v := r.tr (l.tr J.t0)
theorem Mid.vals (J : Mid K B m m0 S S0 H H0 δ σ) (l : Le m0 m1 H0 H1) {d : List D} {v : List V} (r : RelDs K B m0 H0 d v) : RelDs K B m1 H1 d v := r.tr (l.tr J.t0)
/-- the answer of a part, in what it is a part of -/
theorem Mid.part {α : Type} (J : Mid K B m m0 S S0 H H0 δ σ) {V : XK} {f : M α} {g : α → M β} (h : FinG K Z B m H V (M.bind f g S0) P) {R : α → Store → List Addr → Hp → Prop}
    (k : ∀ a S1 m1 H1, Le m0 m1 H0 H1 → At K B m1 S1 H1 → FinG K Z B m H V (g a S1) P → R a S1 m1 H1) : FinG K Z B m0 H0 V (f S0) R := by
  unfold M.bind at h
  cases e : f S0 with
  | ok a S1 =>
    rw [e] at h
    exact fun m1 H1 l t1 => k a S1 m1 H1 l t1 h
  | exc c as S1 =>
    rw [e] at h
    exact fun cls dd m1 H1 l t1 x => h cls dd m1 H1 (Le.trans J.t J.t0 J.le l) t1 x
  | bad => rw [e] at h; exact h
theorem Mid.stepE (J : Mid K B m m0 S S0 H H0 δ σ) {a : IE} {g : D → M β} (h : FinG K Z B m H (fun c d h => W c d σ h) (M.bind (evE C a δ) g S0) P) {R : VK}
    (k : ∀ v d S1 m1 H1, Le m0 m1 H0 H1 → Mid K B m m1 S S1 H H1 δ σ → RelD K B m1 H1 d v → (isFresh a = true → Fresh K B m1 S1 H0 H1 d v) → FinG K Z B m H (fun c d h => W c d σ h) (g d S1) P → R v H1) : Te K Z C W a σ H0 R :=
  ⟨B, m0, S0, δ, J.t0, J.e, J.part h fun d S1 m1 H1 l t1 h1 v r fr => k v d S1 m1 H1 l (J.go l t1) r fr h1⟩
theorem Mid.stepT (J : Mid K B m m0 S S0 H H0 δ σ) {a : IE} {g : Bool → M β} (h : FinG K Z B m H (fun c d h => W c d σ h) (M.bind (evT C a δ) g S0) P) {R : Bool → Hp → Prop}
    (k : ∀ b S1 m1 H1, Le m0 m1 H0 H1 → Mid K B m m1 S S1 H H1 δ σ → FinG K Z B m H (fun c d h => W c d σ h) (g b S1) P → R b H1) : Tb K Z C W a σ H0 R :=
  ⟨B, m0, S0, δ, J.t0, J.e, J.part h fun b S1 m1 H1 l t1 h1 => k b S1 m1 H1 l (J.go l t1) h1⟩
theorem Mid.stepA (J : Mid K B m m0 S S0 H H0 δ σ) {a : IE} {g : List D → M β} (h : FinG K Z B m H (fun c d h => W c d σ h) (M.bind (evA C a δ) g S0) P) {R : List V → Hp → Prop}
    (k : ∀ vs ds S1 m1 H1, Le m0 m1 H0 H1 → Mid K B m m1 S S1 H H1 δ σ → RelDs K B m1 H1 ds vs → FinG K Z B m H (fun c d h => W c d σ h) (g ds S1) P → R vs H1) : Ta K Z C W a σ H0 R :=
  ⟨B, m0, S0, δ, J.t0, J.e, J.part h fun ds S1 m1 H1 l t1 h1 vs r => k vs ds S1 m1 H1 l (J.go l t1) r h1⟩
/-- a part that is the whole's end -/
theorem Mid.tailE (J : Mid K B m m0 S S0 H H0 δ σ) {a : IE} {fr : Bool} {Q : VK} (hf : isFresh a = true ∨ fr = false) (h : FinG K Z B m H (fun c d h => W c d σ h) (evE C a δ S0) (PD K B H fr Q)) : Te K Z C W a σ H0 Q := by
  refine ⟨B, m0, S0, δ, J.t0, J.e, (h.rebase J.t J.t0 J.le).imp fun d S' m' H' q v r f => q v r fun f2 => ?_⟩
  rcases hf with hf | hf
  · refine ⟨fun xs e => ?_⟩
    obtain ⟨a1, vs, H2, h1, h2, h3⟩ := (f hf).of xs e
    exact ⟨a1, vs, H2, h1, J.none h2, h3⟩
  · rw [hf] at f2; cases f2
theorem Mid.tailT (J : Mid K B m m0 S S0 H H0 δ σ) {a : IE} {Q : Bool → Hp → Prop} (h : FinG K Z B m H (fun c d h => W c d σ h) (evT C a δ S0) (PB Q)) : Tb K Z C W a σ H0 Q :=
  ⟨B, m0, S0, δ, J.t0, J.e, h.rebase J.t J.t0 J.le⟩
/-- at the place where one stands -/
theorem Mid.here {α : Type} {V : XK} {r : Res α} {P : α → Store → List Addr → Hp → Prop} (J : Mid K B m m0 S S0 H H0 δ σ) (h : FinG K Z B m H V r P) : FinG K Z B m0 H0 V r P := h.rebase J.t J.t0 J.le
theorem Mid.plain {d : D} {v : V} {fr : Bool} {V : XK} {Q : VK} (J : Mid K B m m0 S S0 H H0 δ σ) (h : FinG K Z B m H V (.ok d S0) (PD K B H fr Q)) (r : RelD K B m0 H0 d v) (n : ∀ xs, d ≠ .lst xs) : Q v H0 := fin_plain J.t0 (J.here h) r n
end
section
variable {X : Cx} {K : Fg} {Z : Xt} {C : Cf} {W : WX} {a b c : Expr} {ia ib ic : IE} {pos : Pos}
theorem s_int {i : Int} {j : Nat} : PE X (.Constant (.int i) j pos) (Te K Z C W (.lit (.int i))) := pe_int.imp' fun σ H Q ⟨B, m, S, δ, t, e, h⟩ => (Mid.start t e).plain h (.int i) fun _ e => nomatch e
theorem s_bool {i : Bool} {j : Nat} : PE X (.Constant (.bool i) j pos) (Te K Z C W (.lit (.bl i))) := pe_bl.imp' fun σ H Q ⟨B, m, S, δ, t, e, h⟩ => (Mid.start t e).plain h (.bl i) fun _ e => nomatch e
theorem s_none {j : Nat} : PE X (.Constant .none j pos) (Te K Z C W (.lit .non)) := pe_non.imp' fun σ H Q ⟨B, m, S, δ, t, e, h⟩ => (Mid.start t e).plain h .non fun _ e => nomatch e
theorem s_str {x : List Nat} {j : Nat} (hx : okS x = true) : PE X (.Constant (.str (SO x)) j pos) (Te K Z C W (.lit (.str x))) := pe_str.imp' fun σ H Q ⟨B, m, S, δ, t, e, h⟩ => (Mid.start t e).plain h (.str x hx) fun _ e => nomatch e
theorem FinG.ret {K : Fg} {Z : Xt} {B m : List Addr} {H : Hp} {V : XK} {α : Type} {a : α} {S : Store} {P : α → Store → List Addr → Hp → Prop} (h : FinG K Z B m H V (M.ret a S) P) : FinG K Z B m H V (.ok a S) P := h
theorem s_var {i : Nat} {x : Str} (hN : X.N[i]? = some x) (hv : Vis X.env.scope x) (hd : (x == ("__debug__" : Str)) = false) (hcd : (x == ("__classdict__" : Str)) = false) : PE X (.Name x pos) (Te K Z C W (.var i)) :=
  (pe_var hN hv hd hcd).imp' fun σ H Q ⟨B, m, S, δ, t, e, h⟩ => by
    obtain ⟨d, h1, h2⟩ := FinG.opt (show FinG K Z B m H _ (M.opt (δ[i]?.join) S) _ from h)
    obtain ⟨v, hv, r⟩ := e.2 i d (join_some h1)
    exact ⟨v, hv, h2.now t v r fun f => nomatch (show false = true from f)⟩
theorem s_glo {y : List Nat} {x : Str} {d : D} {v : V} {u : Value} (hg : Gl X x) (hm : X.mg x = some u) (r : RelV v u) (q : ∀ B m H, (∀ a ∈ m, H a ≠ none) → RelD K B m H d v) (hd : (x == ("__debug__" : Str)) = false) : PE X (.Name x pos) (Te K Z C W (.glo y d)) :=
  (pe_glob hg hm r hd).imp' fun σ H Q ⟨B, m, S, δ, t, e, h⟩ => (FinG.ret h).now t v (q B m H fun a ha => by obtain ⟨vs, z⟩ := t.mlive ha; rw [z]; exact fun w => by cases w) fun f => nomatch (show false = true from f)
theorem s_bin {o : Bo} (ha : PE X a (Te X.K Z C W ia)) (hb : PE X b (Te X.K Z C W ib)) : PE X (.BinOp a (boOf o) b pos) (Te X.K Z C W (.bin o ia ib)) :=
  (pe_op (boOp o) ha hb).imp' fun σ H Q ⟨B, m, S, δ, t, e, h⟩ => by
    refine (Mid.start t e).stepE h fun v d S1 m1 H1 l1 M1 r1 _ h1 => ?_
    refine M1.stepE h1 fun u d2 S2 m2 H2 l2 M2 r2 _ h2 => ?_
    obtain ⟨d3, e3, h3⟩ := FinG.opt (show FinG X.K Z B m H _ (M.opt (binD S2 o d d2) S2) _ from h2)
    exact ⟨B, m2, S2, d, d2, H, d3, M2.t0, M1.val l2 r1, r2, fun p hp => M2.none hp, e3, Z, _, M2.here h3⟩
theorem s_neg (ha : PE X a (Te X.K Z C W ia)) : PE X (.UnaryOp .USub a pos) (Te X.K Z C W (.neg ia)) :=
  (pe_un un_neg ha).imp' fun σ H Q ⟨B, m, S, δ, t, e, h⟩ => by
    refine (Mid.start t e).stepE h fun v d S1 m1 H1 l1 M1 r1 _ h1 => ?_
    cases d with
    | int i => exact ⟨i, r1.int_of, M1.plain h1 (.int _) fun _ e => nomatch e⟩
    | _ => exact False.elim h1
theorem truth_part {K : Fg} {B m m0 : List Addr} {S S0 : Store} {H H0 : Hp} {δ : Ev} {σ : L2.St} {β : Type} {P : β → Store → List Addr → Hp → Prop} {V' : XK} {d : D} {g : Bool → M β} (J : Mid K B m m0 S S0 H H0 δ σ) (h : FinG K Z B m H V' (M.bind (truthM d) g S0) P) :
    ∃ b, truthD S0 d = some b ∧ FinG K Z B m H V' (g b S0) P := by
  unfold M.bind truthM at h
  cases e : truthD S0 d with
  | none => rw [e] at h; exact False.elim h
  | some b => rw [e] at h; exact ⟨b, rfl, h⟩
theorem bind_bind {α β γ : Type} (f : M α) (g : α → M β) (k : β → M γ) (S : Store) : M.bind (M.bind f g) k S = M.bind f (fun a => M.bind (g a) k) S := by
  unfold M.bind
  cases f S <;> rfl
theorem bind_ret {α β : Type} (a : α) (g : α → M β) (S : Store) : M.bind (M.ret a) g S = g a S := rfl
theorem s_not (ha : PE X a (Te X.K Z C W ia)) : PE X (.UnaryOp .Not a pos) (Te X.K Z C W (.not ia)) :=
  (pe_notT ha).imp' fun σ H Q ⟨B, m, S, δ, t, e, h⟩ => by
    have h : FinG X.K Z B m H _ (M.bind (M.bind (evE C ia δ) truthM) (fun b => M.ret (D.bl !b)) S) (PD X.K B H _ Q) := h
    rw [bind_bind] at h
    refine (Mid.start t e).stepE h fun v d S1 m1 H1 l1 M1 r1 _ h1 => ?_
    obtain ⟨b, e1, h2⟩ := truth_part M1 h1
    exact ⟨b, r1.truth M1.t0 e1, M1.plain h2 (.bl _) fun _ e => nomatch e⟩
theorem s_and {rest : List Expr} (ha : PE X a (Te X.K Z C W ia)) (hb : PE X (.BoolOp .And (b :: rest) pos) (Te X.K Z C W ib)) : PE X (.BoolOp .And (a :: b :: rest) pos) (Te X.K Z C W (.and ia ib)) :=
  (pe_andT ha hb).imp' fun σ H Q ⟨B, m, S, δ, t, e, h⟩ => by
    refine (Mid.start t e).stepE h fun v d S1 m1 H1 l1 M1 r1 _ h1 => ?_
    obtain ⟨k, e1, h2⟩ := truth_part M1 h1
    refine ⟨k, r1.truth M1.t0 e1, ?_⟩
    cases k with
    | true => exact M1.tailE (.inr rfl) h2
    | false => exact (FinG.ret (M1.here h2)).now M1.t0 v r1 fun f => nomatch (show false = true from f)
theorem s_or {rest : List Expr} (ha : PE X a (Te X.K Z C W ia)) (hb : PE X (.BoolOp .Or (b :: rest) pos) (Te X.K Z C W ib)) : PE X (.BoolOp .Or (a :: b :: rest) pos) (Te X.K Z C W (.or ia ib)) :=
  (pe_orT ha hb).imp' fun σ H Q ⟨B, m, S, δ, t, e, h⟩ => by
    refine (Mid.start t e).stepE h fun v d S1 m1 H1 l1 M1 r1 _ h1 => ?_
    obtain ⟨k, e1, h2⟩ := truth_part M1 h1
    refine ⟨k, r1.truth M1.t0 e1, ?_⟩
    cases k with
    | false => exact M1.tailE (.inr rfl) h2
    | true => exact (FinG.ret (M1.here h2)).now M1.t0 v r1 fun f => nomatch (show false = true from f)
theorem s_ite (hc : PT X c (Tb X.K Z C W ic)) (ha : PE X a (Te X.K Z C W ia)) (hb : PE X b (Te X.K Z C W ib)) : PE X (.IfExp c a b pos) (Te X.K Z C W (.ite ic ia ib)) :=
  (pe_ifExp hc ha hb).imp' fun σ H Q ⟨B, m, S, δ, t, e, h⟩ => by
    refine (Mid.start t e).stepT (show FinG X.K Z B m H _ (M.bind (evT C ic δ) (fun t => if t then evE C ia δ else evE C ib δ) S) _ from h) fun k S1 m1 H1 l1 M1 h1 => ?_
    cases k with
    | true => exact M1.tailE (.inr rfl) h1
    | false => exact M1.tailE (.inr rfl) h1
theorem s_cmp {o : Co} (hu : X.A.units + 65 < cLine) (ha : PE X a (Te X.K Z C W ia)) (hb : PE X b (Te X.K Z C W ib)) (hm : behindInMarks (coOf o) b = false) : PE X (.Compare a [coOf o] [b] pos) (Te X.K Z C W (.cmp o ia ib)) :=
  (pe_cmpR (coOp hu o) ha hb hm).imp' fun σ H Q ⟨B, m, S, δ, t, e, h⟩ => by
    refine (Mid.start t e).stepE h fun v d S1 m1 H1 l1 M1 r1 _ h1 => ?_
    refine M1.stepE h1 fun u d2 S2 m2 H2 l2 M2 r2 _ h2 => ?_
    unfold M.bind cmpM at h2
    cases q : cmpD S2 o d d2 with
    | none => rw [q] at h2; exact False.elim h2
    | some z =>
      rw [q] at h2
      exact ⟨B, m2, S2, d, d2, z, M2.t0, M1.val l2 r1, r2, q, M2.plain h2 (.bl z) fun _ e => nomatch e⟩
theorem s_chn {o o' : Co} (hu : X.A.units + 65 < cLine) (ha : PE X a (Te X.K Z C W ia)) (hb : PE X b (Te X.K Z C W ib)) (hc : PE X c (Te X.K Z C W ic)) (hm : lastMarks [coOf o, coOf o'] [b, c] = false) :
    PE X (.Compare a [coOf o, coOf o'] [b, c] pos) (Te X.K Z C W (.chn o o' ia ib ic)) :=
  (pe_chain (coOp hu o) (coOp hu o') ha hb hc hm).imp' fun σ H Q ⟨B, m, S, δ, t, e, h⟩ => by
    refine (Mid.start t e).stepE h fun v d S1 m1 H1 l1 M1 r1 _ h1 => ?_
    refine M1.stepE h1 fun u d2 S2 m2 H2 l2 M2 r2 _ h2 => ?_
    unfold M.bind cmpM at h2
    cases q : cmpD S2 o d d2 with
    | none => rw [q] at h2; exact False.elim h2
    | some z =>
      rw [q] at h2
      refine ⟨B, m2, S2, d, d2, z, M2.t0, M1.val l2 r1, r2, q, z, rfl, ?_⟩
      cases z with
      | false => exact M2.plain h2 (.bl false) fun _ e => nomatch e
      | true =>
        rw [if_pos rfl]
        have h2 : FinG X.K Z B m H (fun c d h => W c d σ h) (M.bind (evE C ic δ) (fun z => M.bind (cmpM o' d2 z) fun t' => M.ret (.bl t')) S2) (PD X.K B H _ Q) := h2
        refine M2.stepE h2 fun x3 d3 S3 m3 H3 l3 M3 r3 _ h3 => ?_
        unfold M.bind cmpM at h3
        cases q3 : cmpD S3 o' d2 d3 with
        | none => rw [q3] at h3; exact False.elim h3
        | some z3 =>
          rw [q3] at h3
          exact ⟨B, m3, S3, d2, d3, z3, M3.t0, M2.val l3 r2, r3, q3, M3.plain h3 (.bl z3) fun _ e => nomatch e⟩
end
end Fb
set_option Elab.async false
set_option linter.all false
set_option maxRecDepth 100000
set_option maxHeartbeats 2000000
/-! Fb7: argument lists, displays, subscripts, slices, calls. -/
namespace Fb
open PySem PySem.Spec PyProof.Rows L2
def notStar : Expr → Bool
  | .Starred _ _ => false
  | _ => true
theorem star_cons {e : Expr} {es : List Expr} {env : Env} (h : notStar e = true) : starEach (e :: es) env = (false, eval e env) :: starEach es env := by
  cases e <;> first | rfl | exact absurd h Bool.false_ne_true
def noStars (es : List Expr) : Bool := es.all notStar
theorem plain_args {pos : Pos} {env : Env} : ∀ {es : List Expr}, noStars es = true → (backTo pos (starEach es env)).any (·.1) = false
  | [], _ => rfl
  | e :: es, h => by
    have h2 := Bool.and_eq_true_iff.mp (show (notStar e && es.all notStar) = true from h)
    rw [star_cons h2.1]
    have ih := plain_args (pos := pos) (env := env) (es := es) h2.2
    cases es with
    | nil => rfl
    | cons a r =>
      have h3 := Bool.and_eq_true_iff.mp (show (notStar a && r.all notStar) = true from h2.2)
      rw [star_cons h3.1] at ih ⊢
      exact ih
section
variable {X : Cx} {Z : Xt} {C : Cf} {W : WX} {a b c e : Expr} {es : List Expr} {ia ib ic ie ies : IE} {pos : Pos}
theorem s_nil : PA X [] (Ta X.K Z C W .nil) := pa_nil.imp' fun σ H Q ⟨B, m, S, δ, t, e, h⟩ => (FinG.ret h).now t [] .nil
theorem s_cons (hs : notStar e = true) (ha : PE X e (Te X.K Z C W ie)) (hr : PA X es (Ta X.K Z C W ies)) : PA X (e :: es) (Ta X.K Z C W (.cons ie ies)) :=
  (pa_cons ha hr (star_cons hs)).imp' fun σ H Q ⟨B, m, S, δ, t, e, h⟩ => by
    refine (Mid.start t e).stepE h fun v d S1 m1 H1 l1 M1 r1 _ h1 => ?_
    refine M1.stepA h1 fun vs ds S2 m2 H2 l2 M2 r2 h2 => ?_
    exact (FinG.ret (M2.here h2)).now M2.t0 (v :: vs) (.cons (M1.val l2 r1) r2)
theorem s_tup {k : Nat} (ha : PA X es (Ta X.K Z C W ies)) : PE X (.Tuple es k pos) (Te X.K Z C W (.tup ies)) :=
  (pe_tup ha).imp' fun σ H Q ⟨B, m, S, δ, t, e, h⟩ => by
    refine (Mid.start t e).stepA h fun vs ds S1 m1 H1 l1 M1 r1 h1 => ?_
    by_cases hz : ds.length ≤ SL
    · rw [if_pos hz] at h1
      exact ⟨by rw [← r1.len, ← SL_eq]; exact hz, fun p hp => fin_tup M1.t0 (M1.here (FinG.ret h1)) hp r1⟩
    · rw [if_neg hz] at h1; exact False.elim h1
theorem s_lst (ha : PA X es (Ta X.K Z C W ies)) : PE X (.List es pos) (Te X.K Z C W (.lst ies)) :=
  (pe_lst ha).imp' fun σ H Q ⟨B, m, S, δ, t, e, h⟩ => by
    refine (Mid.start t e).stepA h fun vs ds S1 m1 H1 l1 M1 r1 h1 => ?_
    by_cases hz : ds.length ≤ SL
    · rw [if_pos hz] at h1
      exact ⟨by rw [← r1.len, ← SL_eq]; exact hz, fun p hp => fin_lst M1.t0 (fun a ha => M1.none ha) (M1.here (FinG.ret h1)) hp r1⟩
    · rw [if_neg hz] at h1; exact False.elim h1
theorem s_idx (hb : PlainIx b) (ha : PE X a (Te X.K Z C W ia)) (hi : PE X b (Te X.K Z C W ib)) : PE X (.Subscript a b pos) (Te X.K Z C W (.idx ia ib)) :=
  (pe_ix op_idx ha hi hb).imp' fun σ H Q ⟨B, m, S, δ, t, e, h⟩ => by
    refine (Mid.start t e).stepE h fun v d S1 m1 H1 l1 M1 r1 _ h1 => ?_
    refine M1.stepE h1 fun u d2 S2 m2 H2 l2 M2 r2 _ h2 => ?_
    cases q : idxM d d2 S2 with
    | bad => rw [q] at h2; exact False.elim h2
    | exc cc as S3 => unfold idxM at q; split at q <;> (try split at q) <;> (try (unfold M.opt at q; split at q)) <;> cases q
    | ok d3 S3 =>
      rw [q] at h2
      obtain ⟨e3, _⟩ := idx_cases q
      subst e3
      exact ⟨B, m2, _, d, d2, d3, M2.t0, M1.val l2 r1, r2, ⟨_, q⟩, fun v3 r3 => (M2.here h2).now M2.t0 v3 r3 fun f => nomatch (show false = true from f)⟩
/-- a slice's part -/
def PP (Q : Option Int → Hp → Prop) (o : Option Int) (S' : Store) (m' : List Addr) (H' : Hp) : Prop := Q o H'
def Tp (K : Fg) (Z : Xt) (C : Cf) (W : WX) (e : IE) : TO := fun σ H Q => ∃ B m S δ, At K B m S H ∧ RelE K B m H δ σ ∧ FinG K Z B m H (fun c d h => W c d σ h) (evP C e δ S) (PP Q)
theorem _root_.L2.PO.imp' {o : Option Expr} {t t' : TO} (h : PO X o t) (i : ∀ σ H Q, t' σ H Q → t σ H Q) : PO X o t' := ⟨fun pins s σ H Q I q => h.run pins s σ H Q I (i _ _ _ q)⟩
theorem s_pnone : PO X none (Tp X.K Z C W .nil) := po_none.imp' fun σ H Q ⟨B, m, S, δ, t, e, h⟩ => (FinG.ret h).now t
theorem s_psome {r : IE} (ha : PE X e (Te X.K Z C W ie)) : PO X (some e) (Tp X.K Z C W (.cons ie r)) :=
  (po_some ha).imp' fun σ H Q ⟨B, m, S, δ, t, e, h⟩ => by
    refine (Mid.start t e).stepE h fun v d S1 m1 H1 l1 M1 r1 _ h1 => ?_
    cases d with
    | int i => exact ⟨i, r1.int_of, (FinG.ret (M1.here h1)).now M1.t0⟩
    | _ => exact False.elim h1
theorem Mid.stepP {K : Fg} {B m m0 : List Addr} {S S0 : Store} {H H0 : Hp} {δ : Ev} {σ : L2.St} {β : Type} {P : β → Store → List Addr → Hp → Prop} (J : Mid K B m m0 S S0 H H0 δ σ) {a : IE} {g : Option Int → M β}
    (h : FinG K Z B m H (fun c d h => W c d σ h) (M.bind (evP C a δ) g S0) P) {R : Option Int → Hp → Prop}
    (k : ∀ o S1 m1 H1, Le m0 m1 H0 H1 → Mid K B m m1 S S1 H H1 δ σ → FinG K Z B m H (fun c d h => W c d σ h) (g o S1) P → R o H1) : Tp K Z C W a σ H0 R :=
  ⟨B, m0, S0, δ, J.t0, J.e, J.part h fun o S1 m1 H1 l t1 h1 => k o S1 m1 H1 l (J.go l t1) h1⟩
theorem s_sli {lo hi : Option Expr} {il ih : IE} {p2 : Pos} (ha : PE X a (Te X.K Z C W ia)) (hl : PO X lo (Tp X.K Z C W il)) (hh : PO X hi (Tp X.K Z C W ih)) : PE X (.Subscript a (.Slice lo hi none p2) pos) (Te X.K Z C W (.sli ia il ih)) :=
  (pe_slice op_cut ha hl hh).imp' fun σ H Q ⟨B, m, S, δ, t, e, h⟩ => by
    refine (Mid.start t e).stepE h fun v d S1 m1 H1 l1 M1 r1 _ h1 => ?_
    refine M1.stepP h1 fun lo S2 m2 H2 l2 M2 h2 => ?_
    refine M2.stepP h2 fun hi S3 m3 H3 l3 M3 h3 => ?_
    obtain ⟨d3, e3, h4⟩ := FinG.opt (show FinG X.K Z B m H _ (M.opt (cutD S3 d lo hi) S3) _ from h3)
    exact ⟨B, m3, S3, d, H, d3, M3.t0, M2.val l3 (M1.val l2 r1), fun p hp => M3.none hp, e3, Z, _, M3.here h4⟩
/-- a def's promise, as the evaluator tells it -/
def spF (K : Fg) (Z : Xt) (f : List D → M D) : Sp := fun vs H Q E => ∃ B m S ds, At K B m S H ∧ RelDs K B m H ds vs ∧ FinG K Z B m H E (f ds S) fun d S' m' H' => ∀ v, RelD K B m' H' d v → Q v H'
theorem call_step {f : Nat} {σ : L2.St} {H : Hp} {Q : VK} (h : Te X.K Z C W (.call f ies) σ H Q) : tCallSD (spF X.K Z (C.call f)) [] (fun σ cls d H => W cls d σ H) (Ta X.K Z C W ies) σ H Q := by
  obtain ⟨B, m, S, δ, t, e, h⟩ := h
  refine (Mid.start t e).stepA h fun vs ds S1 m1 H1 l1 M1 r1 h1 => ?_
  rw [List.append_nil]
  exact ⟨B, m1, S1, ds, M1.t0, r1, (M1.here h1).imp fun d S' m' H' q v r => q v r fun f => nomatch (show false = true from f)⟩
theorem s_call {f : Nat} {x : Str} {p : Pos} {k : Nat} {fa : Addr} {fd : FuncData} {ps : List Str} (F : FnOk X.prog X.w X.K X.mg X.base (L2.CX X.prog X.w) k fa fd ps (spF X.K Z (C.call f))) (hr : Room k X.A) (hg : Gl X x) (hm : X.mg x = some (.ref fa))
    (hk : PySem.W.keepIn X.K (.ref fa) = true) (hb : Binds X.K fd ps []) (hx : ∀ σ, PassesAt (L2.CX X.prog X.w) X σ (fun cls d H => W cls d σ H)) (ha : PA X (e :: es) (Ta X.K Z C W ies)) (hdb : (x == ("__debug__" : Str)) = false)
    (hs : noStars (e :: es) = true) : PE X (.Call (.Name x p) (e :: es) [] pos) (Te X.K Z C W (.call f ies)) := by
  have h2 := Bool.and_eq_true_iff.mp (show (notStar e && es.all notStar) = true from hs)
  exact (pe_callSD F hr hg hm hk hb .nil hx ha hdb (star_cons h2.1) (plain_args h2.2)).imp' fun σ H Q h => call_step h
theorem s_call0 {f : Nat} {x : Str} {p : Pos} {k : Nat} {fa : Addr} {fd : FuncData} {ps : List Str} (F : FnOk X.prog X.w X.K X.mg X.base (L2.CX X.prog X.w) k fa fd ps (spF X.K Z (C.call f))) (hr : Room k X.A) (hg : Gl X x) (hm : X.mg x = some (.ref fa))
    (hk : PySem.W.keepIn X.K (.ref fa) = true) (hb : Binds X.K fd ps []) (hx : ∀ σ, PassesAt (L2.CX X.prog X.w) X σ (fun cls d H => W cls d σ H)) (hdb : (x == ("__debug__" : Str)) = false) :
    PE X (.Call (.Name x p) [] [] pos) (Te X.K Z C W (.call f .nil)) := by
  refine ⟨fun pins s σ H Q J h => wpAny_Call_Name_kw (ld_glob J hg hm ?_ hdb)⟩
  obtain ⟨B, m, S, δ, t, e, h⟩ := h
  have h : FinG X.K Z B m H _ (C.call f [] S) _ := h
  refine PySem.W.callWith_K0 J.kIn hk (run_fnSD (us := []) (vs := []) (E := fun σ cls d H => W cls d σ H) F hr hb .nil (hx σ) J .nil ?_)
  exact ⟨B, m, S, [], t, .nil, h.imp fun d S' m' H' q v r => q v r fun f => nomatch (show false = true from f)⟩
/-! ### built-ins by name -/
def bltN : Bt → Str
  | .len => "len" | .int => "int" | .str => "str" | .tuple => "tuple" | .list => "list" | .min => "min" | .max => "max" | .abs => "abs" | .all => "all" | .any => "any" | .sum => "sum"
theorem blt_step {bt : Bt} {σ : L2.St} {H : Hp} {Q : VK} (h : Te X.K Z C W (.blt bt ies) σ H Q) : tCB (rBlt X.K bt) (Ta X.K Z C W ies) σ H Q := by
  obtain ⟨B, m, S, δ, t, e, h⟩ := h
  refine (Mid.start t e).stepA h fun vs ds S1 m1 H1 l1 M1 r1 h1 => ?_
  obtain ⟨d3, e3, h3⟩ := FinG.opt (show FinG X.K Z B m H _ (M.opt (bltD S1 bt ds) S1) _ from h1)
  exact ⟨B, m1, S1, ds, H, d3, M1.t0, r1, fun p hp => M1.none hp, e3, Z, _, M1.here h3⟩
theorem s_blt (bt : Bt) {p : Pos} (hc : X.calm = true) (hg : Gl X (bltN bt)) (hm : X.mg (bltN bt) = none) (ha : PA X (e :: es) (Ta X.K Z C W ies)) (hs : noStars (e :: es) = true) : PE X (.Call (.Name (bltN bt) p) (e :: es) [] pos) (Te X.K Z C W (.blt bt ies)) := by
  have h2 := Bool.and_eq_true_iff.mp (show (notStar e && es.all notStar) = true from hs)
  have s1 := star_cons (env := X.env) (es := es) h2.1
  have s2 := plain_args (pos := pos) (env := X.env) h2.2
  cases bt with
  | len => exact (pe_callB blt_len hg hm PySem.boot_len ha (by decide) (by decide) s1 s2).imp' fun σ H Q h => blt_step h
  | int => exact (pe_callTy blt_int hg hm PyProof.Rows.boot_int ha (by decide) (by decide) s1 s2).imp' fun σ H Q h => blt_step h
  | str => exact (pe_callTy blt_str hg hm PyProof.Rows.boot_str ha (by decide) (by decide) s1 s2).imp' fun σ H Q h => blt_step h
  | tuple => exact (pe_callTy blt_tuple hg hm PyProof.Rows.boot_tuple ha (by decide) (by decide) s1 s2).imp' fun σ H Q h => blt_step h
  | list => exact (pe_callTy blt_list hg hm PyProof.Rows.boot_list ha (by decide) (by decide) s1 s2).imp' fun σ H Q h => blt_step h
  | min => exact (pe_callB (blt_min hc) hg hm PyProof.Rows.boot_min ha (by decide) (by decide) s1 s2).imp' fun σ H Q h => blt_step h
  | max => exact (pe_callB (blt_max hc) hg hm PyProof.Rows.boot_max ha (by decide) (by decide) s1 s2).imp' fun σ H Q h => blt_step h
  | abs => exact (pe_callB blt_abs hg hm (by decide +kernel) ha (by decide) (by decide) s1 s2).imp' fun σ H Q h => blt_step h
  | all => exact (pe_callB (blt_all hc) hg hm PyProof.Rows.boot_all ha (by decide) (by decide) s1 s2).imp' fun σ H Q h => blt_step h
  | any => exact (pe_callB (blt_any hc) hg hm PyProof.Rows.boot_any ha (by decide) (by decide) s1 s2).imp' fun σ H Q h => blt_step h
  | sum => exact (pe_callB (blt_sum hc) hg hm PyProof.Rows.boot_sum ha (by decide) (by decide) s1 s2).imp' fun σ H Q h => blt_step h
end
end Fb
set_option Elab.async false
set_option linter.all false
set_option maxRecDepth 100000
set_option maxHeartbeats 2000000
/-! Fb8: isinstance, methods, fresh cells, tests, targets, what is walked. -/
namespace Fb
open PySem PySem.Spec PyProof.Rows L2
section
variable {X : Cx} {Z : Xt} {C : Cf} {W : WX} {a b c e : Expr} {es : List Expr} {ia ib ic ie ies : IE} {pos : Pos}
/-! ### isinstance -/
theorem boot_ty (y : Ty) : bootBuiltins (Str.ofString (tyS y)) = some (.type (tyS y)) := by cases y <;> decide +kernel
theorem s_isi1 {y : Ty} {p p2 : Pos} (hg : Gl X "isinstance") (hm : X.mg "isinstance" = none) (hg2 : Gl X (Str.ofString (tyS y))) (hm2 : X.mg (Str.ofString (tyS y)) = none) (ha : PE X a (Te X.K Z C W ia)) (hs : notStar a = true) :
    PE X (.Call (.Name "isinstance" p) [a, .Name (Str.ofString (tyS y)) p2] [] pos) (Te X.K Z C W (.isi ia [y])) := by
  have e1 : PE X (.Name (Str.ofString (tyS y)) p2) (tC (.ty (tyS y))) := pe_bltn hg2 hm2 (boot_ty y) rfl (by cases y <;> decide) (by cases y <;> decide)
  refine (pe_callB isi_one hg hm PyProof.Rows.boot_isinstance (pa_cons ha (pa_cons e1 pa_nil) (star_cons hs)) (by decide) (by decide) (star_cons hs) rfl).imp' fun σ H Q ⟨B, m, S, δ, t, e, h⟩ => ?_
  refine (Mid.start t e).stepE h fun v d S1 m1 H1 l1 M1 r1 _ h1 => ?_
  have h2 : FinG X.K Z B m H (fun c d h => W c d σ h) (.ok (.bl ([y].any (D.isTy S1 d))) S1) (PD X.K B H _ Q) := h1
  rw [show [y].any (D.isTy S1 d) = D.isTy S1 d y by simp] at h2
  exact ⟨B, m1, S1, d, v, y, M1.t0, r1, rfl, M1.plain h2 (.bl _) fun _ e => nomatch e⟩
/-- the names of the types, one behind another -/
def tyNames : List (Ty × Pos) → List Expr
  | [] => []
  | (y, p) :: r => .Name (Str.ofString (tyS y)) p :: tyNames r
theorem pa_tys : ∀ ys : List (Ty × Pos), (∀ q ∈ ys, Gl X (Str.ofString (tyS q.1)) ∧ X.mg (Str.ofString (tyS q.1)) = none) → PA X (tyNames ys) (fun _ H Q => Q (ys.map fun q => V.ty (tyS q.1)) H)
  | [], _ => pa_nil
  | (y, p) :: r, h => by
    obtain ⟨h1, h2⟩ := h (y, p) List.mem_cons_self
    have e1 : PE X (.Name (Str.ofString (tyS y)) p) (tC (.ty (tyS y))) := pe_bltn h1 h2 (boot_ty y) rfl (by cases y <;> decide) (by cases y <;> decide)
    exact pa_cons e1 (pa_tys r fun q hq => h q (List.mem_cons_of_mem _ hq)) (star_cons rfl)
theorem s_isiN {ys : List (Ty × Pos)} {k : Nat} {p p2 : Pos} (hg : Gl X "isinstance") (hm : X.mg "isinstance" = none) (hq : ∀ q ∈ ys, Gl X (Str.ofString (tyS q.1)) ∧ X.mg (Str.ofString (tyS q.1)) = none) (hl : ys.length ≤ 100)
    (ha : PE X a (Te X.K Z C W ia)) (hs : notStar a = true) : PE X (.Call (.Name "isinstance" p) [a, .Tuple (tyNames ys) k p2] [] pos) (Te X.K Z C W (.isi ia (ys.map (·.1)))) := by
  refine (pe_callB isi_any hg hm PyProof.Rows.boot_isinstance (pa_cons ha (pa_cons (pe_tup (pa_tys ys hq)) pa_nil) (star_cons hs)) (by decide) (by decide) (star_cons hs) rfl).imp' fun σ H Q ⟨B, m, S, δ, t, e, h⟩ => ?_
  refine (Mid.start t e).stepE h fun v d S1 m1 H1 l1 M1 r1 _ h1 => ?_
  have hle : Le m1 m1 H1 H1 := Le.refl
  refine ⟨by rw [List.length_map, ← SL_eq]; have : SL = 16777216 := rfl; omega, fun q hq => ?_⟩
  have h2 : FinG X.K Z B m H (fun c d h => W c d σ h) (.ok (.bl ((ys.map (·.1)).any (D.isTy S1 d))) S1) (PD X.K B H _ Q) := h1
  have t2 := M1.t0.new (o := .tup (ys.map fun q => V.ty (tyS q.1))) hq
  have l2 := Le.new M1.t0 (o := .tup (ys.map fun q => V.ty (tyS q.1))) hq
  refine ⟨B, m1, S1, d, v, q, ys.map (·.1), t2, r1.tr (l2.tr M1.t0), rfl, ?_, ?_⟩
  · rw [upd_same, List.map_map]; rfl
  · exact (M1.go l2 t2).plain h2 (.bl _) fun _ e => nomatch e
/-! ### methods -/
def baseOk : Expr → Bool
  | .Name _ _ => true
  | .Constant _ _ _ => true
  | .Subscript _ _ _ => true
  | .Attribute _ _ _ => true
  | .BinOp _ _ _ _ => true
  | _ => false
theorem base_eq {o : Expr} {x : Str} {env : Env} (h : baseOk o = true) : attributeBase o x env (eval o env) = eval o env := by
  cases o <;> first | rfl | exact absurd h Bool.false_ne_true
theorem few_ok {es : List Expr} {e : Expr} {env : Env} {pos : Pos} (h : noStars (e :: es) = true) (hl : decide (es.length < 28) = true) :
    ((backTo pos (starEach (e :: es) env)).all (fun x => !x.1) && (backToKw pos (keywordEach [] env)).all (fun x => x.1.isSome) && decide ((e :: es).length + ([] : List Keyword).length + (if ([] : List Keyword).isEmpty then 0 else 1) < 30)) = true := by
  have h1 : (backTo pos (starEach (e :: es) env)).all (fun x => !x.1) = true := by
    have q := plain_args (pos := pos) (env := env) h
    rw [List.any_eq_false] at q
    rw [List.all_eq_true]
    intro x hx
    have := q x hx
    cases hb : x.1 with
    | true => exact absurd hb this
    | false => rfl
  have h3 := of_decide_eq_true hl
  rw [h1]
  show (true && true && decide (es.length + 1 + 0 + 0 < 30)) = true
  rw [decide_eq_true (by omega)]
  rfl
theorem tyV_of {K : Fg} {B m : List Addr} {H : Hp} {S : Store} {mt : Mt} {d : D} {v : V} (t : At K B m S H) (q : RelD K B m H d v) (e : recvOk mt d = true) : tyV K (mtT mt) v H := by
  unfold recvOk at e
  split at e <;> try contradiction
  all_goals first
    | (obtain ⟨p, rfl, hp⟩ := q.cell_of
       obtain ⟨vs, h⟩ := t.mlive (List.mem_of_getElem? hp)
       exact .inl ⟨rfl, vs, SqL.of h⟩)
    | (rw [q.str_of]; rfl)
theorem mth_step {mt : Mt} {σ : L2.St} {H : Hp} {Q : VK} (h : Te X.K Z C W (.mth mt ia ies) σ H Q) : tBM X.K (mtT mt) (rMth X.K mt) (Te X.K Z C W ia) (Ta X.K Z C W ies) σ H Q := by
  obtain ⟨B, m, S, δ, t, e, h⟩ := h
  refine (Mid.start t e).stepE h fun v d S1 m1 H1 l1 M1 r1 _ h1 => ?_
  by_cases hr : recvOk mt d = true
  · rw [if_pos hr] at h1
    refine ⟨tyV_of M1.t0 r1 hr, ?_⟩
    refine M1.stepA h1 fun vs ds S2 m2 H2 l2 M2 r2 h2 => ?_
    cases q : mthD S2 mt d ds with
    | none => rw [q] at h2; exact False.elim h2
    | some r =>
      obtain ⟨d3, S3⟩ := r
      rw [q] at h2
      exact ⟨B, m2, S2, d, ds, H, d3, S3, M2.t0, M1.val l2 r1, r2, fun p hp => M2.none hp, q, Z, _, M2.here h2⟩
  · rw [if_neg hr] at h1; exact False.elim h1
theorem mth_step0 {mt : Mt} {σ : L2.St} {H : Hp} {Q : VK} (h : Te X.K Z C W (.mth mt ia .nil) σ H Q) : tBM0 X.K (mtT mt) (rMth X.K mt) (Te X.K Z C W ia) σ H Q := by
  obtain ⟨B, m, S, δ, t, e, h⟩ := h
  refine (Mid.start t e).stepE h fun v d S1 m1 H1 l1 M1 r1 _ h1 => ?_
  by_cases hr : recvOk mt d = true
  · rw [if_pos hr] at h1
    refine ⟨tyV_of M1.t0 r1 hr, ?_⟩
    have h2 : FinG X.K Z B m H (fun c d h => W c d σ h) (match mthD S1 mt d [] with
      | some (d, S') => .ok d S'
      | none => .bad) (PD X.K B H _ Q) := h1
    cases q : mthD S1 mt d [] with
    | none => rw [q] at h2; exact False.elim h2
    | some r =>
      obtain ⟨d3, S3⟩ := r
      rw [q] at h2
      exact ⟨B, m1, S1, d, [], H, d3, S3, M1.t0, r1, .nil, fun p hp => M1.none hp, q, Z, _, M1.here h2⟩
  · rw [if_neg hr] at h1; exact False.elim h1
/-- which methods are told with arguments, which without -/
def mtArgs : Mt → Bool
  | .append => true | .extend => true | .popAt => true | .join => true | _ => false
theorem s_mth {mt : Mt} {apos : Pos} (h1 : mtArgs mt = true) (hb : baseOk a = true) (hl : (apos.endLine == pos.line) = true) (hn : decide (es.length < 28) = true) (hs : noStars (e :: es) = true) (ho : PE X a (Te X.K Z C W ia)) (ha : PA X (e :: es) (Ta X.K Z C W ies)) :
    PE X (.Call (.Attribute a (mtN mt) apos) (e :: es) [] pos) (Te X.K Z C W (.mth mt ia ies)) := by
  have h2 := Bool.and_eq_true_iff.mp (show (notStar e && es.all notStar) = true from hs)
  have s1 := star_cons (env := X.env) (es := es) h2.1
  have s2 := plain_args (pos := pos) (env := X.env) h2.2
  cases mt with
  | append => exact (pe_bm PySem.F.plainAttrs_list PySem.F.slot_list_append PySem.F.type_list_append mt_append' ho ha (base_eq hb) (few_ok hs hn) hl s1 s2).imp' fun σ H Q h => mth_step h
  | extend => exact (pe_bm PySem.F.plainAttrs_list PySem.F.slot_list_extend PySem.F.type_list_extend mt_extend' ho ha (base_eq hb) (few_ok hs hn) hl s1 s2).imp' fun σ H Q h => mth_step h
  | popAt => exact (pe_bm PySem.F.plainAttrs_list PySem.F.slot_list_pop PySem.F.type_list_pop mt_popAt' ho ha (base_eq hb) (few_ok hs hn) hl s1 s2).imp' fun σ H Q h => mth_step h
  | join => exact (pe_bm PySem.F.plainAttrs_str PySem.F.slot_str_join PySem.F.type_str_join mt_join' ho ha (base_eq hb) (few_ok hs hn) hl s1 s2).imp' fun σ H Q h => mth_step h
  | _ => cases h1
def mtArgs0 : Mt → Bool
  | .pop => true | _ => false
theorem s_mth0 {mt : Mt} {apos : Pos} (h1 : mtArgs0 mt = true) (hb : baseOk a = true) (hl : (apos.endLine == pos.line) = true) (ho : PE X a (Te X.K Z C W ia)) :
    PE X (.Call (.Attribute a (mtN mt) apos) [] [] pos) (Te X.K Z C W (.mth mt ia .nil)) := by
  cases mt with
  | pop => exact (pe_bm0 PySem.F.plainAttrs_list PySem.F.slot_list_pop PySem.F.type_list_pop mt_pop' ho (base_eq hb) hl).imp' fun σ H Q h => mth_step0 h
  | _ => cases h1
/-! ### a new list as a cell -/
theorem alloc_step {σ : L2.St} {H : Hp} {Q : VK} (hf : isFresh ia = true) (h : Te X.K Z C W (.alloc ia) σ H Q) : Te X.K Z C W ia σ H Q := by
  obtain ⟨B, m, S, δ, t, e, h⟩ := h
  refine (Mid.start t e).stepE h fun v d S1 m1 H1 l1 M1 r1 fr h1 => ?_
  have plain : (∀ xs, d ≠ .lst xs) → FinG X.K Z B m H (fun c d h => W c d σ h) (.ok d S1) (PD X.K B H false Q) → Q v H1 := fun n h2 => M1.plain h2 r1 n
  cases d with
  | lst xs =>
    obtain ⟨a1, vs, H2, rfl, h2, h3, rfl, t2, rs⟩ := (fr hf).of xs rfl
    have h1 : FinG X.K Z B m H (fun c d h => W c d σ h) (.ok (.cell S1.length) (S1 ++ [.lst xs])) (PD X.K B H false Q) := h1
    obtain ⟨r, er, hr⟩ := l1.pre
    refine h1 (m1 ++ [a1]) (upd H2 a1 (.lst vs)) ⟨⟨r ++ [a1], by rw [er, List.append_assoc], fun x hx => ?_⟩, l1.keep⟩ (t2.grow h3 rs) (.ref a1) (.cell ?_) fun f => nomatch f
    · rcases List.mem_append.mp hx with hx | hx
      · exact hr x hx
      · rw [List.mem_singleton.mp hx]; exact h2
    · rw [t2.len, List.getElem?_append_right (Nat.le_refl _)]
      simp
  | non => exact plain (fun _ e => nomatch e) h1
  | bl b => exact plain (fun _ e => nomatch e) h1
  | int b => exact plain (fun _ e => nomatch e) h1
  | str b => exact plain (fun _ e => nomatch e) h1
  | tup b => exact plain (fun _ e => nomatch e) h1
  | ro b => exact plain (fun _ e => nomatch e) h1
  | cell b => exact plain (fun _ e => nomatch e) h1
theorem s_alloc (hf : isFresh ia = true) (ha : PE X a (Te X.K Z C W ia)) : PE X a (Te X.K Z C W (.alloc ia)) := ha.imp' fun σ H Q h => alloc_step hf h
/-! ### tests -/
theorem s_truth (he : ∀ whole, isTrue a X.env whole = (do let v ← whole; standAt a.pos; holding [v] (truthy v))) (ha : PE X a (Te X.K Z C W ia)) : PT X a (Tb X.K Z C W ia) :=
  (pt_truth ha he).imp' fun σ H Q ⟨B, m, S, δ, t, e, h⟩ => by
    refine (Mid.start t e).stepE (show FinG X.K Z B m H _ (M.bind (evE C ia δ) truthM S) _ from h) fun v d S1 m1 H1 l1 M1 r1 _ h1 => ?_
    obtain ⟨k, e1, h2⟩ := FinG.opt (show FinG X.K Z B m H _ (M.opt (truthD S1 d) S1) _ from h1)
    exact ⟨k, r1.truth M1.t0 e1, (M1.here h2).now M1.t0⟩
theorem truth_bl (b : Bool) (S : Store) : truthM (.bl b) S = .ok b S := rfl
theorem evT_not (C : Cf) (a : IE) (δ : Ev) (S : Store) : evT C (.not a) δ S = M.bind (evT C a δ) (fun b => M.ret !b) S := by
  show M.bind (M.bind (M.bind (evE C a δ) truthM) fun b => M.ret (D.bl !b)) truthM S = M.bind (M.bind (evE C a δ) truthM) (fun b => M.ret !b) S
  rw [bind_bind]
  rfl
theorem evT_cmp (C : Cf) (o : Co) (a b : IE) (δ : Ev) (S : Store) : evT C (.cmp o a b) δ S = M.bind (evE C a δ) (fun x => M.bind (evE C b δ) fun y => cmpM o x y) S := by
  show M.bind (M.bind (evE C a δ) fun x => M.bind (evE C b δ) fun y => M.bind (cmpM o x y) fun t => M.ret (D.bl t)) truthM S = _
  unfold M.bind
  cases evE C a δ S with
  | ok x S1 =>
    simp only
    cases evE C b δ S1 with
    | ok y S2 =>
      simp only
      unfold cmpM M.opt
      cases cmpD S2 o x y <;> rfl
    | exc _ _ _ => rfl
    | bad => rfl
  | exc _ _ _ => rfl
  | bad => rfl
theorem evT_and (C : Cf) (a b : IE) (δ : Ev) (S : Store) : evT C (.and a b) δ S = M.bind (evT C a δ) (fun t => if t then evT C b δ else M.ret false) S := by
  show M.bind (M.bind (evE C a δ) fun x => M.bind (truthM x) fun t => if t then evE C b δ else M.ret x) truthM S = M.bind (M.bind (evE C a δ) truthM) (fun t => if t then evT C b δ else M.ret false) S
  rw [bind_bind, bind_bind]
  unfold M.bind
  cases evE C a δ S with
  | ok x S1 =>
    simp only
    unfold truthM M.opt
    cases q : truthD S1 x with
    | none => rfl
    | some t =>
      cases t with
      | true => rfl
      | false =>
        simp only [Bool.false_eq_true, if_false]
        unfold M.ret
        simp only [q]
  | exc _ _ _ => rfl
  | bad => rfl
theorem evT_or (C : Cf) (a b : IE) (δ : Ev) (S : Store) : evT C (.or a b) δ S = M.bind (evT C a δ) (fun t => if t then M.ret true else evT C b δ) S := by
  show M.bind (M.bind (evE C a δ) fun x => M.bind (truthM x) fun t => if t then M.ret x else evE C b δ) truthM S = M.bind (M.bind (evE C a δ) truthM) (fun t => if t then M.ret true else evT C b δ) S
  rw [bind_bind, bind_bind]
  unfold M.bind
  cases evE C a δ S with
  | ok x S1 =>
    simp only
    unfold truthM M.opt
    cases q : truthD S1 x with
    | none => rfl
    | some t =>
      cases t with
      | false => rfl
      | true =>
        simp only [if_true]
        unfold M.ret
        simp only [q]
  | exc _ _ _ => rfl
  | bad => rfl
theorem t_not (ha : PT X a (Tb X.K Z C W ia)) : PT X (.UnaryOp .Not a pos) (Tb X.K Z C W (.not ia)) :=
  (pt_not ha).imp' fun σ H Q ⟨B, m, S, δ, t, e, h⟩ => by
    rw [evT_not] at h
    refine (Mid.start t e).stepT h fun b S1 m1 H1 l1 M1 h1 => (FinG.ret (M1.here h1)).now M1.t0
theorem t_and {rest : List Expr} (ha : PT X a (Tb X.K Z C W ia)) (hb : PW X (.BoolOp .And (b :: rest) pos) (Tb X.K Z C W ib)) : PW X (.BoolOp .And (a :: b :: rest) pos) (Tb X.K Z C W (.and ia ib)) :=
  (pw_and ha hb).imp' fun σ H Q ⟨B, m, S, δ, t, e, h⟩ => by
    rw [evT_and] at h
    refine (Mid.start t e).stepT h fun k S1 m1 H1 l1 M1 h1 => ?_
    cases k with
    | true => exact M1.tailT h1
    | false => exact (FinG.ret (M1.here h1)).now M1.t0
theorem t_or {rest : List Expr} (ha : PT X a (Tb X.K Z C W ia)) (hb : PW X (.BoolOp .Or (b :: rest) pos) (Tb X.K Z C W ib)) : PW X (.BoolOp .Or (a :: b :: rest) pos) (Tb X.K Z C W (.or ia ib)) :=
  (pw_or ha hb).imp' fun σ H Q ⟨B, m, S, δ, t, e, h⟩ => by
    rw [evT_or] at h
    refine (Mid.start t e).stepT h fun k S1 m1 H1 l1 M1 h1 => ?_
    cases k with
    | false => exact M1.tailT h1
    | true => exact (FinG.ret (M1.here h1)).now M1.t0
theorem t_cmp {o : Co} (hu : X.A.units + 65 < cLine) (ha : PE X a (Te X.K Z C W ia)) (hb : PE X b (Te X.K Z C W ib)) (hm : behindInMarks (coOf o) b = false) : PT X (.Compare a [coOf o] [b] pos) (Tb X.K Z C W (.cmp o ia ib)) :=
  (pt_cmpR (coOp hu o) ha hb hm).imp' fun σ H Q ⟨B, m, S, δ, t, e, h⟩ => by
    rw [evT_cmp] at h
    refine (Mid.start t e).stepE h fun v d S1 m1 H1 l1 M1 r1 _ h1 => ?_
    refine M1.stepE h1 fun u d2 S2 m2 H2 l2 M2 r2 _ h2 => ?_
    obtain ⟨z, q, h3⟩ := FinG.opt (show FinG X.K Z B m H _ (M.opt (cmpD S2 o d d2) S2) _ from h2)
    exact ⟨B, m2, S2, d, d2, z, M2.t0, M1.val l2 r1, r2, q, z, rfl, (M2.here h3).now M2.t0⟩
/-- a comparison of another form, by its value -/
theorem t_val (ha : PE X a (Te X.K Z C W ia)) (hp : ∀ {te : TE}, PE X a te → PT X a (tTest te)) (hb : ∀ δ S d S', evE C ia δ S = .ok d S' → ∃ k, d = .bl k) : PT X a (Tb X.K Z C W ia) :=
  (hp ha).imp' fun σ H Q ⟨B, m, S, δ, t, e, h⟩ => by
    refine ⟨B, m, S, δ, t, e, ?_⟩
    have h : FinG X.K Z B m H (fun c d h => W c d σ h) (M.bind (evE C ia δ) truthM S) (PB Q) := h
    unfold M.bind at h
    cases q : evE C ia δ S with
    | ok d S1 =>
      obtain ⟨k, rfl⟩ := hb _ _ _ _ q
      rw [q] at h
      exact fun m' H' l t' v r _ => ⟨k, r.bl_of, h m' H' l t'⟩
    | exc c as S1 => rw [q] at h; exact h
    | bad => rw [q] at h; exact h
end
end Fb
set_option Elab.async false
set_option linter.all false
set_option maxRecDepth 100000
set_option maxHeartbeats 2000000
/-! Fb9: what is walked, targets, list comprehensions. -/
namespace Fb
open PySem PySem.Spec PyProof.Rows L2
/-- an iterator that yields these data, whatever the heap grows to -/
def JW (K : Fg) (B m : List Addr) (H : Hp) (J : It) (xs : List D) : Prop := ∀ B1 m1 S1 H1, Tr K B m B1 m1 H H1 → At K B1 m1 S1 H1 → ∀ i : Nat,
  (∀ x, xs[i]? = some x → J.go i H1 ∧ ∀ v H2, J.yld i H1 v H2 → Le m1 m1 H1 H2 ∧ At K B1 m1 S1 H2 ∧ RelD K B1 m1 H2 x v) ∧ (xs[i]? = none → J.stop i H1)
def PSrc (K : Fg) (B : List Addr) (R : It → Hp → Prop) (s : Src) (S' : Store) (m' : List Addr) (H' : Hp) : Prop := match s with
  | .xs xs => ∀ J, JW K B m' H' J xs → R J H'
  | .cl n => ∀ a, m'[n]? = some a → R (Itl K a) H'
def Ti (K : Fg) (Z : Xt) (C : Cf) (W : WX) (e : IE) : TI := fun σ H R => ∃ B m S δ, At K B m S H ∧ RelE K B m H δ σ ∧ FinG K Z B m H (fun c d h => W c d σ h) (evI C e δ S) (PSrc K B R)
theorem _root_.L2.PI.imp' {X : Cx} {tg e : Expr} {t t' : TI} (h : PI X tg e t) (i : ∀ σ H R, t' σ H R → t σ H R) : PI X tg e t' := ⟨fun pins s σ H R I q => h.run pins s σ H R I (i _ _ _ q)⟩
theorem _root_.L2.PI.or' {X : Cx} {tg e : Expr} {t t' : TI} (h : PI X tg e t) (h' : PI X tg e t') : PI X tg e (fun σ H R => t σ H R ∨ t' σ H R) := ⟨fun pins s σ H R I q => q.elim (h.run pins s σ H R I) (h'.run pins s σ H R I)⟩
section
variable {K : Fg} {B m : List Addr} {H : Hp}
theorem Tr.sqt {B1 m1 : List Addr} {H1 : Hp} {a : Addr} {vs : List V} (t : Tr K B m B1 m1 H H1) (q : QT K m H a vs) : SqT K H1 a vs := q.imp (fun h => (t.tup _ _ h.1 h.2).1) id
theorem jw_tup {a : Addr} {vs : List V} {xs : List D} (q : QT K m H a vs) (r : RelDs K B m H xs vs) : JW K B m H (Itt K a) xs := fun B1 m1 S1 H1 t t1 i => by
  have hs := t.sqt q
  refine ⟨fun x hx => ?_, fun hn => ?_⟩
  · obtain ⟨v, hv, rv⟩ := r.get hx
    refine ⟨⟨vs, v, hs, hv⟩, fun u H2 hy => ?_⟩
    obtain ⟨rfl, hy⟩ := hy
    have e := hy vs hs
    rw [hv] at e
    cases e
    exact ⟨Le.refl, t1, rv.tr t⟩
  · exact ⟨vs, hs, by rw [← r.len]; exact List.getElem?_eq_none_iff.mp hn⟩
theorem jw_lst {a : Addr} {vs : List V} {xs : List D} (q : ∀ B1 m1 H1, Tr K B m B1 m1 H H1 → SqL K H1 a vs) (r : RelDs K B m H xs vs) : JW K B m H (Itl K a) xs := fun B1 m1 S1 H1 t t1 i => by
  have hs := q _ _ _ t
  refine ⟨fun x hx => ?_, fun hn => ?_⟩
  · obtain ⟨v, hv, rv⟩ := r.get hx
    refine ⟨⟨vs, v, hs, hv⟩, fun u H2 hy => ?_⟩
    obtain ⟨rfl, hy⟩ := hy
    have e := hy vs hs
    rw [hv] at e
    cases e
    exact ⟨Le.refl, t1, rv.tr t⟩
  · exact ⟨vs, hs, by rw [← r.len]; exact List.getElem?_eq_none_iff.mp hn⟩
theorem jw_str {x : List Nat} (hx : okS x = true) : JW K B m H (Its (SO x)) (x.map fun c => .str [c]) := fun B1 m1 S1 H1 t t1 i => by
  have hsz : (SO x).cps.size = x.length := by simp [SO]
  refine ⟨fun d hd => ?_, fun hn => ?_⟩
  · rw [List.getElem?_map] at hd
    cases q : x[i]? with
    | none => rw [q] at hd; cases hd
    | some c =>
      rw [q] at hd
      cases hd
      have hi : i < x.length := (List.getElem?_eq_some_iff.mp q).1
      refine ⟨show i < (SO x).cps.size by rw [hsz]; exact hi, fun v H2 hy => ?_⟩
      obtain ⟨rfl, c2, e2, rfl⟩ := hy
      have e3 : x.toArray[i]? = some c2 := e2
      rw [List.getElem?_toArray, q] at e3
      cases e3
      exact ⟨Le.refl, t1, .str [c] (okS_sub hx fun k hk => by rw [List.mem_singleton.mp hk]; exact List.mem_of_getElem? q)⟩
  · rw [List.getElem?_map, Option.map_eq_none_iff, List.getElem?_eq_none_iff] at hn
    exact show (SO x).cps.size ≤ i by rw [hsz]; exact hn
theorem rng_get (lo : Int) (n i : Nat) : (rngD lo n)[i]? = if i < n then some (.int (lo + i)) else none := by
  unfold rngD
  rw [List.getElem?_map]
  by_cases h : i < n
  · rw [if_pos h, List.getElem?_range h]; rfl
  · rw [if_neg h, List.getElem?_eq_none (by simpa using h)]; rfl
theorem jw_rng (lo : Int) (n : Nat) : JW K B m H (Itr lo n) (rngD lo n) := fun B1 m1 S1 H1 t t1 i => by
  rw [rng_get]
  by_cases h : i < n
  · rw [if_pos h]
    refine ⟨fun x hx => ?_, fun e => nomatch e⟩
    cases hx
    refine ⟨h, fun v H2 hy => ?_⟩
    obtain ⟨rfl, rfl⟩ := hy
    exact ⟨Le.refl, t1, .int _⟩
  · rw [if_neg h]
    exact ⟨fun x hx => (nomatch hx), fun _ => Nat.le_of_not_lt h⟩
/-- a cell walked as it stands -/
theorem jc_at {S : Store} {n : Nat} {a : Addr} {ys : List D} (t : At K B m S H) (ha : m[n]? = some a) (e : lstOf S (.cell n) = some ys) (i : Nat) :
    (∀ x, ys[i]? = some x → (Itl K a).go i H ∧ ∀ v H2, (Itl K a).yld i H v H2 → H2 = H ∧ RelD K B m H x v) ∧ (ys[i]? = none → (Itl K a).stop i H) := by
  obtain ⟨p, vs, e1, hs, r⟩ := RelD.lst_of t (RelD.cell ha) e
  cases e1
  refine ⟨fun x hx => ?_, fun hn => ?_⟩
  · obtain ⟨v, hv, rv⟩ := r.get hx
    refine ⟨⟨vs, v, hs, hv⟩, fun u H2 hy => ?_⟩
    obtain ⟨rfl, hy⟩ := hy
    have e := hy vs hs
    rw [hv] at e
    cases e
    exact ⟨rfl, rv⟩
  · exact ⟨vs, hs, by rw [← r.len]; exact List.getElem?_eq_none_iff.mp hn⟩
end
section
variable {X : Cx} {Z : Xt} {C : Cf} {W : WX} {a b e tg : Expr} {ia ib ie : IE} {pos p : Pos}
theorem i_val (ha : PE X e (Te X.K Z C W ie)) {r : IE} : PI X tg e (Ti X.K Z C W (.cons ie r)) := by
  refine (PI.or' (pi_tup ha) (PI.or' (pi_list ha) (pi_str ha))).imp' fun σ H R ⟨B, m, S, δ, t, e, h⟩ => ?_
  have h : FinG X.K Z B m H (fun c d h => W c d σ h) (M.bind (evE C ie δ) (fun x => M.opt (srcD x)) S) (PSrc X.K B R) := h
  unfold M.bind at h
  cases q : evE C ie δ S with
  | bad => rw [q] at h; exact False.elim h
  | exc c as S1 =>
    rw [q] at h
    exact .inl ⟨B, m, S, δ, t, e, by rw [q]; exact h⟩
  | ok d S1 =>
    rw [q] at h
    cases d with
    | tup xs =>
      refine .inl ⟨B, m, S, δ, t, e, ?_⟩
      rw [q]
      intro m' H' l t' v rv _
      cases rv with
      | tup hq rs => exact ⟨_, rfl, ⟨_, hq.sq⟩, h m' H' l t' _ (jw_tup hq rs)⟩
    | lst xs =>
      refine .inr (.inl ⟨B, m, S, δ, t, e, ?_⟩)
      rw [q]
      intro m' H' l t' v rv _
      cases rv with
      | lst hq rs => exact ⟨_, rfl, ⟨_, hq.sq (K := X.K)⟩, h m' H' l t' _ (jw_lst (fun _ _ _ tr => SqL.of (tr.obj _ _ hq.1 hq.2.1 hq.2.2).1) rs)⟩
    | ro xs =>
      refine .inr (.inl ⟨B, m, S, δ, t, e, ?_⟩)
      rw [q]
      intro m' H' l t' v rv _
      cases rv with
      | ro hq rs => exact ⟨_, rfl, ⟨_, hq.sq⟩, h m' H' l t' _ (jw_lst (fun _ _ _ tr => hq.imp (fun z => (tr.rd z.1 z.2.1 z.2.2).1) id) rs)⟩
    | str x =>
      refine .inr (.inr ⟨B, m, S, δ, t, e, ?_⟩)
      rw [q]
      intro m' H' l t' v rv _
      exact ⟨_, rv.str_of, h m' H' l t' _ (jw_str rv.str_ok)⟩
    | cell n =>
      refine .inr (.inl ⟨B, m, S, δ, t, e, ?_⟩)
      rw [q]
      intro m' H' l t' v rv _
      obtain ⟨a, rfl, ha⟩ := rv.cell_of
      obtain ⟨vs, hv⟩ := t'.mlive (List.mem_of_getElem? ha)
      exact ⟨a, rfl, ⟨vs, SqL.of hv⟩, h m' H' l t' a ha⟩
    | non => exact False.elim h
    | bl _ => exact False.elim h
    | int _ => exact False.elim h
theorem big62_eq : big62 = 2 ^ 62 := by decide
theorem i_rng1 (hg : Gl X "range") (hm : X.mg "range" = none) (hs : notStar a = true) (ha : PE X a (Te X.K Z C W ia)) : PI X tg (.Call (.Name "range" p) [a] [] pos) (Ti X.K Z C W (.rng1 ia)) :=
  (pi_range1 hg hm (pa_cons ha pa_nil (star_cons hs)) (star_cons hs)).imp' fun σ H R ⟨B, m, S, δ, t, e, h⟩ => by
    refine (Mid.start t e).stepE h fun v d S1 m1 H1 l1 M1 r1 _ h1 => ?_
    cases d with
    | int j =>
      have h1 : FinG X.K Z B m H (fun c d h => W c d σ h) ((if -big62 ≤ j ∧ j < big62 then M.ret (.xs (rngD 0 j.toNat)) else M.bad : M Src) S1) (PSrc X.K B R) := h1
      by_cases hz : -big62 ≤ j ∧ j < big62
      · rw [if_pos hz] at h1
        rw [big62_eq] at hz
        exact ⟨j, by rw [r1.int_of], hz.1, hz.2, (FinG.ret (M1.here h1)).now M1.t0 _ (jw_rng 0 j.toNat)⟩
      · rw [if_neg hz] at h1; exact False.elim h1
    | _ => exact False.elim h1
theorem i_rng2 (hg : Gl X "range") (hm : X.mg "range" = none) (hs : notStar a = true) (hs2 : notStar b = true) (ha : PE X a (Te X.K Z C W ia)) (hb : PE X b (Te X.K Z C W ib)) : PI X tg (.Call (.Name "range" p) [a, b] [] pos) (Ti X.K Z C W (.rng2 ia ib)) :=
  (pi_range2 hg hm (pa_cons ha (pa_cons hb pa_nil (star_cons hs2)) (star_cons hs)) (by rw [star_cons hs, star_cons hs2]; rfl) (star_cons hs2)).imp' fun σ H R ⟨B, m, S, δ, t, e, h⟩ => by
    refine (Mid.start t e).stepE h fun v d S1 m1 H1 l1 M1 r1 _ h1 => ?_
    refine M1.stepE h1 fun u d2 S2 m2 H2 l2 M2 r2 _ h2 => ?_
    cases d with
    | int i =>
      cases d2 with
      | int j =>
        have h2 : FinG X.K Z B m H (fun c d h => W c d σ h) ((if -big62 ≤ i ∧ i < big62 ∧ -big62 ≤ j ∧ j < big62 then M.ret (.xs (rngD i (j - i).toNat)) else M.bad : M Src) S2) (PSrc X.K B R) := h2
        by_cases hz : -big62 ≤ i ∧ i < big62 ∧ -big62 ≤ j ∧ j < big62
        · rw [if_pos hz] at h2
          rw [big62_eq] at hz
          exact ⟨i, j, by rw [r1.int_of, r2.int_of], hz, (FinG.ret (M2.here h2)).now M2.t0 _ (jw_rng i (j - i).toNat)⟩
        · rw [if_neg hz] at h2; exact False.elim h2
      | _ => exact False.elim h2
    | _ => exact False.elim h2
/-! ### targets -/
/-- a target's reading: from the evaluator's slots -/
def Tg (K : Fg) (p : Pat) : TG := fun v σ H Q => ∃ B m S δ d δ', At K B m S H ∧ RelE K B m H δ σ ∧ RelD K B m H d v ∧ patE p d S δ = some δ' ∧ ∀ σ', RelE K B m H δ' σ' → wipe σ' (match p with
  | .nm i => [i]
  | .tp is => is) = wipe σ (match p with
  | .nm i => [i]
  | .tp is => is) → Q σ' H
theorem wipe_set {i : Nat} {v : V} : ∀ (vs : List Nat) (σ : L2.St), i ∈ vs → wipe (σ.set i (some v)) vs = wipe σ vs
  | [], _, h => by cases h
  | j :: vs, σ, h => by
    show (wipe (σ.set i (some v)) vs).set j none = (wipe σ vs).set j none
    by_cases hm : i ∈ vs
    · rw [wipe_set vs σ hm]
    · have e : i = j := (List.mem_cons.mp h).resolve_right hm
      subst e
      have comm : ∀ (ws : List Nat) (τ : L2.St), i ∉ ws → wipe (τ.set i (some v)) ws = (wipe τ ws).set i (some v) := by
        intro ws
        induction ws with
        | nil => intro τ _; rfl
        | cons k ws ih =>
          intro τ hn
          show (wipe (τ.set i (some v)) ws).set k none = ((wipe τ ws).set k none).set i (some v)
          rw [ih τ (fun z => hn (List.mem_cons_of_mem _ z)), List.set_comm _ _ (fun z => hn (by rw [z]; exact List.mem_cons_self))]
      rw [comm vs σ hm, List.set_set]
theorem g_name {i : Nat} {x : Str} (hN : X.N.Nodup) (hi : X.N[i]? = some x) (hx : Loc X.env.scope x) (hf : X.fn x = true ∨ X.env.scope.names.lookup x = some .local) : PG X (.Name x pos) (Tg X.K (.nm i)) := by
  have h0 := pg_name (X := X) (pos := pos) hN hi hx hf
  refine ⟨fun pins s σ H v u Q I r h => h0.run pins s σ H v u Q I r ?_⟩
  obtain ⟨B, m, S, δ, d, δ', t, e, rd, hp, q⟩ := h
  cases hp
  exact q _ (e.set rd i) (wipe_set [i] σ (List.mem_singleton_self i))
/-- names one behind another -/
def nmEs : List (Str × Pos) → List Expr
  | [] => []
  | (x, p) :: r => .Name x p :: nmEs r
theorem each_names (env : Env) : ∀ xs : List (Str × Pos), (assignEach (nmEs xs) env).length = xs.length ∧ (assignEach (nmEs xs) env).findIdx? (·.1) = none
  | [] => ⟨rfl, rfl⟩
  | (x, p) :: r => by
    obtain ⟨h1, h2⟩ := each_names env r
    refine ⟨by show (assignEach (nmEs r) env).length + 1 = _; rw [h1]; rfl, ?_⟩
    show List.findIdx? (·.1) ((false, assign (.Name x p) env) :: assignEach (nmEs r) env) = none
    rw [List.findIdx?_cons, h2]
    rfl
def gSetAll (is : List Nat) : TGs := fun vs σ H Q => vs.length = is.length ∧ Q ((is.zip vs).foldl (fun τ p => τ.set p.1 (some p.2)) σ) H
theorem pgs_names (hN : X.N.Nodup) : ∀ (xs : List (Str × Pos)) (is : List Nat), xs.length = is.length → (∀ q ∈ is.zip xs, X.N[q.1]? = some q.2.1 ∧ Loc X.env.scope q.2.1 ∧ (X.fn q.2.1 = true ∨ X.env.scope.names.lookup q.2.1 = some .local)) → PGs X (nmEs xs) (gSetAll is)
  | [], [], _, _ => ⟨fun pins s σ H vs us Q I r h => pgs_nil.run pins s σ H vs us Q I r ⟨List.eq_nil_of_length_eq_zero h.1, by have e := List.eq_nil_of_length_eq_zero h.1; subst e; exact h.2⟩⟩
  | (x, p) :: r, i :: is, hl, h => by
    obtain ⟨h1, h2, h3⟩ := h (i, (x, p)) (by simp)
    have h0 := pgs_cons (pg_name (pos := p) hN h1 h2 h3) (pgs_names hN r is (by simpa using hl) fun q hq => h q (by simp [hq]))
    refine ⟨fun pins s σ H vs us Q I rv q => h0.run pins s σ H vs us Q I rv ?_⟩
    obtain ⟨q1, q2⟩ := q
    cases vs with
    | nil => simp at q1
    | cons v vr => exact ⟨v, vr, rfl, by simpa using q1, q2⟩
theorem setAll_rel {K : Fg} {B m : List Addr} {H : Hp} : ∀ {is : List Nat} {ds : List D} {vs : List V} {δ δ' : Ev} {σ : L2.St}, RelE K B m H δ σ → RelDs K B m H ds vs → setAll is ds δ = some δ' →
    vs.length = is.length ∧ RelE K B m H δ' ((is.zip vs).foldl (fun τ p => τ.set p.1 (some p.2)) σ)
  | [], [], _, δ, δ', σ, e, .nil, h => by cases h; exact ⟨rfl, e⟩
  | [], _ :: _, _, _, _, _, _, _, h => by cases h
  | _ :: _, [], _, _, _, _, _, _, h => by cases h
  | i :: is, d :: ds, _, δ, δ', σ, e, .cons r s, h => by
    obtain ⟨h1, h2⟩ := setAll_rel (e.set r i) s (show setAll is ds (δ.set i (some d)) = some δ' from h)
    exact ⟨by simp [h1], h2⟩
theorem wipe_all (vs : List Nat) : ∀ (is : List Nat) (us : List V) (σ : L2.St), (∀ i ∈ is, i ∈ vs) → wipe ((is.zip us).foldl (fun τ p => τ.set p.1 (some p.2)) σ) vs = wipe σ vs
  | [], _, _, _ => rfl
  | _ :: _, [], _, _ => rfl
  | i :: is, u :: us, σ, h => by
    show wipe ((is.zip us).foldl _ (σ.set i (some u))) vs = _
    rw [wipe_all vs is us _ fun j hj => h j (List.mem_cons_of_mem _ hj), wipe_set vs σ (h i List.mem_cons_self)]
theorem g_tup {xs : List (Str × Pos)} {is : List Nat} {k : Nat} (hc : X.calm = true) (hN : X.N.Nodup) (hl : xs.length = is.length) (h : ∀ q ∈ is.zip xs, X.N[q.1]? = some q.2.1 ∧ Loc X.env.scope q.2.1 ∧ (X.fn q.2.1 = true ∨ X.env.scope.names.lookup q.2.1 = some .local)) :
    PG X (.Tuple (nmEs xs) k pos) (Tg X.K (.tp is)) := by
  obtain ⟨e1, e2⟩ := each_names X.env xs
  have h0 := pg_tup (pos := pos) (k := k) hc (pgs_names hN xs is hl h) e1 e2
  have h1 := pg_lst (pos := pos) (k := k) hc (pgs_names hN xs is hl h) e1 e2
  refine ⟨fun pins s σ H v u Q I r q => ?_⟩
  obtain ⟨B, m, S, δ, d, δ', t, e, rd, hp, q⟩ := q
  unfold patE at hp
  cases hs : seqOf S d with
  | none => rw [hs] at hp; cases hp
  | some ds =>
    simp only [hs] at hp
    obtain ⟨a, vs, rfl, hsq, rs⟩ := rd.seq_of t hs
    obtain ⟨g1, g2⟩ := setAll_rel e rs hp
    rcases hsq with hq | hq
    · exact h1.run pins s σ H _ u Q I r ⟨a, vs, rfl, hq, by rw [g1, hl], g1, q _ g2 (wipe_all is is vs σ fun i hi => hi)⟩
    · exact h0.run pins s σ H _ u Q I r ⟨a, vs, rfl, hq, by rw [g1, hl], g1, q _ g2 (wipe_all is is vs σ fun i hi => hi)⟩
end
end Fb
set_option Elab.async false
set_option linter.all false
set_option maxRecDepth 100000
set_option maxHeartbeats 4000000
/-! Fb10: list comprehensions. -/
namespace Fb
open PySem PySem.Spec PyProof.Rows L2
section
variable {K : Fg} {B m m1 m' : List Addr} {S S1 : Store} {H H1 H2 H' : Hp} {D : Addr}
/-- a new object that is hidden from then on -/
theorem hide_tr (t : At K B m S H) (l : Le m m' H H') (hD : H D = none) (vs : List V) (hH : H' D = some (.lst vs)) : Tr K B m (D :: B) m' H H' := by
  have x := l.tr t
  refine ⟨x.tup, fun a u h hb hm => ?_, x.cell⟩
  obtain ⟨h1, h2, h3⟩ := x.obj a u h hb hm
  refine ⟨h1, fun z => ?_, h3⟩
  rcases List.mem_cons.mp z with e | z
  · rw [e, hD] at h; cases h
  · exact h2 z
theorem hide_at (t : At K B m S H) (hD : H D = none) (vs : List V) : At K (D :: B) m S (upd H D (.lst vs)) := by
  have t1 := t.new (o := .lst vs) hD
  have f := t.fresh hD
  have tr := hide_tr t (Le.new t (o := .lst vs) hD) hD vs upd_same
  refine ⟨t.len, ?_, fun a ha => ?_, fun i c a hc ha => ?_⟩
  · rw [List.cons_append]
    exact List.nodup_cons.mpr ⟨fun z => (List.mem_append.mp z).elim f.1 f.2, t.nd⟩
  · rcases List.mem_cons.mp ha with e | ha
    · rw [e, upd_same]; exact fun z => by cases z
    · exact t1.live a ha
  · have q := t.cells i c a hc ha
    cases c with
    | lst ds =>
      obtain ⟨us, e, r⟩ := q
      exact ⟨us, by rw [upd_ne (ne_of_none e hD)]; exact e, r.tr tr⟩
/-- the hidden object is written -/
theorem hid_tr {us : List V} (hH : H D = some (.lst us)) (vs : List V) : Tr K (D :: B) m (D :: B) m H (upd H D (.lst vs)) := by
  refine ⟨fun a w h hm => ⟨?_, hm⟩, fun a u h hb hm => ⟨?_, hb, hm⟩, fun _ _ h => h⟩
  · have ne : a ≠ D := fun e => by
      rw [e] at h
      rcases h with h | ⟨o, h⟩ <;> rw [hH] at h <;> cases h
    rcases h with h | ⟨o, h⟩
    · exact .inl (by rw [upd_ne ne]; exact h)
    · exact .inr ⟨o, by rw [upd_ne ne]; exact h⟩
  · rw [upd_ne (fun e => hb (by rw [e]; exact List.mem_cons_self))]
    exact h
theorem At.via (t : At K B m S H) {B2 : List Addr} {H2 : Hp} (tr : Tr K B m B2 m H H2) (nd : (B2 ++ m).Nodup) (lv : ∀ a ∈ B2, H2 a ≠ none) (ce : ∀ a ∈ m, H2 a = H a) : At K B2 m S H2 :=
  ⟨t.len, nd, lv, fun i c a hc ha => by
    have q := t.cells i c a hc ha
    cases c with
    | lst ds =>
      obtain ⟨us, e, r⟩ := q
      exact ⟨us, by rw [ce a (List.mem_of_getElem? ha)]; exact e, r.tr tr⟩⟩
theorem hid_put {us : List V} (t : At K (D :: B) m S H) (hH : H D = some (.lst us)) (vs : List V) : At K (D :: B) m S (upd H D (.lst vs)) := by
  refine t.via (hid_tr hH vs) t.nd (fun a ha => ?_) fun a ha => ?_
  · by_cases e : a = D
    · rw [e, upd_same]; exact fun z => by cases z
    · rw [upd_ne e]; exact t.live a ha
  · rw [upd_ne (fun e => t.apart (show D ∈ D :: B from List.mem_cons_self) (by rw [← e]; exact ha))]
def delH (H : Hp) (a : Addr) : Hp := fun b => if b = a then none else H b
theorem delH_ne {a b : Addr} (h : b ≠ a) : delH H a b = H b := if_neg h
theorem delH_same {a : Addr} : delH H a a = none := if_pos rfl
theorem show_tr : Tr K (D :: B) m B m H H := ⟨fun _ _ h hm => ⟨h, hm⟩, fun _ _ h hb hm => ⟨h, fun z => hb (List.mem_cons_of_mem _ z), hm⟩, fun _ _ h => h⟩
theorem del_tr {us : List V} (hH : H D = some (.lst us)) : Tr K (D :: B) m B m H (delH H D) := by
  refine ⟨fun a w h hm => ⟨?_, hm⟩, fun a u h hb hm => ⟨?_, fun z => hb (List.mem_cons_of_mem _ z), hm⟩, fun _ _ h => h⟩
  · have ne : a ≠ D := fun e => by
      rw [e] at h
      rcases h with h | ⟨o, h⟩ <;> rw [hH] at h <;> cases h
    rcases h with h | ⟨o, h⟩
    · exact .inl (by rw [delH_ne ne]; exact h)
    · exact .inr ⟨o, by rw [delH_ne ne]; exact h⟩
  · rw [delH_ne (fun e => hb (by rw [e]; exact List.mem_cons_self))]
    exact h
theorem At.shown (t : At K (D :: B) m S H) : At K B m S H :=
  t.via show_tr (List.nodup_cons.mp (by rw [← List.cons_append]; exact t.nd)).2 (fun a ha => t.live a (List.mem_cons_of_mem _ ha)) fun _ _ => rfl
theorem At.del {us : List V} (t : At K (D :: B) m S H) (hH : H D = some (.lst us)) : At K B m S (delH H D) := by
  have nd := List.nodup_cons.mp (show (D :: (B ++ m)).Nodup by rw [← List.cons_append]; exact t.nd)
  refine t.via (del_tr hH) nd.2 (fun a ha => ?_) fun a ha => ?_
  · rw [delH_ne (fun e => nd.1 (List.mem_append_left _ (by rw [← e]; exact ha)))]
    exact t.live a (List.mem_cons_of_mem _ ha)
  · exact delH_ne fun e => nd.1 (List.mem_append_right _ (by rw [← e]; exact ha))
/-- the made list, at the end -/
theorem fin_comp {Z : Xt} {V' : XK} {mo : List Addr} {So : Store} {Ho : Hp} {Q : VK} {ds : List Fb.D} {vs : List V} (to : At K B mo So Ho) (lo : Le mo m Ho H) (t : At K (D :: B) m S H) (hD : Ho D = none) (hH : H D = some (.lst vs)) (r : RelDs K (D :: B) m H ds vs)
    (h : FinG K Z B mo Ho V' (.ok (.lst ds) S) (PD K B Ho true Q)) : Q (.ref D) H := by
  have nd := List.nodup_cons.mp (show (D :: (B ++ m)).Nodup by rw [← List.cons_append]; exact t.nd)
  refine h m H lo (t.shown) _ (.lst ⟨hH, fun z => nd.1 (List.mem_append_left _ z), fun z => nd.1 (List.mem_append_right _ z)⟩ (r.tr show_tr)) fun _ => ⟨fun xs e => ?_⟩
  cases e
  refine ⟨D, vs, delH H D, rfl, hD, delH_same, ?_, t.del hH, r.tr (del_tr hH)⟩
  funext b
  by_cases hb : b = D
  · rw [hb, upd_same]; exact hH
  · rw [upd_ne hb, delH_ne hb]
theorem wipe_wipe {vs : List Nat} : ∀ (ps : List Nat) (τ : L2.St), (∀ i ∈ ps, i ∈ vs) → wipe (wipe τ ps) vs = wipe τ vs
  | [], _, _ => rfl
  | p :: ps, τ, h => by
    have one : ∀ (ws : List Nat) (ρ : L2.St), p ∈ ws → wipe (ρ.set p none) ws = wipe ρ ws := by
      intro ws
      induction ws with
      | nil => intro ρ hn; cases hn
      | cons k ws ih =>
        intro ρ hn
        show (wipe (ρ.set p none) ws).set k none = (wipe ρ ws).set k none
        by_cases hm : p ∈ ws
        · rw [ih ρ hm]
        · have e : p = k := (List.mem_cons.mp hn).resolve_right hm
          subst e
          have comm : ∀ (us : List Nat) (ξ : L2.St), p ∉ us → wipe (ξ.set p none) us = (wipe ξ us).set p none := by
            intro us
            induction us with
            | nil => intro ξ _; rfl
            | cons j us ih2 =>
              intro ξ hn2
              show (wipe (ξ.set p none) us).set j none = ((wipe ξ us).set j none).set p none
              rw [ih2 ξ (fun z => hn2 (List.mem_cons_of_mem _ z)), List.set_comm _ _ (fun z => hn2 (by rw [z]; exact List.mem_cons_self))]
          rw [comm ws ρ hm, List.set_set]
    show wipe ((wipe τ ps).set p none) vs = wipe τ vs
    rw [one vs _ (h p List.mem_cons_self), wipe_wipe ps τ fun i hi => h i (List.mem_cons_of_mem _ hi)]
theorem wipe_up {ps vs : List Nat} {τ τ' : L2.St} (h : wipe τ ps = wipe τ' ps) (hs : ∀ i ∈ ps, i ∈ vs) : wipe τ vs = wipe τ' vs := by
  rw [← wipe_wipe ps τ hs, h, wipe_wipe ps τ' hs]
end
def patS : Pat → List Nat
  | .nm i => [i]
  | .tp is => is
def Tc (K : Fg) (Z : Xt) (C : Cf) (W : WX) (e : IE) : TT := fun σ H Q => ∃ B m S δ, At K B m S H ∧ RelE K B m H δ σ ∧ FinG K Z B m H (fun c d h => W c d σ h) (evC C e δ S) (PB Q)
abbrev Wf : WX := fun _ _ _ _ => False
/-- an item's element, as the evaluator has it -/
def elF (C : Cf) (own : List Nat) (p : Pat) (c e : IE) (δ : Ev) (x : D) : M (Option D) := M.nox fun S => match patE p x S (wipeE δ own) with
  | none => .bad
  | some σ' => M.bind (evC C c σ') (fun t => if t then M.bind (evE C e σ') fun y => M.ret (some y) else M.ret none) S
theorem elF_cases {C : Cf} {own : List Nat} {p : Pat} {c e : IE} {δ : Ev} {x : D} {S : Store} {r : Res (Option D)} (h : elF C own p c e δ x S = r) : r = .bad ∨ ∃ δ' t S3, patE p x S (wipeE δ own) = some δ' ∧ evC C c δ' S = .ok t S3 ∧
    ((t = false ∧ r = .ok none S3) ∨ ∃ y S4, t = true ∧ evE C e δ' S3 = .ok y S4 ∧ r = .ok (some y) S4) := by
  subst h
  unfold elF M.nox
  cases q : patE p x S (wipeE δ own) with
  | none => exact .inl (by simp only [q])
  | some δ' =>
    simp only [q]
    unfold M.bind
    cases q2 : evC C c δ' S with
    | bad => exact .inl (by simp only)
    | exc _ _ _ => exact .inl (by simp only)
    | ok t S3 =>
      simp only
      cases t with
      | false => exact .inr ⟨δ', false, S3, rfl, q2, .inl ⟨rfl, rfl⟩⟩
      | true =>
        simp only [if_true]
        cases q3 : evE C e δ' S3 with
        | bad => exact .inl (by simp only)
        | exc _ _ _ => exact .inl (by simp only)
        | ok y S4 => exact .inr ⟨δ', true, S3, rfl, q2, .inr ⟨y, S4, rfl, q3, rfl⟩⟩
section
variable {X : Cx} {Z : Xt} {C : Cf} {W : WX}
/-- where the loop stands: D the list so far, F what is left of the run -/
structure Lc (K : Fg) (Z : Xt) (B mo : List Addr) (Ho : Hp) (V' : XK) (Q : VK) (m1 : List Addr) (H1 : Hp) (D : Addr) (δ : Ev) (σ : L2.St) (run : Nat → M (List Fb.D)) (H : Hp) : Prop where
  st : ∃ m S acc accD, H D = some (.lst acc) ∧ At K (D :: B) m S H ∧ RelDs K (D :: B) m H accD acc ∧ RelE K (D :: B) m H δ σ ∧ Le m1 m H1 H ∧
    FinG K Z B mo Ho V' (M.bind (run accD.length) (fun ys => M.ret (.lst (accD ++ ys))) S) (PD K B Ho true Q)
/-- one turn: what the evaluator does with an item, the layer does -/
theorem lc_turn {B mo m1 m : List Addr} {So S1 S : Store} {Ho H1 : Hp} {acc : List V} {accD : List Fb.D} {V' : XK} {Q : VK} {D : Addr} {δ : Ev} {σ : L2.St} {own : List Nat} {p : Pat} {c e : IE} {x : Fb.D} {run run' : Nat → M (List Fb.D)} {H : Hp} {v : V} {H2 : Hp}
    (to : At X.K B mo So Ho) (t1 : At X.K B m1 S1 H1) (hD1 : H1 D = none) (hp : ∀ i ∈ patS p, i ∈ own)
    (hD : H D = some (.lst acc)) (t : At X.K (D :: B) m S H) (ra : RelDs X.K (D :: B) m H accD acc) (re : RelE X.K (D :: B) m H δ σ) (l : Le m1 m H1 H) (h : FinG X.K Z B mo Ho V' (M.bind (run accD.length) (fun ys => M.ret (.lst (accD ++ ys))) S) (PD X.K B Ho true Q)) (hrun : ∀ k, run k = M.bind (elF C own p c e δ x) fun o => match o with
      | none => run' k
      | some y => if k < SL then M.bind (run' (k + 1)) fun ys => M.ret (y :: ys) else M.bad)
    (hy : Le m m H H2 ∧ At X.K (D :: B) m S H2 ∧ RelD X.K (D :: B) m H2 x v) :
    Tg X.K p v (wipe σ own) H2 fun σ2 H2 => wipe σ2 own = wipe σ own ∧ Tc X.K Z C Wf c σ2 H2 fun b H3 => if b = true then Te X.K Z C Wf e σ2 H3 fun y H4 => ∃ acc, H4 D = some (.lst acc) ∧ acc.length < sizeLine ∧ Lc X.K Z B mo Ho V' Q m1 H1 D δ σ run' (upd H4 D (.lst (acc ++ [y])))
      else Lc X.K Z B mo Ho V' Q m1 H1 D δ σ run' H3 := by
  obtain ⟨l2, t2, rx⟩ := hy
  have nD : ∀ {m' : List Addr} {S' : Store} {H' : Hp}, At X.K (D :: B) m' S' H' → D ∉ m' := fun {m' S' H'} a => a.apart List.mem_cons_self
  rw [hrun] at h
  cases q : elF C own p c e δ x S with
  | bad => unfold M.bind at h; rw [q] at h; exact False.elim h
  | exc cc as S9 =>
    rcases elF_cases q with z | ⟨_, _, _, _, _, ⟨_, z⟩ | ⟨_, _, _, _, z⟩⟩ <;> cases z
  | ok o S9 =>
    rw [bind_bind] at h
    unfold M.bind at h
    rw [q] at h
    rcases elF_cases q with z | ⟨δ', tt, S3, e1, e2, z⟩
    · cases z
    have re2 : RelE X.K (D :: B) m H2 (wipeE δ own) (wipe σ own) := (re.tr (l2.tr t)).wipe own
    refine ⟨D :: B, m, S, wipeE δ own, x, δ', t2, re2, rx, e1, fun σ' re3 hw => ?_⟩
    refine ⟨?_, D :: B, m, S, δ', t2, re3, ?_⟩
    · have hw2 : wipe σ' (patS p) = wipe (wipe σ own) (patS p) := by cases p <;> exact hw
      rw [wipe_up hw2 hp, wipe_wipe own σ fun i hi => hi]
    rw [e2]
    intro m3 H3 l3 t3
    have hD3 : H3 D = some (.lst acc) := l3.keep D _ (l2.keep D _ hD (nD t)) (nD t2)
    have le3 : Le m m3 H H3 := Le.trans t t2 l2 l3
    have lo3 : Le m1 m3 H1 H3 := Le.trans t1 (At.shown t) l le3
    rcases z with ⟨rfl, z⟩ | ⟨y, S4, rfl, e3, z⟩
    · cases z
      dsimp only [PB]
      rw [if_neg Bool.false_ne_true]
      exact ⟨m3, S9, acc, accD, hD3, t3, ra.tr (le3.tr t), re.tr (le3.tr t), lo3, h⟩
    · cases z
      dsimp only [PB]
      rw [if_pos rfl]
      refine ⟨D :: B, m3, S3, δ', t3, re3.tr (l3.tr t2), ?_⟩
      rw [e3]
      intro m4 H4 l4 t4 v4 r4 _
      have hD4 : H4 D = some (.lst acc) := l4.keep D _ hD3 (nD t3)
      have le4 : Le m m4 H H4 := Le.trans t t3 le3 l4
      have lo4 : Le m1 m4 H1 H4 := Le.trans t1 (At.shown t) l le4
      have h : FinG X.K Z B mo Ho V' ((M.bind (if accD.length < SL then M.bind (run' (accD.length + 1)) fun ys => M.ret (y :: ys) else M.bad) fun ys => M.ret (.lst (accD ++ ys))) S9) (PD X.K B Ho true Q) := h
      by_cases hk : accD.length < SL
      · rw [if_pos hk, bind_bind] at h
        have ra4 := ra.tr (le4.tr t)
        have tr := hid_tr (K := X.K) (B := B) (m := m4) hD4 (acc ++ [v4])
        refine ⟨acc, hD4, by rw [← ra.len, ← SL_eq]; exact hk, m4, S9, acc ++ [v4], accD ++ [y], upd_same, hid_put t4 hD4 _, (ra4.app (.cons r4 .nil)).tr tr, (re.tr (le4.tr t)).tr tr, ?_, ?_⟩
        · obtain ⟨rr, er, hr⟩ := lo4.pre
          exact ⟨⟨rr, er, hr⟩, fun a o ha hm => by rw [upd_ne (ne_of_none ha hD1)]; exact lo4.keep a o ha hm⟩
        · rw [List.length_append]
          have e5 : (fun ys : List Fb.D => (M.ret (Fb.D.lst (accD ++ [y] ++ ys)) : M Fb.D)) = fun a => M.bind (M.ret (y :: a)) fun ys => M.ret (Fb.D.lst (accD ++ ys)) := by
            funext ys
            show _ = M.ret (Fb.D.lst (accD ++ (y :: ys)))
            rw [List.append_assoc]
            rfl
          rw [e5]
          exact h
      · rw [if_neg hk] at h; exact False.elim h
theorem compM_cons (f : Fb.D → M (Option Fb.D)) (x : Fb.D) (r : List Fb.D) (k : Nat) : compM f (x :: r) k = M.bind (f x) fun o => match o with
    | none => compM f r k
    | some y => if k < SL then M.bind (compM f r (k + 1)) fun ys => M.ret (y :: ys) else M.bad := rfl
theorem comp_step {vs : List Nat} {p : Pat} {it c e : IE} {σ : L2.St} {H : Hp} {Q : VK} (hp : ∀ i ∈ patS p, i ∈ vs) (h : Te X.K Z C W (.comp vs p it c e) σ H Q) : tLc (Ti X.K Z C W it) (Tg X.K p) (Tc X.K Z C Wf c) (Te X.K Z C Wf e) vs σ H Q := by
  obtain ⟨B, m, S, δ, t, ee, h⟩ := h
  have h : FinG X.K Z B m H (fun c d h => W c d σ h) (M.bind (evI C it δ) (fun s => M.bind (compS (elF C (vs) p c e δ) C.fuel s) fun ys => M.ret (.lst ys)) S) (PD X.K B H true Q) := h
  refine ⟨B, m, S, δ, t, ee, (Mid.start t ee).part h fun s S1 m1 H1 l1 t1 h1 => ?_⟩
  have M1 := (Mid.start t ee).go l1 t1
  have start : ∀ (run : Nat → M (List Fb.D)) (D : Addr), H1 D = none → FinG X.K Z B m H (fun c d h => W c d σ h) (M.bind (run 0) (fun ys => M.ret (.lst ys)) S1) (PD X.K B H true Q) →
      Lc X.K Z B m H (fun c d h => W c d σ h) Q m1 H1 D δ σ run (upd H1 D (.lst [])) := fun run D hD hr =>
    ⟨m1, S1, [], [], upd_same, hide_at t1 hD [], .nil, M1.e.tr (hide_tr t1 (Le.new t1 hD) hD [] upd_same), Le.new t1 hD, hr⟩
  have fin : ∀ (D : Addr) (H' : Hp), H1 D = none → Lc X.K Z B m H (fun c d h => W c d σ h) Q m1 H1 D δ σ (fun _ => M.ret []) H' → Q (.ref D) H' := fun D H' hD L => by
    obtain ⟨m4, S4, acc, accD, hH, t4, ra, re, l4, hf⟩ := L.st
    have hf : FinG X.K Z B m H (fun c d h => W c d σ h) (.ok (.lst (accD ++ [])) S4) (PD X.K B H true Q) := hf
    rw [List.append_nil] at hf
    exact fin_comp t (Le.trans t t1 l1 l4) t4 (M1.none hD) hH ra hf
  cases s with
  | xs xs =>
    intro J hJ D hD
    have gone : ∀ {mm : List Addr} {HH : Hp} {vs : List V}, HH D = some (.lst vs) → Le m1 mm H1 HH → Tr X.K B m1 (D :: B) mm H1 HH := fun {mm HH vs} hh l => hide_tr t1 l hD vs hh
    refine ⟨fun i k HH => k = xs.length - i ∧ i ≤ xs.length ∧ Lc X.K Z B m H (fun c d h => W c d σ h) Q m1 H1 D δ σ (fun k => compM (elF C (vs) p c e δ) (xs.drop i) k) HH, ⟨xs.length, by simp, Nat.zero_le _, start _ D hD h1⟩, ?_⟩
    rintro i k HH ⟨rfl, hi2, L⟩
    obtain ⟨m4, S4, acc, accD, hH, t4, ra, re, l4, hf⟩ := id L.st
    have jw := hJ (D :: B) m4 S4 HH (gone hH l4) t4 i
    by_cases hlt : i < xs.length
    · have hx : xs[i]? = some xs[i] := List.getElem?_eq_getElem hlt
      obtain ⟨go, yl⟩ := jw.1 _ hx
      refine .inr ⟨go, fun H' => Lc X.K Z B m H (fun c d h => W c d σ h) Q m1 H1 D δ σ (fun k => compM (elF C (vs) p c e δ) (xs.drop (i + 1)) k) H', fun H' L' => ⟨xs.length - (i + 1), by omega, rfl, hlt, L'⟩, fun v H2 hyl => ?_⟩
      refine lc_turn (x := xs[i]) t t1 hD hp hH t4 ra re l4 hf (fun k => ?_) (yl v H2 hyl)
      rw [List.drop_eq_getElem_cons hlt]; rfl
    · refine .inl ⟨jw.2 (List.getElem?_eq_none (by omega)), fin D HH hD ?_⟩
      rw [show xs.drop i = [] from List.drop_eq_nil_of_le (by omega)] at L
      exact L
  | cl n =>
    intro a ha D hD
    refine ⟨fun i k HH => Lc X.K Z B m H (fun c d h => W c d σ h) Q m1 H1 D δ σ (fun kk => compN (elF C (vs) p c e δ) n k i kk) HH, ⟨C.fuel, start _ D hD h1⟩, ?_⟩
    rintro i k HH L
    obtain ⟨m4, S4, acc, accD, hH, t4, ra, re, l4, hf⟩ := id L.st
    obtain ⟨rr, er, _⟩ := l4.pre
    have ha4 : ∀ {mm : List Addr} {HH : Hp}, Le m1 mm H1 HH → mm[n]? = some a := fun {mm HH} l => (l.tr t1).cell n a ha
    cases k with
    | zero => exact False.elim hf
    | succ k =>
      have hf0 := hf
      unfold M.bind at hf
      rw [show compN (elF C (vs) p c e δ) n (k + 1) i accD.length S4 = (match lstOf S4 (.cell n) with
        | none => .bad
        | some xs => match xs[i]? with
          | none => .ok [] S4
          | some x => M.bind (elF C (vs) p c e δ x) (fun o => match o with
            | none => compN (elF C (vs) p c e δ) n k (i + 1) accD.length
            | some y => if accD.length < SL then M.bind (compN (elF C (vs) p c e δ) n k (i + 1) (accD.length + 1)) fun ys => M.ret (y :: ys) else M.bad) S4) from rfl] at hf
      cases q : lstOf S4 (.cell n) with
      | none => rw [q] at hf; exact False.elim hf
      | some ys =>
        rw [q] at hf
        have jc := jc_at t4 (ha4 l4) q i
        cases q2 : ys[i]? with
        | none =>
          simp only [q2] at hf
          have hf : FinG X.K Z B m H (fun c d h => W c d σ h) (.ok (.lst (accD ++ [])) S4) (PD X.K B H true Q) := hf
          exact .inl ⟨jc.2 q2, fin D HH hD ⟨m4, S4, acc, accD, hH, t4, ra, re, l4, hf⟩⟩
        | some x =>
          simp only [q2] at hf
          obtain ⟨go, yl⟩ := jc.1 x q2
          refine .inr ⟨go, fun H' => Lc X.K Z B m H (fun c d h => W c d σ h) Q m1 H1 D δ σ (fun kk => compN (elF C (vs) p c e δ) n k (i + 1) kk) H', fun H' L' => ⟨k, Nat.lt_succ_self k, L'⟩, fun v H2 hyl => ?_⟩
          refine lc_turn (x := x) (run := fun kk => M.bind (elF C (vs) p c e δ x) fun o => match o with
            | none => compN (elF C (vs) p c e δ) n k (i + 1) kk
            | some y => if kk < SL then M.bind (compN (elF C (vs) p c e δ) n k (i + 1) (kk + 1)) fun ys => M.ret (y :: ys) else M.bad) t t1 hD hp hH t4 ra re l4 hf (fun k => rfl) ?_
          obtain ⟨rfl, rv⟩ := yl v H2 hyl
          exact ⟨Le.refl, t4, rv⟩
theorem s_comp {elt tg iter : Expr} {ifs : List Expr} {scope : Scope} {own : List (Str × Nat)} {vs : List Nat} {p : Pat} {it c e : IE} {pos : Pos} (hc : X.calm = true) (hN : X.N.Nodup) (hi : PI X tg iter (Ti X.K Z C W it)) (ok : BlkOk X.N X.env.scope scope own)
    (hg : ∀ (s : Shared) (H : Hp) (Cc : Addr) (cl : List (Str × Addr)) (fp : List Addr), PG (X.blk s H scope (compEnvC scope cl Cc X.env) fp) tg (Tg X.K p))
    (ht : ∀ (s : Shared) (H : Hp) (Cc : Addr) (cl : List (Str × Addr)) (fp : List Addr), PTs (X.blk s H scope (compEnvC scope cl Cc X.env) fp) ifs (Tc X.K Z C Wf c))
    (he : ∀ (s : Shared) (H : Hp) (Cc : Addr) (cl : List (Str × Addr)) (fp : List Addr), PE (X.blk s H scope (compEnvC scope cl Cc X.env) fp) elt (Te X.K Z C Wf e))
    (hs : ∀ x, foldedSetIterable iter X.env x = pure x) (hp : ∀ i ∈ patS p, i ∈ vs) (hv : List.map (fun x => x.2) own = vs) :
    PE X (.ListComp elt [⟨tg, iter, ifs, 0⟩] scope pos) (Te X.K Z C W (.comp vs p it c e)) := by
  have h0 := pe_lc (pos := pos) hc hN hi ok hg ht he hs
  rw [hv] at h0
  exact h0.imp' fun σ H Q h => comp_step hp h
end
end Fb
set_option Elab.async false
set_option linter.all false
set_option maxRecDepth 100000
set_option maxHeartbeats 4000000
/-! Fb11: statements. -/
namespace Fb
open PySem PySem.Spec PyProof.Rows L2
abbrev NX : XK := fun _ _ _ => False
/-- what an ending asks -/
def PF (K : Fg) (Z : Xt) (B : List Addr) (W : WX) (E : Ends) (f : Fl) (S' : Store) (m' : List Addr) (H' : Hp) : Prop := match f with
  | .nx δ => ∀ σ, RelE K B m' H' δ σ → E.nx σ H'
  | .rt d => ∀ v, RelD K B m' H' d v → E.rt v H'
  | .bk δ => ∀ σ, RelE K B m' H' δ σ → E.bk σ H'
  | .ct δ => ∀ σ, RelE K B m' H' δ σ → E.ct σ H'
  | .xc c as δ => ∀ σ cls dd, RelE K B m' H' δ σ → ExRel K Z B m' H' c as cls dd → W cls dd σ H'
def Tk (K : Fg) (Z : Xt) (W : WX) (f : Ev → M Fl) : TS := fun E σ H => ∃ B m S δ, At K B m S H ∧ RelE K B m H δ σ ∧ FinG K Z B m H NX (f δ S) (PF K Z B W E)
abbrev Ss (K : Fg) (Z : Xt) (C : Cf) (W : WX) (st : IS) : TS := Tk K Z W (exS C st)
theorem _root_.L2.PS.imp' {X : Cx} {e : Stmt} {t t' : TS} (h : PS X e t) (i : ∀ E σ H, t' E σ H → t E σ H) : PS X e t' := ⟨fun pins s σ H E I q => h.run pins s σ H E I (i _ _ _ q)⟩
theorem _root_.L2.PSs.imp' {X : Cx} {e : List Stmt} {t t' : TS} (h : PSs X e t) (i : ∀ E σ H, t' E σ H → t E σ H) : PSs X e t' := ⟨fun pins s σ H E I q => h.run pins s σ H E I (i _ _ _ q)⟩
section
variable {K : Fg} {Z : Xt} {C : Cf} {W : WX} {B m m0 m1 : List Addr} {S S0 S1 : Store} {H H0 H1 : Hp} {δ : Ev} {σ : L2.St} {α β : Type} {P : β → Store → List Addr → Hp → Prop} {E : Ends}
/-- the answer of a first part, with where it stands -/
theorem FinG.part {V : XK} {f : M α} {g : α → M β} (t : At K B m S H) (h : FinG K Z B m H V (M.bind f g S) P) {R : α → Store → List Addr → Hp → Prop}
    (k : ∀ a S1 m1 H1, Le m m1 H H1 → At K B m1 S1 H1 → FinG K Z B m1 H1 V (g a S1) P → R a S1 m1 H1) : FinG K Z B m H V (f S) R := by
  unfold M.bind at h
  cases e : f S with
  | ok a S1 =>
    rw [e] at h
    exact fun m1 H1 l t1 => k a S1 m1 H1 l t1 (h.rebase t t1 l)
  | exc c as S1 => rw [e] at h; exact h
  | bad => rw [e] at h; exact h
/-- an expression's answer within a statement -/
theorem Mid.lift (J : Mid K B m m0 S S0 H H0 δ σ) {f : M α} {k : α → M Fl} (h : FinG K Z B m H NX (liftE f δ k S0) (PF K Z B W E)) {R : α → Store → List Addr → Hp → Prop}
    (kk : ∀ a S1 m1 H1, Le m0 m1 H0 H1 → At K B m1 S1 H1 → FinG K Z B m H NX (k a S1) (PF K Z B W E) → R a S1 m1 H1) : FinG K Z B m0 H0 (fun c d h => W c d σ h) (f S0) R := by
  unfold liftE at h
  cases e : f S0 with
  | ok a S1 =>
    rw [e] at h
    exact fun m1 H1 l t1 => kk a S1 m1 H1 l t1 h
  | exc c as S1 =>
    rw [e] at h
    exact fun cls dd m1 H1 l t1 x => h m1 H1 (Le.trans J.t J.t0 J.le l) t1 σ cls dd (J.e.tr (l.tr J.t0)) x
  | bad => rw [e] at h; exact h
theorem Mid.sE (J : Mid K B m m0 S S0 H H0 δ σ) {a : IE} {k : D → M Fl} (h : FinG K Z B m H NX (liftE (evE C a δ) δ k S0) (PF K Z B W E)) {R : VK}
    (kk : ∀ v d S1 m1 H1, Mid K B m m1 S S1 H H1 δ σ → RelD K B m1 H1 d v → Le m0 m1 H0 H1 → FinG K Z B m H NX (k d S1) (PF K Z B W E) → R v H1) : Te K Z C W a σ H0 R :=
  ⟨B, m0, S0, δ, J.t0, J.e, J.lift h fun d S1 m1 H1 l t1 h1 v r _ => kk v d S1 m1 H1 (J.go l t1) r l h1⟩
theorem Mid.sT (J : Mid K B m m0 S S0 H H0 δ σ) {a : IE} {k : Bool → M Fl} (h : FinG K Z B m H NX (liftE (evT C a δ) δ k S0) (PF K Z B W E)) {R : Bool → Hp → Prop}
    (kk : ∀ b S1 m1 H1, Mid K B m m1 S S1 H H1 δ σ → FinG K Z B m H NX (k b S1) (PF K Z B W E) → R b H1) : Tb K Z C W a σ H0 R :=
  ⟨B, m0, S0, δ, J.t0, J.e, J.lift h fun b S1 m1 H1 l t1 h1 => kk b S1 m1 H1 (J.go l t1) h1⟩
theorem Mid.sA (J : Mid K B m m0 S S0 H H0 δ σ) {a : IE} {k : List D → M Fl} (h : FinG K Z B m H NX (liftE (evA C a δ) δ k S0) (PF K Z B W E)) {R : List V → Hp → Prop}
    (kk : ∀ vs ds S1 m1 H1, Mid K B m m1 S S1 H H1 δ σ → RelDs K B m1 H1 ds vs → FinG K Z B m H NX (k ds S1) (PF K Z B W E) → R vs H1) : Ta K Z C W a σ H0 R :=
  ⟨B, m0, S0, δ, J.t0, J.e, J.lift h fun ds S1 m1 H1 l t1 h1 vs r => kk vs ds S1 m1 H1 (J.go l t1) r h1⟩
theorem Mid.tailS (J : Mid K B m m0 S S0 H H0 δ σ) {f : Ev → M Fl} (h : FinG K Z B m H NX (f δ S0) (PF K Z B W E)) : Tk K Z W f E σ H0 := ⟨B, m0, S0, δ, J.t0, J.e, J.here h⟩
/-- on to the next statement -/
theorem Mid.nx (J : Mid K B m m0 S S0 H H0 δ σ) {δ' : Ev} {σ' : L2.St} (h : FinG K Z B m H NX (M.ret (.nx δ') S0) (PF K Z B W E)) (r : RelE K B m0 H0 δ' σ') : E.nx σ' H0 := (FinG.ret (J.here h)).now J.t0 σ' r
theorem fin_ret (a : Fl) (t : At K B m S H) (h : FinG K Z B m H NX (M.ret a S) (PF K Z B W E)) : PF K Z B W E a S m H := h m H Le.refl t
/-- what is behind a loop's body -/
def loopK (go : Ev → M Fl) : Fl → M Fl
  | .nx σ' => go σ'
  | .ct σ' => go σ'
  | .bk σ' => M.ret (.nx σ')
  | .rt d => M.ret (.rt d)
  | .xc c as σ' => M.ret (.xc c as σ')
/-- a loop's body, then on -/
theorem body_part {f go : Ev → M Fl} {N : L2.St → Hp → Prop} (t : At K B m S H) (e : RelE K B m H δ σ) (h : FinG K Z B m H NX (M.bind (f δ) (loopK go) S) (PF K Z B W E))
    (hN : ∀ δ' σ' S1 m1 H1, Le m m1 H H1 → At K B m1 S1 H1 → RelE K B m1 H1 δ' σ' → FinG K Z B m1 H1 NX (go δ' S1) (PF K Z B W E) → N σ' H1) : Tk K Z W f { E with nx := N, ct := N, bk := E.nx } σ H := by
  refine ⟨B, m, S, δ, t, e, FinG.part t h fun o S1 m1 H1 l t1 h1 => ?_⟩
  cases o with
  | nx δ' => exact fun σ' r => hN δ' σ' S1 m1 H1 l t1 r h1
  | ct δ' => exact fun σ' r => hN δ' σ' S1 m1 H1 l t1 r h1
  | bk δ' => exact fin_ret (Z := Z) (W := W) (E := E) (.nx δ') t1 h1
  | rt d => exact fin_ret (Z := Z) (W := W) (E := E) (.rt d) t1 h1
  | xc c as δ' => exact fin_ret (Z := Z) (W := W) (E := E) (.xc c as δ') t1 h1
end
section
variable {X : Cx} {Z : Xt} {C : Cf} {W : WX} {a b c e : Expr} {es : List Expr} {ia ib ic ie ies : IE} {sa sb : IS} {st : Stmt} {rest : List Stmt} {pos : Pos}
theorem ss_nil : PSs X [] (Ss X.K Z C W .skip) := pss_nil.imp' fun E σ H ⟨B, m, S, δ, t, e, h⟩ => (Mid.start t e).nx h e
theorem ss_cons (h1 : PS X st (Ss X.K Z C W sa)) (h2 : PSs X rest (Ss X.K Z C W sb)) : PSs X (st :: rest) (Ss X.K Z C W (.seq sa sb)) :=
  (pss_cons h1 h2).imp' fun E σ H ⟨B, m, S, δ, t, e, h⟩ => by
    refine ⟨B, m, S, δ, t, e, FinG.part t (show FinG X.K Z B m H NX (M.bind (exS C sa δ) (fun o => match o with
      | .nx σ' => exS C sb σ'
      | o => M.ret o) S) (PF X.K Z B W E) from h) fun o S1 m1 H1 l t1 h1 => ?_⟩
    cases o with
    | nx δ' => exact fun σ' r => ⟨B, m1, S1, δ', t1, r, h1⟩
    | ct δ' => exact fin_ret (Z := Z) (W := W) (E := E) (.ct δ') t1 h1
    | bk δ' => exact fin_ret (Z := Z) (W := W) (E := E) (.bk δ') t1 h1
    | rt d => exact fin_ret (Z := Z) (W := W) (E := E) (.rt d) t1 h1
    | xc c as δ' => exact fin_ret (Z := Z) (W := W) (E := E) (.xc c as δ') t1 h1
theorem ss_pass : PS X (.Pass pos) (Ss X.K Z C W .skip) := ps_pass.imp' fun E σ H ⟨B, m, S, δ, t, e, h⟩ => (Mid.start t e).nx h e
theorem ss_brk : PS X (.Break pos) (Ss X.K Z C W .brk) := ps_break.imp' fun E σ H ⟨B, m, S, δ, t, e, h⟩ => fin_ret (Z := Z) (W := W) (E := E) (.bk δ) t h σ e
theorem ss_cnt : PS X (.Continue pos) (Ss X.K Z C W .cnt) := ps_continue.imp' fun E σ H ⟨B, m, S, δ, t, e, h⟩ => fin_ret (Z := Z) (W := W) (E := E) (.ct δ) t h σ e
theorem ss_retN : PS X (.Return none pos) (Ss X.K Z C W .retN) := ps_retN.imp' fun E σ H ⟨B, m, S, δ, t, e, h⟩ => fin_ret (Z := Z) (W := W) (E := E) (.rt .non) t h .non .non
theorem ss_ret (he : PE X e (Te X.K Z C W ie)) : PS X (.Return (some e) pos) (Ss X.K Z C W (.ret ie)) :=
  (ps_ret he).imp' fun E σ H ⟨B, m, S, δ, t, e, h⟩ => (Mid.start t e).sE h fun v d S1 m1 H1 M1 r l h1 => (FinG.ret (M1.here (show FinG X.K Z B m H NX (M.ret (.rt d) S1) (PF X.K Z B W E) from h1))).now M1.t0 v r
/-- not a comprehension -/
def notComp : Expr → Bool
  | .ListComp .. => false
  | .SetComp .. => false
  | .DictComp .. => false
  | _ => true
theorem sw_plain {tg : Option Expr} {l : Nat} {env : Env} (h : notComp e = true) : swapsWith e tg l env = pure false := by
  cases e <;> first | rfl | exact absurd h Bool.false_ne_true
/-- a target that is no name: nothing is exchanged -/
theorem sw_tup {ts : List Expr} {k l : Nat} {p : Pos} {env : Env} : swapsWith e (some (.Tuple ts k p)) l env = pure false := by cases e <;> rfl
theorem sw_sub {p : Pos} {l : Nat} {env : Env} : swapsWith e (some (.Subscript a b p)) l env = pure false := by cases e <;> rfl
theorem so_tup {ts : List Expr} {k l : Nat} {p : Pos} {env : Env} : swapsWithSole [.Tuple ts k p] e l env = pure false := (sw_tup : swapsWith e (some (.Tuple ts k p)) l env = pure false)
theorem so_sub {p : Pos} {l : Nat} {env : Env} : swapsWithSole [.Subscript a b p] e l env = pure false := (sw_sub : swapsWith e (some (.Subscript a b p)) l env = pure false)
def notTup : Expr → Bool
  | .Tuple .. => false
  | _ => true
theorem st_plain {tg : Expr} {env : Env} (h : notTup e = true) : swappedStores [tg] e env = pure none := by
  unfold swappedStores
  cases e <;> first | exact absurd h Bool.false_ne_true | (cases tg <;> rfl)
theorem st_sub {p : Pos} {env : Env} : swappedStores [.Subscript a b p] e env = pure none := by
  unfold swappedStores
  cases e <;> rfl
theorem ss_ex (hc : notComp e = true) (he : PE X e (Te X.K Z C W ie)) : PS X (.Expr e pos) (Ss X.K Z C W (.ex ie)) :=
  (ps_expr he (sw_plain hc)).imp' fun E σ H ⟨B, m, S, δ, t, e, h⟩ => (Mid.start t e).sE h fun v d S1 m1 H1 M1 r l h1 => M1.nx h1 M1.e
theorem set_step {i : Nat} {E : Ends} {σ : L2.St} {H : Hp} (h : Ss X.K Z C W (.set i ie) E σ H) : tAsg (Te X.K Z C W ie) (gName i) E σ H := by
  obtain ⟨B, m, S, δ, t, e, h⟩ := h
  exact (Mid.start t e).sE h fun v d S1 m1 H1 M1 r l h1 => M1.nx h1 (M1.e.set r i)
theorem ss_set {i : Nat} {x : Str} {p : Pos} (hN : X.N.Nodup) (hi : X.N[i]? = some x) (hx : Loc X.env.scope x) (hf : X.fn x = true ∨ X.env.scope.names.lookup x = some .local) (hc : notComp e = true) (he : PE X e (Te X.K Z C W ie)) :
    PS X (.Assign [.Name x p] e pos) (Ss X.K Z C W (.set i ie)) := (ps_set hN hi hx he (sw_plain hc) hf).imp' fun E σ H h => set_step h
/-- name = [..] -/
theorem ss_setC {i : Nat} {y : Str} {py : Pos} {elt tg iter : Expr} {ifs : List Expr} {scope : Scope} {own : List (Str × Nat)} {vs : List Nat} {p : Pat} {it c e : IE} {pos spos : Pos} (hN : X.N.Nodup) (hy : X.N[i]? = some y) (hyl : X.env.scope.names.lookup y = some .local)
    (hk : X.env.scope.kind = .function) (hl : (py.line == pos.line) = true) (hn : (scope.names.any fun (n, k) => n == y && (k == .local || k == .cell)) = false) (hc : X.calm = true) (hi : PI X tg iter (Ti X.K Z C W it)) (ok : BlkOk X.N X.env.scope scope own)
    (hg : ∀ (s : Shared) (H : Hp) (Cc : Addr) (cl : List (Str × Addr)) (fp : List Addr), PG (X.blk s H scope (compEnvC scope cl Cc X.env) fp) tg (Tg X.K p))
    (ht : ∀ (s : Shared) (H : Hp) (Cc : Addr) (cl : List (Str × Addr)) (fp : List Addr), PTs (X.blk s H scope (compEnvC scope cl Cc X.env) fp) ifs (Tc X.K Z C Wf c))
    (he : ∀ (s : Shared) (H : Hp) (Cc : Addr) (cl : List (Str × Addr)) (fp : List Addr), PE (X.blk s H scope (compEnvC scope cl Cc X.env) fp) elt (Te X.K Z C Wf e))
    (hs : ∀ x, foldedSetIterable iter X.env x = pure x) (hp : ∀ i ∈ patS p, i ∈ vs) (hv : List.map (fun x => x.2) own = vs) (hst : ∀ σ H Q, Te X.K Z C W ie σ H Q → Te X.K Z C W (.comp vs p it c e) σ H Q) :
    PS X (.Assign [.Name y py] (.ListComp elt [⟨tg, iter, ifs, 0⟩] scope pos) spos) (Ss X.K Z C W (.set i ie)) := by
  have h0 := ps_setLc (spos := spos) hc hN hy hyl (sw_true (elt := elt) (gs := [⟨tg, iter, ifs, 0⟩]) (l := spos.line) hk hyl hl hn) hi ok hg ht he hs
  rw [hv] at h0
  exact h0.imp' fun E σ H h => comp_step hp (hst _ _ _ (set_step h))
theorem ss_setP {xs : List (Str × Pos)} {is : List Nat} {k : Nat} {p : Pos} (hc : X.calm = true) (hN : X.N.Nodup) (hl : xs.length = is.length) (h : ∀ q ∈ is.zip xs, X.N[q.1]? = some q.2.1 ∧ Loc X.env.scope q.2.1 ∧ (X.fn q.2.1 = true ∨ X.env.scope.names.lookup q.2.1 = some .local))
    (he : PE X e (Te X.K Z C W ie)) (hw : swappedStores [.Tuple (nmEs xs) k p] e X.env = pure none) : PS X (.Assign [.Tuple (nmEs xs) k p] e pos) (Ss X.K Z C W (.setP is ie)) :=
  (ps_asg he (g_tup hc hN hl h) so_tup hw rfl).imp' fun E σ H ⟨B, m, S, δ, t, e, h⟩ => by
    refine (Mid.start t e).sE h fun v d S1 m1 H1 M1 r l h1 => ?_
    have h1 : FinG X.K Z B m H NX (match patE (.tp is) d S1 δ with
      | some σ' => M.ret (.nx σ') S1
      | none => .bad) (PF X.K Z B W E) := h1
    cases q : patE (.tp is) d S1 δ with
    | none => rw [q] at h1; exact False.elim h1
    | some δ' =>
      rw [q] at h1
      exact ⟨B, m1, S1, δ, d, δ', M1.t0, M1.e, r, q, fun σ' r' _ => M1.nx h1 r'⟩
theorem set2_of {i j : Nat} {ds : List D} {δ δ' : Ev} (h : setAll [i, j] ds δ = some δ') : ∃ x y, ds = [x, y] ∧ δ' = (δ.set i (some x)).set j (some y) := by
  match ds, h with
  | [x, y], h => exact ⟨x, y, rfl, (Option.some.inj h).symm⟩
theorem set3_of {i j l : Nat} {ds : List D} {δ δ' : Ev} (h : setAll [i, j, l] ds δ = some δ') : ∃ x y z, ds = [x, y, z] ∧ δ' = ((δ.set i (some x)).set j (some y)).set l (some z) := by
  match ds, h with
  | [x, y, z], h => exact ⟨x, y, z, rfl, (Option.some.inj h).symm⟩
theorem ss_par2 {i j : Nat} {x y : Str} {px py pt pt2 : Pos} {kt k2 : Nat} (hc : X.calm = true) (hN : X.N.Nodup) (hi : X.N[i]? = some x) (hj : X.N[j]? = some y) (hij : i ≠ j)
    (hx : X.env.scope.names.lookup x = some .local) (hy : X.env.scope.names.lookup y = some .local) (ha : PA X [a, b] (Ta X.K Z C W ies))
    (hw : swappedStores [.Tuple [.Name x px, .Name y py] kt pt] (.Tuple [a, b] k2 pt2) X.env = pure (some [x, y])) :
    PS X (.Assign [.Tuple [.Name x px, .Name y py] kt pt] (.Tuple [a, b] k2 pt2) pos) (Ss X.K Z C W (.par [i, j] ies)) :=
  (ps_par hc hN hi hj hij hx hy ha hw so_tup).imp' fun E σ H ⟨B, m, S, δ, t, e, h⟩ => by
    refine (Mid.start t e).sA h fun vs ds S1 m1 H1 M1 r h1 => ?_
    have h1 : FinG X.K Z B m H NX (match setAll [i, j] ds δ with
      | some σ' => M.ret (.nx σ') S1
      | none => .bad) (PF X.K Z B W E) := h1
    cases q : setAll [i, j] ds δ with
    | none => rw [q] at h1; exact False.elim h1
    | some δ' =>
      rw [q] at h1
      obtain ⟨x, y, rfl, rfl⟩ := set2_of q
      cases r with
      | cons r1 r =>
        cases r with
        | cons r2 r =>
          cases r
          exact ⟨_, _, rfl, M1.nx h1 ((M1.e.set r1 i).set r2 j)⟩
theorem ss_par3 {i j l : Nat} {x y z : Str} {px py pz pt pt2 : Pos} {kt k2 : Nat} (hc : X.calm = true) (hN : X.N.Nodup) (hi : X.N[i]? = some x) (hj : X.N[j]? = some y) (hl : X.N[l]? = some z) (hij : i ≠ j) (hil : i ≠ l) (hjl : j ≠ l)
    (hx : X.env.scope.names.lookup x = some .local) (hy : X.env.scope.names.lookup y = some .local) (hz : X.env.scope.names.lookup z = some .local) (ha : PA X [a, b, c] (Ta X.K Z C W ies))
    (hw : swappedStores [.Tuple [.Name x px, .Name y py, .Name z pz] kt pt] (.Tuple [a, b, c] k2 pt2) X.env = pure (some [x, y, z])) :
    PS X (.Assign [.Tuple [.Name x px, .Name y py, .Name z pz] kt pt] (.Tuple [a, b, c] k2 pt2) pos) (Ss X.K Z C W (.par [i, j, l] ies)) :=
  (ps_par3 hc hN hi hj hl hij hil hjl hx hy hz ha hw so_tup).imp' fun E σ H ⟨B, m, S, δ, t, e, h⟩ => by
    refine (Mid.start t e).sA h fun vs ds S1 m1 H1 M1 r h1 => ?_
    have h1 : FinG X.K Z B m H NX (match setAll [i, j, l] ds δ with
      | some σ' => M.ret (.nx σ') S1
      | none => .bad) (PF X.K Z B W E) := h1
    cases q : setAll [i, j, l] ds δ with
    | none => rw [q] at h1; exact False.elim h1
    | some δ' =>
      rw [q] at h1
      obtain ⟨x, y, z, rfl, rfl⟩ := set3_of q
      cases r with
      | cons r1 r =>
        cases r with
        | cons r2 r =>
          cases r with
          | cons r3 r =>
            cases r
            exact ⟨_, _, _, rfl, M1.nx h1 (((M1.e.set r1 i).set r2 j).set r3 l)⟩
theorem putD_of {S S' : Store} {x i v : D} (h : putD S x i v = some S') : ∃ n k ys j, x = .cell n ∧ i = .int k ∧ S[n]? = some (.lst ys) ∧ ixN ys.length k = some j ∧ S' = S.set n (.lst (ys.set j v)) := by
  unfold putD at h
  split at h
  · rename_i n k
    cases e : S[n]? with
    | none => rw [e] at h; cases h
    | some c =>
      cases c with
      | lst ys =>
        rw [e] at h
        simp only at h
        refine ⟨n, k, ys, ?_⟩
        by_cases h0 : k < 0
        · rw [if_pos h0] at h
          by_cases h1 : 0 ≤ k + ys.length
          · rw [if_pos h1] at h
            refine ⟨(k + ys.length).toNat, rfl, rfl, e, ?_, (Option.some.inj h).symm⟩
            unfold ixN
            rw [if_neg (by omega), if_pos (by omega)]
          · rw [if_neg h1] at h; cases h
        · rw [if_neg h0] at h
          by_cases h1 : k < ys.length
          · rw [if_pos h1] at h
            refine ⟨k.toNat, rfl, rfl, e, ?_, (Option.some.inj h).symm⟩
            unfold ixN
            rw [if_pos (by omega), if_pos h1]
          · rw [if_neg h1] at h; cases h
  · cases h
theorem ss_put {p : Pos} (hb : PlainIx b) (ha : PE X a (Te X.K Z C W ia)) (hi : PE X b (Te X.K Z C W ib)) (he : PE X e (Te X.K Z C W ie))
    (hs : ∀ v, assign (.Subscript a b p) X.env v = (do
      let ov ← holding [v] (eval a X.env)
      let iv ← holding [v, ov] (eval b X.env)
      standAt p
      holding [v, ov, iv] (setItem ov iv v)
      release [v, ov, iv] [])) : PS X (.Assign [.Subscript a b p] e pos) (Ss X.K Z C W (.put ia ib ie)) :=
  (ps_asg he (pg_sub ha hi set_list hs) so_sub st_sub rfl).imp' fun E σ H ⟨B, m, S, δ, t, e, h⟩ => by
    refine (Mid.start t e).sE h fun v d S1 m1 H1 M1 r1 l1 h1 => ?_
    refine M1.sE h1 fun o d2 S2 m2 H2 M2 r2 l2 h2 => ?_
    refine M2.sE h2 fun i d3 S3 m3 H3 M3 r3 l3 h3 => ?_
    have h3 : FinG X.K Z B m H NX (liftE (putM d2 d3 d) δ (fun _ => M.ret (.nx δ)) S3) (PF X.K Z B W E) := h3
    unfold liftE putM at h3
    cases q : putD S3 d2 d3 d with
    | none => simp only [q] at h3; exact False.elim h3
    | some S4 =>
      simp only [q] at h3
      obtain ⟨n, k, ys, j, rfl, rfl, e1, e2, rfl⟩ := putD_of q
      have r2' := M2.val l3 r2
      obtain ⟨a1, rfl, ha1⟩ := r2'.cell_of
      obtain ⟨us, hu, ru⟩ := M3.t0.cells n _ a1 e1 ha1
      have rv := M2.val l3 (M1.val l2 r1)
      refine ⟨a1, us, k, j, rfl, r3.int_of, hu, by rw [← ru.len]; exact e2, ?_⟩
      have t4 := M3.t0.put ha1 (ru.setAt j rv)
      have l4 := Le.put M3.t0 (o := .lst (us.set j v)) ha1
      exact (M3.go l4 t4).nx h3 (M3.e.tr (l4.tr M3.t0))
theorem ss_if (hc : PT X c (Tb X.K Z C W ic)) {p q : List Stmt} (ha : PSs X p (Ss X.K Z C W sa)) (hb : PSs X q (Ss X.K Z C W sb)) : PS X (.If c p q pos) (Ss X.K Z C W (.ite ic sa sb)) :=
  (ps_if hc ha hb).imp' fun E σ H ⟨B, m, S, δ, t, e, h⟩ => by
    refine (Mid.start t e).sT h fun k S1 m1 H1 M1 h1 => ?_
    cases k with
    | true => exact M1.tailS h1
    | false => exact M1.tailS h1
theorem augAdd {K : Fg} {B m : List Addr} {H : Hp} {x y d : D} {u w : V} {S S' : Store} {o : Bo} (h : augM o x y S = .ok d S') (r1 : RelD K B m H x u) (r2 : RelD K B m H y w) : S' = S ∧ ∃ i j, u = .int i ∧ w = .int j ∧ ((o = .add ∧ d = .int (i + j)) ∨ (o = .sub ∧ d = .int (i - j))) := by
  unfold augM at h
  split at h
  · cases h; exact ⟨rfl, _, _, r1.int_of, r2.int_of, .inl ⟨rfl, rfl⟩⟩
  · cases h; exact ⟨rfl, _, _, r1.int_of, r2.int_of, .inr ⟨rfl, rfl⟩⟩
  · cases h
theorem ip_of {o : Bo} (h : o = .add ∨ o = .sub) : PIp X (boOf o) (ipI fun i j => if o = .add then i + j else i - j) := by
  rcases h with rfl | rfl
  · exact ip_add
  · exact ip_sub
theorem ss_aug {o : Bo} {i : Nat} {x : Str} {p : Pos} (ho : o = .add ∨ o = .sub) (hN : X.N.Nodup) (hi : X.N[i]? = some x) (hx : Loc X.env.scope x) (hf : X.fn x = true ∨ X.env.scope.names.lookup x = some .local) (he : PE X e (Te X.K Z C W ie)) :
    PS X (.AugAssign (.Name x p) (boOf o) e pos) (Ss X.K Z C W (.aug o i ie)) :=
  (ps_aug hN hi hx he (ip_of ho) hf).imp' fun E σ H ⟨B, m, S, δ, t, e, h⟩ => by
    have h : FinG X.K Z B m H NX (liftE (M.opt (δ[i]?.join)) δ (fun x => liftE (evE C ie δ) δ fun y => liftE (augM o x y) δ fun z => M.ret (.nx (δ.set i (some z)))) S) (PF X.K Z B W E) := h
    unfold liftE M.opt at h
    cases q : δ[i]?.join with
    | none => simp only [q] at h; exact False.elim h
    | some d =>
      simp only [q] at h
      obtain ⟨v, hv, rv⟩ := e.2 i d (join_some q)
      refine ⟨v, hv, (Mid.start t e).sE (show FinG X.K Z B m H NX (liftE (evE C ie δ) δ (fun y => liftE (augM o d y) δ fun z => M.ret (.nx (δ.set i (some z)))) S) (PF X.K Z B W E) from h) fun u d2 S1 m1 H1 M1 r1 l1 h1 => ?_⟩
      have rv1 := rv.tr (l1.tr t)
      unfold liftE at h1
      cases q1 : augM o d d2 S1 with
      | bad => simp only [q1] at h1; exact False.elim h1
      | exc _ _ _ => unfold augM at q1; split at q1 <;> cases q1
      | ok d3 S3 =>
        simp only [q1] at h1
        obtain ⟨rfl, a1, a2, rfl, rfl, hz⟩ := augAdd q1 rv1 r1
        refine ⟨a1, a2, rfl, rfl, ?_⟩
        rcases hz with ⟨rfl, rfl⟩ | ⟨rfl, rfl⟩
        · exact M1.nx h1 (M1.e.set (.int _) i)
        · exact M1.nx h1 (M1.e.set (.int _) i)
/-! ### loops -/
theorem ss_while {body : List Stmt} (hp : PassesOwn (model X.prog X.w) X.A X.env X.xe) (hc : PT X c (Tb X.K Z C W ic)) (hb : PSs X body (Ss X.K Z C W sb)) : PS X (.While c body [] pos) (Ss X.K Z C W (.whl ic sb)) :=
  (ps_while hp hc hb).imp' fun E σ H ⟨B, m, S, δ, t, e, h⟩ => by
    refine ⟨fun k σ H => ∃ m S δ, At X.K B m S H ∧ RelE X.K B m H δ σ ∧ FinG X.K Z B m H NX (whlN (fun σ => evT C ic σ) (fun σ => exS C sb σ) k δ S) (PF X.K Z B W E), ⟨C.fuel, m, S, δ, t, e, h⟩, ?_⟩
    rintro k σ H ⟨m, S, δ, t, e, h⟩
    cases k with
    | zero => exact False.elim h
    | succ k =>
      refine (Mid.start t e).sT (show FinG X.K Z B m H NX (liftE (evT C ic δ) δ (fun t => if t then M.bind (exS C sb δ) fun o => match o with
        | .nx σ' => whlN (fun σ => evT C ic σ) (fun σ => exS C sb σ) k σ'
        | .ct σ' => whlN (fun σ => evT C ic σ) (fun σ => exS C sb σ) k σ'
        | .bk σ' => M.ret (.nx σ')
        | .rt d => M.ret (.rt d)
        | .xc c as σ' => M.ret (.xc c as σ')
      else M.ret (.nx δ)) S) (PF X.K Z B W E) from h) fun b S1 m1 H1 M1 h1 => ?_
      cases b with
      | false => exact M1.nx h1 M1.e
      | true =>
        rw [if_pos rfl]
        refine ⟨fun σ' H' => ∃ m S δ, At X.K B m S H' ∧ RelE X.K B m H' δ σ' ∧ FinG X.K Z B m H' NX (whlN (fun σ => evT C ic σ) (fun σ => exS C sb σ) k δ S) (PF X.K Z B W E), fun σ' H' q => ⟨k, Nat.lt_succ_self k, q⟩, ?_⟩
        refine body_part (go := fun σ' => whlN (fun σ => evT C ic σ) (fun σ => exS C sb σ) k σ') M1.t0 M1.e ?_ fun δ' σ' S2 m2 H2 l2 t2 r2 h2 => ⟨m2, S2, δ', t2, r2, h2⟩
        have e0 : loopK (fun σ' => whlN (fun σ => evT C ic σ) (fun σ => exS C sb σ) k σ') = fun o => match o with
          | .nx σ' => whlN (fun σ => evT C ic σ) (fun σ => exS C sb σ) k σ'
          | .ct σ' => whlN (fun σ => evT C ic σ) (fun σ => exS C sb σ) k σ'
          | .bk σ' => M.ret (.nx σ')
          | .rt d => M.ret (.rt d)
          | .xc c as σ' => M.ret (.xc c as σ') := by funext o; cases o <;> rfl
        rw [e0]
        exact M1.here h1
/-- an item taken, then the body -/
theorem item_part {B m : List Addr} {S : Store} {H H1 : Hp} {p : Pat} {f go : Ev → M Fl} {N : L2.St → Hp → Prop} {δ : Ev} {σ : L2.St} {x : D} {v : V} {E : Ends} (t : At X.K B m S H) (e : RelE X.K B m H δ σ) (h : FinG X.K Z B m H NX (M.bind (patB p f x δ) (loopK go) S) (PF X.K Z B W E))
    (l : Le m m H H1) (t1 : At X.K B m S H1) (rx : RelD X.K B m H1 x v)
    (hN : ∀ δ' σ' S1 m1 H2, Le m m1 H1 H2 → At X.K B m1 S1 H2 → RelE X.K B m1 H2 δ' σ' → FinG X.K Z B m1 H2 NX (go δ' S1) (PF X.K Z B W E) → N σ' H2) :
    Tg X.K p v σ H1 fun σ2 H2 => Tk X.K Z W f { E with nx := N, ct := N, bk := E.nx } σ2 H2 := by
  unfold M.bind patB at h
  cases q : patE p x S δ with
  | none => simp only [q] at h; exact False.elim h
  | some δ2 =>
    simp only [q] at h
    refine ⟨B, m, S, δ, x, δ2, t1, e.tr (l.tr t), rx, q, fun σ' r' _ => ?_⟩
    exact body_part (go := go) t1 r' (FinG.rebase t t1 l (show FinG X.K Z B m H NX (M.bind (f δ2) (loopK go) S) (PF X.K Z B W E) from h)) hN
theorem ss_for {tg iter : Expr} {body : List Stmt} {p : Pat} {it : IE} (hp : PassesOwn (model X.prog X.w) X.A X.env X.xe) (hc : X.calm = true) (hi : PI X tg iter (Ti X.K Z C W it)) (hg : PG X tg (Tg X.K p)) (hb : PSs X body (Ss X.K Z C W sb))
    (hs : ∀ x, foldedSetIterable iter X.env x = pure x) : PS X (.For tg iter body [] pos) (Ss X.K Z C W (.for p it sb)) :=
  (ps_for hp hc hi hg hb hs).imp' fun E σ H ⟨B, m, S, δ, t, e, h⟩ => by
    refine ⟨B, m, S, δ, t, e, (Mid.start t e).lift h fun s S1 m1 H1 l1 t1 h1 => ?_⟩
    have M1 := (Mid.start t e).go l1 t1
    have h1 := M1.here h1
    cases s with
    | xs xs =>
      intro J hJ
      refine ⟨fun i k σ' H' => k = xs.length - i ∧ i ≤ xs.length ∧ ∃ m' S' δ', At X.K B m' S' H' ∧ RelE X.K B m' H' δ' σ' ∧ Le m1 m' H1 H' ∧ FinG X.K Z B m' H' NX (forL (patB p fun σ' => exS C sb σ') (xs.drop i) δ' S') (PF X.K Z B W E),
        ⟨xs.length, by simp, Nat.zero_le _, m1, S1, δ, t1, M1.e, Le.refl, h1⟩, ?_⟩
      rintro i k σ' H' ⟨rfl, hi2, m', S', δ', t', e', l', h'⟩
      have jw := hJ B m' S' H' (l'.tr t1) t' i
      by_cases hlt : i < xs.length
      · have hx : xs[i]? = some xs[i] := List.getElem?_eq_getElem hlt
        obtain ⟨go, yl⟩ := jw.1 _ hx
        refine .inr ⟨go, fun σ2 H2 => ∃ m2 S2 δ2, At X.K B m2 S2 H2 ∧ RelE X.K B m2 H2 δ2 σ2 ∧ Le m1 m2 H1 H2 ∧ FinG X.K Z B m2 H2 NX (forL (patB p fun σ' => exS C sb σ') (xs.drop (i + 1)) δ2 S2) (PF X.K Z B W E),
          fun σ2 H2 q => ⟨xs.length - (i + 1), by omega, rfl, hlt, q⟩, fun v H2 hyl => ?_⟩
        obtain ⟨l2, t2, rx⟩ := yl v H2 hyl
        refine item_part (go := fun σ' => forL (patB p fun σ' => exS C sb σ') (xs.drop (i + 1)) σ') t' e' ?_ l2 t2 rx fun δ3 σ3 S3 m3 H3 l3 t3 r3 h3 => ⟨m3, S3, δ3, t3, r3, Le.trans t1 t' l' (Le.trans t' t2 l2 l3), h3⟩
        rw [List.drop_eq_getElem_cons hlt] at h'
        have e0 : loopK (fun σ' => forL (patB p fun σ' => exS C sb σ') (xs.drop (i + 1)) σ') = fun o => match o with
          | .nx σ' => forL (patB p fun σ' => exS C sb σ') (xs.drop (i + 1)) σ'
          | .ct σ' => forL (patB p fun σ' => exS C sb σ') (xs.drop (i + 1)) σ'
          | .bk σ' => M.ret (.nx σ')
          | .rt d => M.ret (.rt d)
          | .xc c as σ' => M.ret (.xc c as σ') := by funext o; cases o <;> rfl
        rw [e0]
        exact h'
      · rw [List.drop_eq_nil_of_le (by omega)] at h'
        exact .inl ⟨jw.2 (List.getElem?_eq_none (by omega)), (Mid.start t' e').nx h' e'⟩
    | cl n =>
      intro a ha
      refine ⟨fun i k σ' H' => ∃ m' S' δ', At X.K B m' S' H' ∧ RelE X.K B m' H' δ' σ' ∧ Le m1 m' H1 H' ∧ FinG X.K Z B m' H' NX (forN (patB p fun σ' => exS C sb σ') n k i δ' S') (PF X.K Z B W E),
        ⟨C.fuel, m1, S1, δ, t1, M1.e, Le.refl, h1⟩, ?_⟩
      rintro i k σ' H' ⟨m', S', δ', t', e', l', h'⟩
      cases k with
      | zero => exact False.elim h'
      | succ k =>
        have ha' : m'[n]? = some a := (l'.tr t1).cell n a ha
        cases q : lstOf S' (.cell n) with
        | none => unfold forN at h'; simp only [q] at h'; exact False.elim h'
        | some ys =>
          have jc := jc_at t' ha' q i
          cases q2 : ys[i]? with
          | none =>
            unfold forN at h'
            simp only [q, q2] at h'
            exact .inl ⟨jc.2 q2, (Mid.start t' e').nx h' e'⟩
          | some x =>
            obtain ⟨go, yl⟩ := jc.1 x q2
            refine .inr ⟨go, fun σ2 H2 => ∃ m2 S2 δ2, At X.K B m2 S2 H2 ∧ RelE X.K B m2 H2 δ2 σ2 ∧ Le m1 m2 H1 H2 ∧ FinG X.K Z B m2 H2 NX (forN (patB p fun σ' => exS C sb σ') n k (i + 1) δ2 S2) (PF X.K Z B W E),
              fun σ2 H2 q => ⟨k, Nat.lt_succ_self k, q⟩, fun v H2 hyl => ?_⟩
            obtain ⟨rfl, rx⟩ := yl v H2 hyl
            refine item_part (go := fun σ' => forN (patB p fun σ' => exS C sb σ') n k (i + 1) σ') t' e' ?_ Le.refl t' rx fun δ3 σ3 S3 m3 H3 l3 t3 r3 h3 => ⟨m3, S3, δ3, t3, r3, Le.trans t1 t' l' l3, h3⟩
            unfold forN at h'
            simp only [q, q2] at h'
            have e0 : loopK (fun σ' => forN (patB p fun σ' => exS C sb σ') n k (i + 1) σ') = fun o => match o with
              | .nx σ' => forN (patB p fun σ' => exS C sb σ') n k (i + 1) σ'
              | .ct σ' => forN (patB p fun σ' => exS C sb σ') n k (i + 1) σ'
              | .bk σ' => M.ret (.nx σ')
              | .rt d => M.ret (.rt d)
              | .xc c as σ' => M.ret (.xc c as σ') := by funext o; cases o <;> rfl
            rw [e0]
            exact h'
end
end Fb
set_option Elab.async false
set_option linter.all false
set_option maxRecDepth 100000
set_option maxHeartbeats 4000000
/-! Fb12: a def's end, calls, levels. -/
namespace Fb
open PySem PySem.Spec PyProof.Rows L2
section
variable {K : Fg} {Z : Xt} {B B' m m' : List Addr} {S S' : Store} {H H' : Hp}
/-! ### free data: what is a cell elsewhere does not matter -/
mutual
theorem RelD.hide : ∀ {d : D} {v : V}, RelD K B m H d v → D.free d = true → RelD K (B ++ m) [] H d v
  | _, _, .non, _ => .non
  | _, _, .bl b, _ => .bl b
  | _, _, .int i, _ => .int i
  | _, _, .str x h, _ => .str x h
  | _, _, .tup q r, f => .tup (q.imp (fun h => ⟨h.1, by simp⟩) id) (RelDs.hide r f)
  | _, _, .lst q r, f => .lst ⟨q.1, fun z => (List.mem_append.mp z).elim q.2.1 q.2.2, by simp⟩ (RelDs.hide r f)
  | _, _, .ro q r, f => .ro (q.imp (fun h => ⟨h.1, fun z => (List.mem_append.mp z).elim h.2.1 h.2.2, by simp⟩) id) (RelDs.hide r f)
  | _, _, .cell e, f => by cases f
theorem RelDs.hide : ∀ {ds : List D} {vs : List V}, RelDs K B m H ds vs → D.frees ds = true → RelDs K (B ++ m) [] H ds vs
  | _, _, .nil, _ => .nil
  | _, _, .cons r s, f => by
    have h := Bool.and_eq_true_iff.mp f
    exact .cons (RelD.hide r h.1) (RelDs.hide s h.2)
end
mutual
theorem RelD.show (hm : ∀ a ∈ m, ∃ vs, H a = some (.lst vs)) : ∀ {d : D} {v : V}, RelD K (B ++ m) [] H d v → RelD K B m H d v
  | _, _, .non => .non
  | _, _, .bl b => .bl b
  | _, _, .int i => .int i
  | _, _, .str x h => .str x h
  | _, _, .tup q r => .tup (q.imp (fun h => ⟨h.1, fun z => by
      obtain ⟨vs, e⟩ := hm _ z
      rcases h.1 with h | ⟨o, h⟩ <;> rw [e] at h <;> cases h⟩) id) (RelDs.show hm r)
  | _, _, .lst q r => .lst ⟨q.1, fun z => q.2.1 (List.mem_append_left _ z), fun z => q.2.1 (List.mem_append_right _ z)⟩ (RelDs.show hm r)
  | _, _, .ro q r => .ro (q.imp (fun h => ⟨h.1, fun z => h.2.1 (List.mem_append_left _ z), fun z => h.2.1 (List.mem_append_right _ z)⟩) id) (RelDs.show hm r)
  | _, _, .cell e => by simp at e
theorem RelDs.show (hm : ∀ a ∈ m, ∃ vs, H a = some (.lst vs)) : ∀ {ds : List D} {vs : List V}, RelDs K (B ++ m) [] H ds vs → RelDs K B m H ds vs
  | _, _, .nil => .nil
  | _, _, .cons r s => .cons (RelD.show hm r) (RelDs.show hm s)
end
theorem At.hideAll (t : At K B m S H) : At K (B ++ m) [] [] H :=
  ⟨rfl, by rw [List.append_nil]; exact t.nd, fun a ha => (List.mem_append.mp ha).elim (t.live a) (fun z => by
    obtain ⟨vs, e⟩ := t.mlive z
    rw [e]; exact fun w => (nomatch w)), fun i c a hc _ => by simp at hc⟩
/-- behind a run that knew no cell -/
theorem At.after (t : At K B m S H) (l : Le [] m' H H') : Le m m H H' ∧ At K B m S H' := by
  have kp : ∀ a o, H a = some o → H' a = some o := fun a o e => l.keep a o e (by simp)
  have l2 : Le m m H H' := ⟨⟨[], by simp, fun _ z => by cases z⟩, fun a o e _ => kp a o e⟩
  refine ⟨l2, t.via (l2.tr t) t.nd (fun a ha => ?_) fun a ha => ?_⟩
  · cases q : H a with
    | none => exact absurd q (t.live a ha)
    | some o => rw [kp a o q]; exact fun w => by cases w
  · obtain ⟨vs, e⟩ := t.mlive ha
    rw [e, kp a _ e]
/-! ### the own cells are let go -/
section
variable {r : List Addr} (t : At K B (m ++ r) S' H')
include t
mutual
theorem RelD.sub (g : Nat → Option D) (hg : ∀ n a d', (m ++ r)[n]? = some a → g n = some d' → RelD K B m H' d' (.ref a)) : ∀ {d d' : D} {v : V}, RelD K B (m ++ r) H' d v → D.sub g d = some d' → RelD K B m H' d' v
  | _, d', _, .non, e => by cases e; exact .non
  | _, d', _, .bl b, e => by cases e; exact .bl b
  | _, d', _, .int i, e => by cases e; exact .int i
  | _, d', _, .str x h, e => by cases e; exact .str x h
  | .tup ds, d', _, .tup q rs, e => by
    have e : (D.subs g ds).map .tup = some d' := e
    cases h : D.subs g ds with
    | none => rw [h] at e; cases e
    | some ds' =>
      rw [h] at e; cases e
      exact .tup (q.imp (fun h => ⟨h.1, fun z => h.2 (List.mem_append_left _ z)⟩) id) (RelDs.sub g hg rs h)
  | .lst ds, d', _, .lst q rs, e => by
    have e : (D.subs g ds).map .lst = some d' := e
    cases h : D.subs g ds with
    | none => rw [h] at e; cases e
    | some ds' =>
      rw [h] at e; cases e
      exact .lst ⟨q.1, q.2.1, fun z => q.2.2 (List.mem_append_left _ z)⟩ (RelDs.sub g hg rs h)
  | .ro ds, d', _, .ro q rs, e => by
    have e : (D.subs g ds).map .ro = some d' := e
    cases h : D.subs g ds with
    | none => rw [h] at e; cases e
    | some ds' =>
      rw [h] at e; cases e
      exact .ro (q.imp (fun h => ⟨h.1, h.2.1, fun z => h.2.2 (List.mem_append_left _ z)⟩) id) (RelDs.sub g hg rs h)
  | .cell n, d', _, .cell e1, e => hg _ _ _ e1 e
theorem RelDs.sub (g : Nat → Option D) (hg : ∀ n a d', (m ++ r)[n]? = some a → g n = some d' → RelD K B m H' d' (.ref a)) : ∀ {ds ds' : List D} {vs : List V}, RelDs K B (m ++ r) H' ds vs → D.subs g ds = some ds' → RelDs K B m H' ds' vs
  | _, _, _, .nil, e => by cases e; exact .nil
  | d :: ds, _, _, .cons r1 s, e => by
    unfold D.subs at e
    cases h1 : D.sub g d with
    | none => simp only [h1] at e; cases e
    | some d' =>
      cases h2 : D.subs g ds with
      | none => simp only [h1, h2] at e; cases e
      | some ds' =>
        simp only [h1, h2] at e
        cases e
        exact .cons (RelD.sub g hg r1 h1) (RelDs.sub g hg s h2)
end
omit t in
theorem mapM_rel {f : D → Option D} (hf : ∀ d d' v, RelD K B (m ++ r) H' d v → f d = some d' → RelD K B m H' d' v) : ∀ {ds ds' : List D} {vs : List V}, RelDs K B (m ++ r) H' ds vs → ds.mapM f = some ds' → RelDs K B m H' ds' vs
  | _, _, _, .nil, e => by cases e; exact .nil
  | d :: ds, ds', _, .cons r1 s, e => by
    rw [List.mapM_cons] at e
    cases h1 : f d with
    | none => rw [h1] at e; cases e
    | some d1 =>
      cases h2 : ds.mapM f with
      | none => rw [h1, h2] at e; cases e
      | some ds1 =>
        rw [h1, h2] at e
        cases e
        exact .cons (hf _ _ _ r1 h1) (mapM_rel hf s h2)
theorem cell_low {n : Nat} {a : Addr} (h : (m ++ r)[n]? = some a) (hn : n < m.length) : m[n]? = some a := by
  rw [List.getElem?_append_left hn] at h; exact h
theorem cell_high {n : Nat} {a : Addr} (h : (m ++ r)[n]? = some a) (hn : ¬ n < m.length) : a ∉ B ∧ a ∉ m := by
  rw [List.getElem?_append_right (by omega)] at h
  have hr := List.mem_of_getElem? h
  have nd := List.nodup_append.mp t.nd
  have nd2 := List.nodup_append.mp nd.2.1
  exact ⟨fun z => nd.2.2 a z a (List.mem_append_right _ hr) rfl, fun z => nd2.2.2 a z a hr rfl⟩
theorem frz_rel : ∀ (l : Nat) {d d' : D} {v : V}, RelD K B (m ++ r) H' d v → frz m.length S' l d = some d' → RelD K B m H' d' v
  | 0, d, d', v, rd, e => RelD.sub t _ (fun n a d2 h1 h2 => by
      by_cases hn : n < m.length
      · simp only [hn, if_true] at h2
        cases h2
        exact .cell (cell_low t h1 hn)
      · simp only [hn, if_false] at h2; cases h2) rd e
  | l + 1, d, d', v, rd, e => RelD.sub t _ (fun n a d2 h1 h2 => by
      by_cases hn : n < m.length
      · simp only [hn, if_true] at h2
        cases h2
        exact .cell (cell_low t h1 hn)
      · simp only [hn, if_false] at h2
        cases q : S'[n]? with
        | none => simp only [q] at h2; cases h2
        | some c =>
          cases c with
          | lst xs =>
            simp only [q] at h2
            cases q2 : xs.mapM (frz m.length S' l) with
            | none => rw [q2] at h2; cases h2
            | some ys =>
              rw [q2] at h2
              cases h2
              obtain ⟨vs, hv, rs⟩ := t.cells n _ a q h1
              obtain ⟨n1, n2⟩ := cell_high t h1 hn
              exact .lst ⟨hv, n1, n2⟩ (mapM_rel (fun d d' v => frz_rel l) rs q2)) rd e
theorem frzs_rel (l : Nat) {ds ds' : List D} {vs : List V} (rs : RelDs K B (m ++ r) H' ds vs) (e : ds.mapM (frz m.length S' l) = some ds') : RelDs K B m H' ds' vs := mapM_rel (fun d d' v => frz_rel t l) rs e
omit t in
theorem mapM_get {α β : Type} {f : α → Option β} : ∀ {xs : List α} {ys : List β}, xs.mapM f = some ys → xs.length = ys.length ∧ ∀ (i : Nat) (y : β), ys[i]? = some y → ∃ x, xs[i]? = some x ∧ f x = some y
  | [], ys, e => by cases e; exact ⟨rfl, fun i y h => by simp at h⟩
  | x :: xs, ys, e => by
    rw [List.mapM_cons] at e
    cases h1 : f x with
    | none => rw [h1] at e; cases e
    | some y1 =>
      cases h2 : xs.mapM f with
      | none => rw [h1, h2] at e; cases e
      | some ys1 =>
        rw [h1, h2] at e
        cases e
        obtain ⟨hl, hi⟩ := mapM_get h2
        refine ⟨by simp [hl], fun i y h => ?_⟩
        cases i with
        | zero => simp at h; subst h; exact ⟨x, rfl, h1⟩
        | succ i => exact hi i y (by simpa using h)
theorem frzS_at {S'' : Store} (e : frzS m.length S' = some S'') : At K B m S'' H' := by
  have e : (S'.take m.length).mapM (frzC m.length S') = some S'' := e
  obtain ⟨hl, hi⟩ := mapM_get e
  have hlen : S'.length = m.length + r.length := by rw [t.len, List.length_append]
  refine ⟨by rw [← hl, List.length_take]; omega, ?_, t.live, fun i c a hc ha => ?_⟩
  · have nd := List.nodup_append.mp t.nd
    have nd2 := List.nodup_append.mp nd.2.1
    exact List.nodup_append.mpr ⟨nd.1, nd2.1, fun a ha b hb => nd.2.2 a ha b (List.mem_append_left _ hb)⟩
  · obtain ⟨c0, h0, hf⟩ := hi i c hc
    have hlt : i < m.length := (List.getElem?_eq_some_iff.mp ha).1
    rw [List.getElem?_take_of_lt hlt] at h0
    cases c0 with
    | lst xs =>
      have hf : (xs.mapM (frz m.length S' 4)).map Cell.lst = some c := hf
      cases q : xs.mapM (frz m.length S' 4) with
      | none => rw [q] at hf; cases hf
      | some ys =>
        rw [q] at hf
        cases hf
        obtain ⟨vs, hv, rs⟩ := t.cells i _ a h0 (by rw [List.getElem?_append_left hlt]; exact ha)
        exact ⟨vs, hv, frzs_rel t 4 rs q⟩
end
theorem Le.cutR {r : List Addr} (t : At K B m S H) (l : Le m (m ++ r) H H') : Le m m H H' := ⟨⟨[], by simp, fun _ z => by cases z⟩, l.keep⟩
end
/-! ### a def -/
section
variable {K : Fg} {Z : Xt}
theorem start_of {B m : List Addr} {H : Hp} {N : List Str} {fn : Fn} {ds : List D} {vs : List V} (hl : fn.nl = N.length) (hd : ds.length = fn.np) (r : RelDs K B m H ds vs) :
    RelE K B m H (ds.map some ++ List.replicate (fn.nl - fn.np) none) (L2.start N vs) := by
  have h := start_rel r (N := N)
  rw [hl, ← hd]
  exact h
/-- the ends of a def's body -/
def endsOf (Q : VK) : Ends := { nx := fun _ H' => Q .non H', rt := Q }
theorem run_rel {C : Cf} {fn : Fn} {N : List Str} {B m : List Addr} {S : Store} {H : Hp} {ds : List D} {vs : List V} {Q : VK} {E : XK} (hl : fn.nl = N.length) (hd : ds.length = fn.np) (t : At K B m S H) (r : RelDs K B m H ds vs)
    (h : FinG K Z B m H E (runFn C fn ds S) (fun d S' m' H' => ∀ v, RelD K B m' H' d v → Q v H')) : Ss K Z C (fun cls dd _ H' => E cls dd H') fn.body (endsOf Q) (L2.start N vs) H := by
  refine ⟨B, m, S, ds.map some ++ List.replicate (fn.nl - fn.np) none, t, start_of hl hd r, ?_⟩
  unfold runFn at h
  cases q : exS C fn.body (ds.map some ++ List.replicate (fn.nl - fn.np) none) S with
  | bad => simp only [q] at h; exact h
  | exc c as S1 =>
    simp only [q] at h
    exact h.elim
  | ok f S1 =>
    simp only [q] at h
    intro m1 H1 l1 t1
    cases f with
    | nx δ' => exact fun σ' _ => h m1 H1 l1 t1 .non .non
    | rt d => exact fun v rv => h m1 H1 l1 t1 v rv
    | bk δ' => exact h.elim
    | ct δ' => exact h.elim
    | xc c as δ' => exact fun σ' cls dd _ x => h cls dd m1 H1 l1 t1 x
theorem ExRel.mapD {B m B' m' : List Addr} {H : Hp} {c : Nat} {as as' : List D} {cls : Value} {dd : Option Addr} (x : ExRel K Z B m H c as cls dd) (h : ∀ vs, RelDs K B m H as vs → RelDs K B' m' H as' vs) : ExRel K Z B' m' H c as' cls dd := by
  obtain ⟨C, fns, p, fs, vs, h1, h2, h3, h4, h5, h6, h7⟩ := x
  exact ⟨C, fns, p, fs, vs, h1, h2, h3, h4, h vs h5, h6, h7⟩
theorem call_rel {C : Cf} {fn : Fn} {N : List Str} {B m : List Addr} {S : Store} {H : Hp} {ds : List D} {vs : List V} {Q : VK} {E : XK} (hl : fn.nl = N.length) (hd : ds.length = fn.np) (t : At K B m S H) (r : RelDs K B m H ds vs)
    (h : FinG K Z B m H E (callFn C fn ds S) (fun d S' m' H' => ∀ v, RelD K B m' H' d v → Q v H')) : Ss K Z C (fun cls dd _ H' => E cls dd H') fn.body (endsOf Q) (L2.start N vs) H := by
  unfold callFn at h
  by_cases hk : fn.keep = true
  · rw [if_pos hk] at h
    exact run_rel hl hd t r h
  rw [if_neg hk] at h
  by_cases hf : D.frees ds = true
  · rw [if_pos hf] at h
    refine run_rel hl hd t.hideAll (r.hide hf) ?_
    cases q : runFn C fn ds [] with
    | bad => simp only [q] at h; exact h
    | ok d S1 =>
      simp only [q] at h
      intro m1 H1 l1 t1 v rv
      obtain ⟨l2, t2⟩ := t.after l1
      cases q2 : frz 0 S1 4 d with
      | none => simp only [q2] at h; exact False.elim h
      | some d' =>
        simp only [q2] at h
        have rv2 := frz_rel (m := []) (r := m1) t1 4 rv q2
        exact h m H1 l2 t2 v (rv2.show fun a ha => t2.mlive ha)
    | exc c as S1 =>
      simp only [q] at h
      intro cls dd m1 H1 l1 t1 x
      obtain ⟨l2, t2⟩ := t.after l1
      cases q2 : as.mapM (frz 0 S1 4) with
      | none => simp only [q2] at h; exact False.elim h
      | some as' =>
        simp only [q2] at h
        exact h cls dd m H1 l2 t2 (x.mapD fun vs rs => (frzs_rel (m := []) (r := m1) t1 4 rs q2).show fun a ha => t2.mlive ha)
  · rw [if_neg hf] at h
    refine run_rel hl hd t r ?_
    cases q : runFn C fn ds S with
    | bad => simp only [q] at h; exact h
    | ok d S1 =>
      simp only [q] at h
      intro m1 H1 l1 t1 v rv
      obtain ⟨r1, rfl, hr⟩ := l1.pre
      unfold leave at h
      rw [t.len] at h
      cases q2 : frz m.length S1 4 d with
      | none => simp only [q2] at h; exact False.elim h
      | some d' =>
        cases q3 : frzS m.length S1 with
        | none => simp only [q2, q3] at h; exact False.elim h
        | some S2 =>
          simp only [q2, q3] at h
          exact h m H1 (l1.cutR t) (frzS_at t1 q3) v (frz_rel t1 4 rv q2)
    | exc c as S1 =>
      simp only [q] at h
      intro cls dd m1 H1 l1 t1 x
      obtain ⟨r1, rfl, hr⟩ := l1.pre
      rw [t.len] at h
      cases q2 : as.mapM (frz m.length S1 4) with
      | none => simp only [q2] at h; exact False.elim h
      | some as' =>
        cases q3 : frzS m.length S1 with
        | none => simp only [q2, q3] at h; exact False.elim h
        | some S2 =>
          simp only [q2, q3] at h
          exact h cls dd m H1 (l1.cutR t) (frzS_at t1 q3) (x.mapD fun vs rs => frzs_rel t1 4 rs q2)
end
/-! ### what holds of a def's body's context -/
structure Gd (P : Program) (w : World) (K : Fg) (mg : Str → Option Value) (base : Heap) (N : List Str) (sc : Scope) (fnk : Str → Bool) (l : Nat) (W : WX) (X : Cx) : Prop where
  prog : X.prog = P
  w : X.w = w
  K : X.K = K
  mg : X.mg = mg
  base : X.base = base
  calm : X.calm = true
  N : X.N = N
  sc : X.env.scope = sc
  fn : X.fn = fnk
  room : Room l X.A
  tk : ∀ σ, PassesAt (L2.CX X.prog X.w) X σ (fun cls d H => W cls d σ H)
  tks : Takes X W
/-- a def from its body's walk -/
theorem fun_lv {P : Program} {w : World} {K : Fg} {Z : Xt} {mg : Str → Option Value} {base : Heap} {x qual : Str} {params : Arguments} {body : List Stmt} {scope : Scope} {fa : Addr} {fd : FuncData} {N ps : List Str} {C : Cf} {fn : Fn} {l : Nat} {dvs : List V}
    (F : FunD K x qual params body scope dvs [] fa fd) (Sc : FnScope N ps scope) (hn : ps.length = fn.np) (hl : fn.nl = N.length)
    (hb : ∀ X W, Gd P w K mg base N scope (fun _ => true) l W X → PassesOwn (model X.prog X.w) X.A X.env X.xe → PSs X body (Ss X.K Z C W fn.body)) :
    FnOk P w K mg base (L2.CX P w) (l + 1) fa fd ps (spF K Z fun xs => if xs.length = fn.np then callFn C fn xs else M.bad) := by
  refine F.ok Sc (fun vs H Q E ⟨B, m, S, ds, t, r, h⟩ => ?_) fun cdv A outer s H vs Q E hr ⟨B, m, S, ds, t, r, h⟩ => ?_
  · by_cases hz : ds.length = fn.np
    · rw [← r.len, hz, hn]
    · dsimp only at h
      rw [if_neg hz] at h; exact False.elim h
  · dsimp only at h
    by_cases hz : ds.length = fn.np
    · rw [if_pos hz] at h
      have tk := takes_of (X := cxOf (L2.CX P w) P w K mg base N qual scope fa cdv A outer s H E) rfl rfl rfl rfl
      exact ⟨_, hb (cxOf (L2.CX P w) P w K mg base N qual scope fa cdv A outer s H E) (fun cls dd _ H' => E cls dd H') ⟨rfl, rfl, rfl, rfl, rfl, rfl, rfl, rfl, rfl, hr, fun σ => passAt tk σ, tk⟩ (passes_of rfl), call_rel hl hz t r h⟩
    · rw [if_neg hz] at h; exact False.elim h
end Fb
set_option Elab.async false
set_option linter.all false
set_option maxRecDepth 100000
set_option maxHeartbeats 4000000
/-! Fb13: the checker: the IR against the model's syntax; what it passes is read as the evaluator has it. -/
namespace Fb
open PySem PySem.Spec PyProof.Rows L2
mutual
def D.same : D → D → Bool
  | .non, .non => true
  | .bl a, .bl b => a == b
  | .int a, .int b => a == b
  | .str a, .str b => a == b
  | .tup a, .tup b => D.sames a b
  | .lst a, .lst b => D.sames a b
  | .ro a, .ro b => D.sames a b
  | .cell a, .cell b => a == b
  | _, _ => false
def D.sames : List D → List D → Bool
  | [], [] => true
  | x :: xs, y :: ys => D.same x y && D.sames xs ys
  | _, _ => false
end
mutual
theorem same_eq : ∀ {a b : D}, D.same a b = true → a = b
  | .non, b, h => by cases b <;> first | rfl | cases h
  | .bl a, b, h => by cases b <;> first | (cases h; done) | exact congrArg D.bl (eq_of_beq h)
  | .int a, b, h => by cases b <;> first | (cases h; done) | exact congrArg D.int (eq_of_beq h)
  | .str a, b, h => by cases b <;> first | (cases h; done) | exact congrArg D.str (eq_of_beq h)
  | .tup a, b, h => by cases b <;> first | (cases h; done) | exact congrArg D.tup (sames_eq h)
  | .lst a, b, h => by cases b <;> first | (cases h; done) | exact congrArg D.lst (sames_eq h)
  | .ro a, b, h => by cases b <;> first | (cases h; done) | exact congrArg D.ro (sames_eq h)
  | .cell a, b, h => by cases b <;> first | (cases h; done) | exact congrArg D.cell (eq_of_beq h)
theorem sames_eq : ∀ {a b : List D}, D.sames a b = true → a = b
  | [], b, h => by cases b <;> first | rfl | cases h
  | x :: xs, [], h => by cases h
  | x :: xs, y :: ys, h => by
    have h2 := Bool.and_eq_true_iff.mp (show (D.same x y && D.sames xs ys) = true from h)
    rw [same_eq h2.1, sames_eq h2.2]
end
structure CC where
  N : List Str
  sc : Scope
  fn : Str → Bool
  gn : List Str
  cs : List (Str × D)
  fr : List Str
def CC.blk (c : CC) (scope : Scope) : CC := { c with sc := relS scope c.sc, fn := fun x => scope.names.lookup x == some .cell }
def visB (sc : Scope) (x : Str) : Bool := match sc.names.lookup x with
  | some .local => true
  | some .cell => true
  | some .free => true
  | _ => false
def locB (sc : Scope) (x : Str) : Bool := match sc.names.lookup x with
  | some .local => true
  | some .cell => true
  | _ => false
def plB (sc : Scope) (x : Str) : Bool := match sc.names.lookup x with
  | some .local => true
  | _ => false
def glB (sc : Scope) (x : Str) : Bool := match sc.names.lookup x with
  | some .globalImplicit => true
  | _ => false
theorem vis_of {sc : Scope} {x : Str} (h : visB sc x = true) : Vis sc x := by
  unfold visB at h
  unfold Vis
  split at h <;> simp_all
theorem loc_of {sc : Scope} {x : Str} (h : locB sc x = true) : L2.Loc sc x := by
  unfold locB at h
  unfold L2.Loc
  split at h <;> simp_all
theorem pl_of {sc : Scope} {x : Str} (h : plB sc x = true) : sc.names.lookup x = some .local := by
  unfold plB at h
  split at h <;> simp_all
theorem gl_of {sc : Scope} {x : Str} (h : glB sc x = true) : sc.names.lookup x = some .globalImplicit := by
  unfold glB at h
  split at h <;> simp_all
def frB (c : CC) (x : Str) : Bool := glB c.sc x && decide (x ∈ c.fr)
def nameB (c : CC) (i : Nat) (x : Str) : Bool := decide (c.N[i]? = some x) && locB c.sc x && (c.fn x || plB c.sc x)
def csB (x : Str) (d : D) : List (Str × D) → Bool
  | [] => false
  | (y, e) :: r => (decide (x = y) && D.same d e) || csB x d r
theorem cs_of {x : Str} {d : D} : ∀ {l : List (Str × D)}, csB x d l = true → (x, d) ∈ l
  | [], h => by cases h
  | (y, e) :: r, h => by
    rcases Bool.or_eq_true_iff.mp (show ((decide (x = y) && D.same d e) || csB x d r) = true from h) with h | h
    · have h2 := Bool.and_eq_true_iff.mp h
      have e1 := of_decide_eq_true h2.1
      have e2 := same_eq h2.2
      subst e1; subst e2
      exact List.mem_cons_self
    · exact List.mem_cons_of_mem _ (cs_of h)
def opB : Bo → Operator → Bool
  | .add, .Add => true | .sub, .Sub => true | .mul, .Mult => true | .mod, .Mod => true | .fdiv, .FloorDiv => true | .pow, .Pow => true | .shl, .LShift => true | _, _ => false
theorem op_of {o : Bo} {p : Operator} (h : opB o p = true) : p = boOf o := by cases o <;> cases p <;> first | rfl | cases h
def coB : Co → CmpOp → Bool
  | .eq, .Eq => true | .ne, .NotEq => true | .lt, .Lt => true | .le, .LtE => true | .gt, .Gt => true | .ge, .GtE => true | .isIn, .In => true | .notIn, .NotIn => true | _, _ => false
theorem co_of {o : Co} {p : CmpOp} (h : coB o p = true) : p = coOf o := by cases o <;> cases p <;> first | rfl | cases h
/-- no slice: a plain subscript -/
def plainIxB : Expr → Bool
  | .Slice .. => false
  | _ => true
theorem plainIx_of {b : Expr} (h : plainIxB b = true) : PlainIx b := by
  intro o i
  cases b <;> first | rfl | cases h
def notSet : Expr → Bool
  | .Set .. => false
  | _ => true
theorem notSet_of {e : Expr} {env : Env} (h : notSet e = true) (x : Value) : foldedSetIterable e env x = pure x := by cases e <;> first | rfl | cases h
/-- names one behind another -/
def nmOf : List Expr → Option (List (Str × Pos))
  | [] => some []
  | .Name x p :: r => (nmOf r).map ((x, p) :: ·)
  | _ => none
theorem nm_of : ∀ {es : List Expr} {xs : List (Str × Pos)}, nmOf es = some xs → es = nmEs xs
  | [], xs, h => by cases h; rfl
  | e :: r, xs, h => by
    cases e with
    | Name x p =>
      have h : (nmOf r).map ((x, p) :: ·) = some xs := h
      cases q : nmOf r with
      | none => rw [q] at h; cases h
      | some ys =>
        rw [q] at h; cases h
        rw [nm_of q]; rfl
    | _ => cases h
def namesB (c : CC) : List Nat → List (Str × Pos) → Bool
  | [], [] => true
  | i :: is, (x, _) :: xs => nameB c i x && namesB c is xs
  | _, _ => false
def patB' (c : CC) (p : Pat) (tg : Expr) : Bool := match p, tg with
  | .nm i, .Name x _ => nameB c i x
  | .tp is, .Tuple es _ _ => (match nmOf es with
    | some xs => namesB c is xs
    | none => false)
  | _, _ => false
def tysB (c : CC) : List Ty → List Expr → Bool
  | [], [] => true
  | y :: ys, .Name x _ :: r => decide (x = Str.ofString (tyS y)) && frB c x && tysB c ys r
  | _, _ => false
/-- the test of a plain expression -/
def plainT : Expr → Bool
  | .UnaryOp .Not _ _ => false
  | .BoolOp .. => false
  | .IfExp .. => false
  | .Compare .. => false
  | _ => true
theorem plainT_of {a : Expr} {env : Env} (h : plainT a = true) (whole : Sem Value) : isTrue a env whole = (do let v ← whole; standAt a.pos; holding [v] (truthy v)) := by
  cases a with
  | UnaryOp op b p => cases op <;> first | rfl | cases h
  | BoolOp => cases h
  | IfExp => cases h
  | Compare => cases h
  | _ => rfl
def ownOk (c : CC) (own : List Nat) (ps : List (Str × Nat)) : Bool := decide (ps.map (fun x => x.2) = own)
def ownPs (c : CC) (own : List Nat) : List (Str × Nat) := own.filterMap fun i => (c.N[i]?).map fun x => (x, i)
def subB (p : Pat) (own : List Nat) : Bool := (patS p).all fun i => decide (i ∈ own)
mutual
def chk : IE → CC → Bool → Expr → Bool
  | .lit d, c, m, e => (match d, e with
    | .int i, .Constant (.int j) _ _ => decide (i = j)
    | .bl b, .Constant (.bool b') _ _ => b == b'
    | .non, .Constant .none _ _ => true
    | .str x, .Constant (.str y) _ _ => decide (y = SO x) && okS x
    | _, _ => false)
  | .glo y d, c, m, e => (match e with
    | .Name x _ => decide (x = SO y) && glB c.sc x && csB x d c.cs && (x == ("__debug__" : Str)) == false
    | _ => false)
  | .var i, c, m, e => (match e with
    | .Name x _ => decide (c.N[i]? = some x) && visB c.sc x && (x == ("__debug__" : Str)) == false && (x == ("__classdict__" : Str)) == false
    | _ => false)
  | .bin o a b, c, m, e => (match e with
    | .BinOp ea op eb _ => opB o op && chk a c false ea && chk b c false eb
    | _ => false)
  | .neg a, c, m, e => (match e with
    | .UnaryOp .USub ea _ => chk a c false ea
    | _ => false)
  | .not a, c, m, e => (match e with
    | .UnaryOp .Not ea _ => chk a c m ea
    | _ => false)
  | .and a b, c, m, e => (match e with
    | .BoolOp .And (ea :: eb :: rest) pos => chk a c m ea && (match rest with
      | [] => chk b c m eb
      | _ => chk b c m (.BoolOp .And (eb :: rest) pos))
    | _ => false)
  | .or a b, c, m, e => (match e with
    | .BoolOp .Or (ea :: eb :: rest) pos => chk a c m ea && (match rest with
      | [] => chk b c m eb
      | _ => chk b c m (.BoolOp .Or (eb :: rest) pos))
    | _ => false)
  | .ite k a b, c, m, e => (match e with
    | .IfExp ek ea eb _ => !m && chk k c true ek && chk a c false ea && chk b c false eb
    | _ => false)
  | .cmp o a b, c, m, e => (match e with
    | .Compare ea [op] [eb] _ => coB o op && !behindInMarks op eb && chk a c false ea && chk b c false eb
    | _ => false)
  | .chn o o' a b d, c, m, e => (match e with
    | .Compare ea [op, op'] [eb, ed] _ => coB o op && coB o' op' && !behindInMarks op' ed && chk a c false ea && chk b c false eb && chk d c false ed
    | _ => false)
  | .tup es, c, m, e => (match e with
    | .Tuple l _ _ => chkA es c l
    | _ => false)
  | .lst es, c, m, e => (match e with
    | .List l _ => chkA es c l
    | _ => false)
  | .idx a b, c, m, e => (match e with
    | .Subscript ea eb _ => plainIxB eb && chk a c false ea && chk b c false eb
    | _ => false)
  | .sli a lo hi, c, m, e => (match e with
    | .Subscript ea (.Slice l h none _) _ => chk a c false ea && chkP lo c l && chkP hi c h
    | _ => false)
  | .call f es, c, m, e => (match e with
    | .Call (.Name x _) l [] _ => decide (c.gn[f]? = some x) && glB c.sc x && (x == ("__debug__" : Str)) == false && noStars l && chkA es c l
    | _ => false)
  | .blt b es, c, m, e => (match e with
    | .Call (.Name x _) (a :: l) [] _ => decide (x = bltN b) && frB c x && noStars (a :: l) && chkA es c (a :: l)
    | _ => false)
  | .isi a ts, c, m, e => (match e with
    | .Call (.Name x _) [ea, et] [] _ => decide (x = ("isinstance" : Str)) && frB c x && notStar ea && chk a c false ea && (match et with
      | .Name y _ => (match ts with
        | [t] => decide (y = Str.ofString (tyS t)) && frB c y
        | _ => false)
      | .Tuple es _ _ => tysB c ts es && decide (ts.length ≤ 100)
      | _ => false)
    | _ => false)
  | .mth mt a es, c, m, e => (match e with
    | .Call (.Attribute ea nm apos) l [] pos => decide (nm = mtN mt) && baseOk ea && (apos.endLine == pos.line) && chk a c false ea && (match l with
      | [] => mtArgs0 mt && (match es with
        | .nil => true
        | _ => false)
      | e :: r => mtArgs mt && decide (r.length < 28) && noStars (e :: r) && chkA es c (e :: r))
    | _ => false)
  | .comp own p it cc el, c, m, e => (match e with
    | .ListComp elt [⟨tg, iter, ifs, 0⟩] scope _ => blkC c.N c.sc scope (ownPs c own) && ownOk c own (ownPs c own) && subB p own && notSet iter && chkI it c iter &&
        patB' (c.blk scope) p tg && chkC cc (c.blk scope) ifs && chk el (c.blk scope) false elt
    | _ => false)
  | .alloc a, c, m, e => !m && isFresh a && chk a c false e
  | _, _, _, _ => false
def chkA : IE → CC → List Expr → Bool
  | .nil, _, l => l.isEmpty
  | .cons a r, c, l => (match l with
    | e :: es => notStar e && chk a c false e && chkA r c es
    | [] => false)
  | _, _, _ => false
def chkP : IE → CC → Option Expr → Bool
  | .nil, _, o => o.isNone
  | .cons a _, c, o => (match o with
    | some e => chk a c false e
    | none => false)
  | _, _, _ => false
def chkC : IE → CC → List Expr → Bool
  | .nil, _, l => l.isEmpty
  | .cons a _, c, l => (match l with
    | [e] => chk a c true e
    | _ => false)
  | _, _, _ => false
def chkI : IE → CC → Expr → Bool
  | .rng1 a, c, e => (match e with
    | .Call (.Name x _) [ea] [] _ => decide (x = ("range" : Str)) && frB c x && notStar ea && chk a c false ea
    | _ => false)
  | .rng2 a b, c, e => (match e with
    | .Call (.Name x _) [ea, eb] [] _ => decide (x = ("range" : Str)) && frB c x && notStar ea && notStar eb && chk a c false ea && chk b c false eb
    | _ => false)
  | .cons a _, c, e => chk a c false e
  | _, _, _ => false
end
end Fb
set_option Elab.async false
set_option linter.all false
set_option maxRecDepth 100000
set_option maxHeartbeats 4000000
/-! Fb14: the checker's word is sound. -/
namespace Fb
open PySem PySem.Spec PyProof.Rows L2
theorem t_chn {X : Cx} {Z : Xt} {C : Cf} {W : WX} {a b c : Expr} {ia ib ic : IE} {pos : Pos} {o o' : Co} (hu : X.A.units + 65 < cLine) (ha : PE X a (Te X.K Z C W ia)) (hb : PE X b (Te X.K Z C W ib)) (hc : PE X c (Te X.K Z C W ic)) (hm : lastMarks [coOf o, coOf o'] [b, c] = false) :
    PT X (.Compare a [coOf o, coOf o'] [b, c] pos) (Tb X.K Z C W (.chn o o' ia ib ic)) :=
  (pt_chain (coOp hu o) (coOp hu o') ha hb hc hm).imp' fun σ H Q ⟨B, m, S, δ, t, e, h⟩ => by
    have h : FinG X.K Z B m H (fun c d h => W c d σ h) (M.bind (M.bind (evE C ia δ) fun x => M.bind (evE C ib δ) fun y => M.bind (cmpM o x y) fun t =>
      if t then M.bind (evE C ic δ) fun z => M.bind (cmpM o' y z) fun t' => M.ret (.bl t') else M.ret (.bl false)) truthM S) (PB Q) := h
    rw [bind_bind] at h
    refine (Mid.start t e).stepE h fun v d S1 m1 H1 l1 M1 r1 _ h1 => ?_
    rw [bind_bind] at h1
    refine M1.stepE h1 fun u d2 S2 m2 H2 l2 M2 r2 _ h2 => ?_
    rw [bind_bind] at h2
    unfold M.bind cmpM at h2
    cases q : cmpD S2 o d d2 with
    | none => rw [q] at h2; exact False.elim h2
    | some z =>
      rw [q] at h2
      refine ⟨B, m2, S2, d, d2, z, M2.t0, M1.val l2 r1, r2, q, z, rfl, ?_⟩
      cases z with
      | false => exact ⟨false, rfl, (M2.here (FinG.ret (show FinG X.K Z B m H _ (M.ret false S2) (PB Q) from h2))).now M2.t0⟩
      | true =>
        rw [if_pos rfl]
        have h2 : FinG X.K Z B m H (fun c d h => W c d σ h) (M.bind (M.bind (evE C ic δ) (fun z => M.bind (cmpM o' d2 z) fun t' => M.ret (.bl t'))) truthM S2) (PB Q) := h2
        rw [bind_bind] at h2
        refine M2.stepE h2 fun x3 d3 S3 m3 H3 l3 M3 r3 _ h3 => ?_
        rw [bind_bind] at h3
        unfold M.bind cmpM at h3
        cases q3 : cmpD S3 o' d2 d3 with
        | none => rw [q3] at h3; exact False.elim h3
        | some z3 =>
          rw [q3] at h3
          exact ⟨B, m3, S3, d2, d3, z3, M3.t0, M2.val l3 r2, r3, q3, z3, rfl, (M3.here (FinG.ret (show FinG X.K Z B m H _ (M.ret z3 S3) (PB Q) from h3))).now M3.t0⟩
/-- what is known of a context -/
structure Gc (Z : Xt) (C : Cf) (c : CC) (W : WX) (X : Cx) : Prop where
  calm : X.calm = true
  nd : X.N.Nodup
  N : X.N = c.N
  sc : X.env.scope = c.sc
  fn : X.fn = c.fn
  un : X.A.units + 65 < cLine
  tk : ∀ σ, PassesAt (L2.CX X.prog X.w) X σ (fun cls d H => W cls d σ H)
  fns : ∀ f x, c.gn[f]? = some x → ∃ k fa fd ps, FnOk X.prog X.w X.K X.mg X.base (L2.CX X.prog X.w) k fa fd ps (spF X.K Z (C.call f)) ∧ Room k X.A ∧ X.mg x = some (.ref fa) ∧ PySem.W.keepIn X.K (.ref fa) = true ∧ Binds X.K fd ps []
  csk : ∀ x d, (x, d) ∈ c.cs → ∃ v u, X.mg x = some u ∧ RelV v u ∧ ∀ B m H, (∀ a ∈ m, H a ≠ none) → RelD X.K B m H d v
  fre : ∀ x, x ∈ c.fr → X.mg x = none
section
variable {Z : Xt} {C : Cf} {c : CC} {W : WX} {X : Cx}
theorem Gc.blk (g : Gc Z C c W X) (s : Shared) (H : Hp) (scope : Scope) (cl : List (Str × Addr)) (Cc : Addr) (fp : List Addr) : Gc Z C (c.blk scope) Wf (X.blk s H scope (compEnvC scope cl Cc X.env) fp) :=
  ⟨g.calm, g.nd, g.N, show relS scope X.env.scope = relS scope c.sc by rw [g.sc], rfl, g.un, fun σ => passAt (X := X.blk s H scope (compEnvC scope cl Cc X.env) fp) (W := Wf) takes0 σ, g.fns, g.csk, g.fre⟩
theorem Gc.gl (g : Gc Z C c W X) {x : Str} (h : glB c.sc x = true) : Gl X x := by
  show X.env.scope.names.lookup x = some .globalImplicit
  rw [g.sc]; exact gl_of h
theorem Gc.fr2 (g : Gc Z C c W X) {x : Str} (h : frB c x = true) : Gl X x ∧ X.mg x = none := by
  have h2 := Bool.and_eq_true_iff.mp h
  exact ⟨g.gl h2.1, g.fre x (of_decide_eq_true h2.2)⟩
theorem Gc.name (g : Gc Z C c W X) {i : Nat} {x : Str} (h : nameB c i x = true) : X.N[i]? = some x ∧ L2.Loc X.env.scope x ∧ (X.fn x = true ∨ X.env.scope.names.lookup x = some .local) := by
  unfold nameB at h
  simp only [Bool.and_eq_true, decide_eq_true_eq] at h
  obtain ⟨⟨h1, h2⟩, h3⟩ := h
  rw [g.N, g.sc, g.fn]
  exact ⟨h1, loc_of h2, (Bool.or_eq_true_iff.mp h3).imp id pl_of⟩
theorem Gc.names (g : Gc Z C c W X) : ∀ {is : List Nat} {xs : List (Str × Pos)}, namesB c is xs = true → xs.length = is.length ∧ ∀ q ∈ is.zip xs, X.N[q.1]? = some q.2.1 ∧ L2.Loc X.env.scope q.2.1 ∧ (X.fn q.2.1 = true ∨ X.env.scope.names.lookup q.2.1 = some .local)
  | [], [], _ => ⟨rfl, fun q hq => by simp at hq⟩
  | [], _ :: _, h => by cases h
  | _ :: _, [], h => by cases h
  | i :: is, (x, p) :: xs, h => by
    have h2 := Bool.and_eq_true_iff.mp (show (nameB c i x && namesB c is xs) = true from h)
    obtain ⟨h3, h4⟩ := g.names h2.2
    refine ⟨by simp [h3], fun q hq => ?_⟩
    rcases List.mem_cons.mp hq with e | e
    · rw [e]; exact g.name h2.1
    · exact h4 q e
theorem Gc.pat (g : Gc Z C c W X) {p : Pat} {tg : Expr} (h : patB' c p tg = true) : PG X tg (Tg X.K p) := by
  unfold patB' at h
  split at h
  · obtain ⟨h1, h2, h3⟩ := g.name h
    exact g_name g.nd h1 h2 h3
  · split at h
    · rename_i q
      rw [nm_of q]
      obtain ⟨h1, h2⟩ := g.names h
      exact g_tup g.calm g.nd h1 h2
    · cases h
  · cases h
theorem Gc.tys (g : Gc Z C c W X) : ∀ {ts : List Ty} {es : List Expr}, tysB c ts es = true → ∃ ys : List (Ty × Pos), es = tyNames ys ∧ ys.map (·.1) = ts ∧ ∀ q ∈ ys, Gl X (Str.ofString (tyS q.1)) ∧ X.mg (Str.ofString (tyS q.1)) = none
  | [], [], _ => ⟨[], rfl, rfl, fun q hq => by cases hq⟩
  | [], e :: es, h => by cases h
  | y :: ys, [], h => by cases h
  | y :: ys, e :: es, h => by
    cases e with
    | Name x p =>
      have h : (decide (x = Str.ofString (tyS y)) && frB c x && tysB c ys es) = true := h
      simp only [Bool.and_eq_true, decide_eq_true_eq] at h
      obtain ⟨⟨rfl, h2⟩, h3⟩ := h
      obtain ⟨zs, rfl, h4, h5⟩ := g.tys h3
      refine ⟨(y, p) :: zs, rfl, by simp [h4], fun q hq => ?_⟩
      rcases List.mem_cons.mp hq with e | e
      · rw [e]; exact g.fr2 h2
      · exact h5 q e
    | _ => cases h
theorem pe_bool1 {op : BoolOp} {e : Expr} {pos : Pos} {t : TE} (h : PE X e t) : PE X (.BoolOp op [e] pos) t := ⟨h.run⟩
end
/-- the checker's word on an IR term -/
structure Snd (Z : Xt) (C : Cf) (ie : IE) : Prop where
  e : ∀ (c : CC) (W : WX) (X : Cx) (e : Expr), Gc Z C c W X → chk ie c false e = true → PE X e (Te X.K Z C W ie)
  t : ∀ (c : CC) (W : WX) (X : Cx) (e : Expr), Gc Z C c W X → chk ie c true e = true → PT X e (Tb X.K Z C W ie) ∧ ∀ op l p, e = .BoolOp op l p → PW X e (Tb X.K Z C W ie)
  a : ∀ (c : CC) (W : WX) (X : Cx) (es : List Expr), Gc Z C c W X → chkA ie c es = true → PA X es (Ta X.K Z C W ie)
  p : ∀ (c : CC) (W : WX) (X : Cx) (o : Option Expr), Gc Z C c W X → chkP ie c o = true → PO X o (Tp X.K Z C W ie)
  c : ∀ (c : CC) (W : WX) (X : Cx) (es : List Expr), Gc Z C c W X → chkC ie c es = true → PTs X es (Tc X.K Z C W ie)
  i : ∀ (c : CC) (W : WX) (X : Cx) (e tg : Expr), Gc Z C c W X → chkI ie c e = true → PI X tg e (Ti X.K Z C W ie)
section
variable {Z : Xt} {C : Cf}
theorem ff {p : Prop} {b : Bool} (h : b = true) (e : b = false) : p := by rw [e] at h; cases h
/-- an expression whose test is that of its value -/
theorem Snd.plain {ie : IE} (he : ∀ (c : CC) (W : WX) (X : Cx) (m : Bool) (e : Expr), Gc Z C c W X → chk ie c m e = true → plainT e = true ∧ PE X e (Te X.K Z C W ie)) (ha : ∀ c l, chkA ie c l = false) (hp : ∀ c l, chkP ie c l = false)
    (hc : ∀ c l, chkC ie c l = false) (hi : ∀ c e, chkI ie c e = false) : Snd Z C ie :=
  ⟨fun c W X e g h => (he c W X false e g h).2, fun c W X e g h => ⟨s_truth (plainT_of (he c W X true e g h).1) (he c W X true e g h).2, fun op l p z => by
    have h1 := (he c W X true e g h).1
    rw [z] at h1; cases h1⟩, fun c W X l g h => ff h (ha c l), fun c W X l g h => ff h (hp c l), fun c W X l g h => ff h (hc c l), fun c W X e tg g h => ff h (hi c e)⟩
theorem snd_lit (d : D) : Snd Z C (.lit d) := Snd.plain (fun c W X m e g h => by
  unfold chk at h
  split at h
  · rename_i i j k p
    rw [← of_decide_eq_true h]
    exact ⟨rfl, s_int⟩
  · rw [← eq_of_beq h]
    exact ⟨rfl, s_bool⟩
  · exact ⟨rfl, s_none⟩
  · have h2 := Bool.and_eq_true_iff.mp h
    rw [of_decide_eq_true h2.1]
    exact ⟨rfl, s_str h2.2⟩
  · cases h) (fun _ _ => rfl) (fun _ _ => rfl) (fun _ _ => rfl) (fun _ _ => rfl)
theorem snd_glo (y : List Nat) (d : D) : Snd Z C (.glo y d) := Snd.plain (fun c W X m e g h => by
  unfold chk at h
  split at h
  · simp only [Bool.and_eq_true, decide_eq_true_eq, beq_iff_eq] at h
    obtain ⟨⟨⟨h1, h2⟩, h3⟩, h4⟩ := h
    obtain ⟨v, u, k1, k2, k3⟩ := g.csk _ _ (cs_of h3)
    exact ⟨rfl, s_glo (g.gl h2) k1 k2 k3 h4⟩
  · cases h) (fun _ _ => rfl) (fun _ _ => rfl) (fun _ _ => rfl) (fun _ _ => rfl)
theorem snd_var (i : Nat) : Snd Z C (.var i) := Snd.plain (fun c W X m e g h => by
  unfold chk at h
  split at h
  · simp only [Bool.and_eq_true, decide_eq_true_eq, beq_iff_eq] at h
    obtain ⟨⟨⟨h1, h2⟩, h3⟩, h4⟩ := h
    exact ⟨rfl, s_var (by rw [g.N]; exact h1) (by rw [g.sc]; exact vis_of h2) h3 h4⟩
  · cases h) (fun _ _ => rfl) (fun _ _ => rfl) (fun _ _ => rfl) (fun _ _ => rfl)
theorem snd_bin {o : Bo} {a b : IE} (sa : Snd Z C a) (sb : Snd Z C b) : Snd Z C (.bin o a b) := Snd.plain (fun c W X m e g h => by
  unfold chk at h
  split at h
  · simp only [Bool.and_eq_true] at h
    obtain ⟨⟨h1, h2⟩, h3⟩ := h
    rw [op_of h1]
    exact ⟨rfl, s_bin (sa.e c W X _ g h2) (sb.e c W X _ g h3)⟩
  · cases h) (fun _ _ => rfl) (fun _ _ => rfl) (fun _ _ => rfl) (fun _ _ => rfl)
theorem snd_neg {a : IE} (sa : Snd Z C a) : Snd Z C (.neg a) := Snd.plain (fun c W X m e g h => by
  unfold chk at h
  split at h
  · exact ⟨rfl, s_neg (sa.e c W X _ g h)⟩
  · cases h) (fun _ _ => rfl) (fun _ _ => rfl) (fun _ _ => rfl) (fun _ _ => rfl)
theorem snd_not {a : IE} (sa : Snd Z C a) : Snd Z C (.not a) := by
  refine ⟨fun c W X e g h => ?_, fun c W X e g h => ?_, fun c W X l g h => ff h rfl, fun c W X l g h => ff h rfl, fun c W X l g h => ff h rfl, fun c W X e tg g h => ff h rfl⟩
  · unfold chk at h
    split at h
    · exact s_not (sa.e c W X _ g h)
    · cases h
  · unfold chk at h
    split at h
    · exact ⟨t_not (sa.t c W X _ g h).1, fun op l p z => nomatch z⟩
    · cases h
theorem snd_and {a b : IE} (sa : Snd Z C a) (sb : Snd Z C b) : Snd Z C (.and a b) := by
  refine ⟨fun c W X e g h => ?_, fun c W X e g h => ?_, fun c W X l g h => ff h rfl, fun c W X l g h => ff h rfl, fun c W X l g h => ff h rfl, fun c W X e tg g h => ff h rfl⟩
  · unfold chk at h
    split at h
    · have h2 := Bool.and_eq_true_iff.mp h
      have h3 := h2.2
      split at h3
      · exact s_and (sa.e c W X _ g h2.1) (pe_bool1 (sb.e c W X _ g h3))
      · exact s_and (sa.e c W X _ g h2.1) (sb.e c W X _ g h3)
    · cases h
  · unfold chk at h
    split at h
    · rename_i ea eb rest pos
      have h2 := Bool.and_eq_true_iff.mp h
      have h3 := h2.2
      have k : PW X (.BoolOp .And (ea :: eb :: rest) pos) (Tb X.K Z C W (.and a b)) := by
        split at h3
        · exact t_and (sa.t c W X _ g h2.1).1 (pw_and1 (sb.t c W X _ g h3).1)
        · exact t_and (sa.t c W X _ g h2.1).1 ((sb.t c W X _ g h3).2 _ _ _ rfl)
      exact ⟨k.pt, fun op l p z => k⟩
    · cases h
theorem snd_or {a b : IE} (sa : Snd Z C a) (sb : Snd Z C b) : Snd Z C (.or a b) := by
  refine ⟨fun c W X e g h => ?_, fun c W X e g h => ?_, fun c W X l g h => ff h rfl, fun c W X l g h => ff h rfl, fun c W X l g h => ff h rfl, fun c W X e tg g h => ff h rfl⟩
  · unfold chk at h
    split at h
    · have h2 := Bool.and_eq_true_iff.mp h
      have h3 := h2.2
      split at h3
      · exact s_or (sa.e c W X _ g h2.1) (pe_bool1 (sb.e c W X _ g h3))
      · exact s_or (sa.e c W X _ g h2.1) (sb.e c W X _ g h3)
    · cases h
  · unfold chk at h
    split at h
    · rename_i ea eb rest pos
      have h2 := Bool.and_eq_true_iff.mp h
      have h3 := h2.2
      have k : PW X (.BoolOp .Or (ea :: eb :: rest) pos) (Tb X.K Z C W (.or a b)) := by
        split at h3
        · exact t_or (sa.t c W X _ g h2.1).1 (pw_or1 (sb.t c W X _ g h3).1)
        · exact t_or (sa.t c W X _ g h2.1).1 ((sb.t c W X _ g h3).2 _ _ _ rfl)
      exact ⟨k.pt, fun op l p z => k⟩
    · cases h
theorem snd_ite {k a b : IE} (sk : Snd Z C k) (sa : Snd Z C a) (sb : Snd Z C b) : Snd Z C (.ite k a b) := by
  refine ⟨fun c W X e g h => ?_, fun c W X e g h => ?_, fun c W X l g h => ff h rfl, fun c W X l g h => ff h rfl, fun c W X l g h => ff h rfl, fun c W X e tg g h => ff h rfl⟩
  · unfold chk at h
    split at h
    · simp only [Bool.and_eq_true] at h
      obtain ⟨⟨⟨_, h1⟩, h2⟩, h3⟩ := h
      exact s_ite (sk.t c W X _ g h1).1 (sa.e c W X _ g h2) (sb.e c W X _ g h3)
    · cases h
  · unfold chk at h
    split at h
    · simp only [Bool.and_eq_true] at h
      exact ff h.1.1.1 rfl
    · cases h
theorem snd_cmp {o : Co} {a b : IE} (sa : Snd Z C a) (sb : Snd Z C b) : Snd Z C (.cmp o a b) := by
  refine ⟨fun c W X e g h => ?_, fun c W X e g h => ?_, fun c W X l g h => ff h rfl, fun c W X l g h => ff h rfl, fun c W X l g h => ff h rfl, fun c W X e tg g h => ff h rfl⟩
  · unfold chk at h
    split at h
    · simp only [Bool.and_eq_true, Bool.not_eq_true'] at h
      obtain ⟨⟨⟨h1, h2⟩, h3⟩, h4⟩ := h
      rw [co_of h1] at h2 ⊢
      exact s_cmp g.un (sa.e c W X _ g h3) (sb.e c W X _ g h4) h2
    · cases h
  · unfold chk at h
    split at h
    · simp only [Bool.and_eq_true, Bool.not_eq_true'] at h
      obtain ⟨⟨⟨h1, h2⟩, h3⟩, h4⟩ := h
      rw [co_of h1] at h2 ⊢
      exact ⟨t_cmp g.un (sa.e c W X _ g h3) (sb.e c W X _ g h4) h2, fun op l p z => nomatch z⟩
    · cases h
theorem snd_chn {o o' : Co} {a b d : IE} (sa : Snd Z C a) (sb : Snd Z C b) (sd : Snd Z C d) : Snd Z C (.chn o o' a b d) := by
  refine ⟨fun c W X e g h => ?_, fun c W X e g h => ?_, fun c W X l g h => ff h rfl, fun c W X l g h => ff h rfl, fun c W X l g h => ff h rfl, fun c W X e tg g h => ff h rfl⟩
  · unfold chk at h
    split at h
    · simp only [Bool.and_eq_true, Bool.not_eq_true'] at h
      obtain ⟨⟨⟨⟨⟨h1, h2⟩, h3⟩, h4⟩, h5⟩, h6⟩ := h
      rw [co_of h1]
      rw [co_of h2] at h3 ⊢
      exact s_chn g.un (sa.e c W X _ g h4) (sb.e c W X _ g h5) (sd.e c W X _ g h6) h3
    · cases h
  · unfold chk at h
    split at h
    · simp only [Bool.and_eq_true, Bool.not_eq_true'] at h
      obtain ⟨⟨⟨⟨⟨h1, h2⟩, h3⟩, h4⟩, h5⟩, h6⟩ := h
      rw [co_of h1]
      rw [co_of h2] at h3 ⊢
      exact ⟨t_chn g.un (sa.e c W X _ g h4) (sb.e c W X _ g h5) (sd.e c W X _ g h6) h3, fun op l p z => nomatch z⟩
    · cases h
theorem snd_tup {es : IE} (s : Snd Z C es) : Snd Z C (.tup es) := Snd.plain (fun c W X m e g h => by
  unfold chk at h
  split at h
  · exact ⟨rfl, s_tup (s.a c W X _ g h)⟩
  · cases h) (fun _ _ => rfl) (fun _ _ => rfl) (fun _ _ => rfl) (fun _ _ => rfl)
theorem snd_lst {es : IE} (s : Snd Z C es) : Snd Z C (.lst es) := Snd.plain (fun c W X m e g h => by
  unfold chk at h
  split at h
  · exact ⟨rfl, s_lst (s.a c W X _ g h)⟩
  · cases h) (fun _ _ => rfl) (fun _ _ => rfl) (fun _ _ => rfl) (fun _ _ => rfl)
theorem snd_idx {a b : IE} (sa : Snd Z C a) (sb : Snd Z C b) : Snd Z C (.idx a b) := Snd.plain (fun c W X m e g h => by
  unfold chk at h
  split at h
  · simp only [Bool.and_eq_true] at h
    obtain ⟨⟨h1, h2⟩, h3⟩ := h
    exact ⟨rfl, s_idx (plainIx_of h1) (sa.e c W X _ g h2) (sb.e c W X _ g h3)⟩
  · cases h) (fun _ _ => rfl) (fun _ _ => rfl) (fun _ _ => rfl) (fun _ _ => rfl)
theorem snd_sli {a lo hi : IE} (sa : Snd Z C a) (sl : Snd Z C lo) (sh : Snd Z C hi) : Snd Z C (.sli a lo hi) := Snd.plain (fun c W X m e g h => by
  unfold chk at h
  split at h
  · simp only [Bool.and_eq_true] at h
    obtain ⟨⟨h1, h2⟩, h3⟩ := h
    exact ⟨rfl, s_sli (sa.e c W X _ g h1) (sl.p c W X _ g h2) (sh.p c W X _ g h3)⟩
  · cases h) (fun _ _ => rfl) (fun _ _ => rfl) (fun _ _ => rfl) (fun _ _ => rfl)
theorem snd_call {f : Nat} {es : IE} (s : Snd Z C es) : Snd Z C (.call f es) := Snd.plain (fun c W X m e g h => by
  unfold chk at h
  split at h
  · simp only [Bool.and_eq_true, decide_eq_true_eq, beq_iff_eq] at h
    obtain ⟨⟨⟨⟨h1, h2⟩, h3⟩, h4⟩, h5⟩ := h
    obtain ⟨k, fa, fd, ps, F, hr, hm, hk, hb⟩ := g.fns _ _ h1
    rename_i l p2
    cases l with
    | nil =>
      cases es with
      | nil => exact ⟨rfl, s_call0 F hr (g.gl h2) hm hk hb g.tk h3⟩
      | _ => exact ff h5 rfl
    | cons a r => exact ⟨rfl, s_call F hr (g.gl h2) hm hk hb g.tk (s.a c W X _ g h5) h3 h4⟩
  · cases h) (fun _ _ => rfl) (fun _ _ => rfl) (fun _ _ => rfl) (fun _ _ => rfl)
theorem snd_blt {b : Bt} {es : IE} (s : Snd Z C es) : Snd Z C (.blt b es) := Snd.plain (fun c W X m e g h => by
  unfold chk at h
  split at h
  · simp only [Bool.and_eq_true, decide_eq_true_eq] at h
    obtain ⟨⟨⟨rfl, h2⟩, h3⟩, h4⟩ := h
    obtain ⟨k1, k2⟩ := g.fr2 h2
    exact ⟨rfl, s_blt b g.calm k1 k2 (s.a c W X _ g h4) h3⟩
  · cases h) (fun _ _ => rfl) (fun _ _ => rfl) (fun _ _ => rfl) (fun _ _ => rfl)
theorem snd_isi {a : IE} {ts : List Ty} (s : Snd Z C a) : Snd Z C (.isi a ts) := Snd.plain (fun c W X m e g h => by
  unfold chk at h
  split at h
  · simp only [Bool.and_eq_true, decide_eq_true_eq] at h
    obtain ⟨⟨⟨⟨rfl, h2⟩, h3⟩, h4⟩, h5⟩ := h
    obtain ⟨k1, k2⟩ := g.fr2 h2
    split at h5
    · split at h5
      · simp only [Bool.and_eq_true, decide_eq_true_eq] at h5
        obtain ⟨rfl, h6⟩ := h5
        obtain ⟨k3, k4⟩ := g.fr2 h6
        exact ⟨rfl, s_isi1 k1 k2 k3 k4 (s.e c W X _ g h4) h3⟩
      · cases h5
    · simp only [Bool.and_eq_true, decide_eq_true_eq] at h5
      obtain ⟨ys, rfl, h7, h8⟩ := g.tys h5.1
      subst h7
      exact ⟨rfl, s_isiN k1 k2 h8 (by simpa using h5.2) (s.e c W X _ g h4) h3⟩
    · cases h5
  · cases h) (fun _ _ => rfl) (fun _ _ => rfl) (fun _ _ => rfl) (fun _ _ => rfl)
theorem snd_mth {mt : Mt} {a es : IE} (sa : Snd Z C a) (s : Snd Z C es) : Snd Z C (.mth mt a es) := Snd.plain (fun c W X m e g h => by
  unfold chk at h
  split at h
  · simp only [Bool.and_eq_true, decide_eq_true_eq] at h
    obtain ⟨⟨⟨⟨rfl, h2⟩, h3⟩, h4⟩, h5⟩ := h
    split at h5
    · have h6 := Bool.and_eq_true_iff.mp h5
      have h7 := h6.2
      split at h7
      · exact ⟨rfl, s_mth0 h6.1 h2 h3 (sa.e c W X _ g h4)⟩
      · cases h7
    · simp only [Bool.and_eq_true] at h5
      obtain ⟨⟨⟨h6, h7⟩, h8⟩, h9⟩ := h5
      exact ⟨rfl, s_mth h6 h2 h3 h7 h8 (sa.e c W X _ g h4) (s.a c W X _ g h9)⟩
  · cases h) (fun _ _ => rfl) (fun _ _ => rfl) (fun _ _ => rfl) (fun _ _ => rfl)
theorem snd_comp {own : List Nat} {p : Pat} {it cc el : IE} (si : Snd Z C it) (sc : Snd Z C cc) (se : Snd Z C el) : Snd Z C (.comp own p it cc el) := Snd.plain (fun c W X m e g h => by
  unfold chk at h
  split at h
  · simp only [Bool.and_eq_true] at h
    obtain ⟨⟨⟨⟨⟨⟨⟨h1, h2⟩, h3⟩, h4⟩, h5⟩, h6⟩, h7⟩, h8⟩ := h
    refine ⟨rfl, s_comp g.calm g.nd (si.i c W X _ _ g h5) (blkOk_by (own := ownPs c own) (by rw [g.N, g.sc]; exact h1)) (fun s H Cc cl fp => (g.blk s H _ cl Cc fp).pat h6) (fun s H Cc cl fp => sc.c _ _ _ _ (g.blk s H _ cl Cc fp) h7)
      (fun s H Cc cl fp => se.e _ _ _ _ (g.blk s H _ cl Cc fp) h8) (notSet_of h4) (fun i hi => of_decide_eq_true (List.all_eq_true.mp h3 i hi)) (of_decide_eq_true h2)⟩
  · cases h) (fun _ _ => rfl) (fun _ _ => rfl) (fun _ _ => rfl) (fun _ _ => rfl)
theorem snd_alloc {a : IE} (sa : Snd Z C a) : Snd Z C (.alloc a) := by
  refine ⟨fun c W X e g h => ?_, fun c W X e g h => ?_, fun c W X l g h => ff h rfl, fun c W X l g h => ff h rfl, fun c W X l g h => ff h rfl, fun c W X e tg g h => ff h rfl⟩
  · unfold chk at h
    simp only [Bool.and_eq_true] at h
    exact s_alloc h.1.2 (sa.e c W X _ g h.2)
  · unfold chk at h
    simp only [Bool.and_eq_true] at h
    exact ff h.1.1 rfl
theorem snd_nil : Snd Z C .nil := by
  refine ⟨fun c W X e g h => ff h rfl, fun c W X e g h => ff h rfl, fun c W X l g h => ?_, fun c W X o g h => ?_, fun c W X l g h => ?_, fun c W X e tg g h => ff h rfl⟩
  · cases l with
    | nil => exact s_nil
    | cons => cases h
  · cases o with
    | none => exact s_pnone
    | some => cases h
  · cases l with
    | nil => exact ⟨fun pins s σ H Q I q => pts_nil.run pins s σ H Q I (by
        obtain ⟨B, m, S, δ, t, e, h⟩ := q
        exact (FinG.ret (show FinG X.K Z B m H _ (M.ret true S) (PB Q) from h)).now t)⟩
    | cons => cases h
theorem snd_cons {a r : IE} (sa : Snd Z C a) (sr : Snd Z C r) : Snd Z C (.cons a r) := by
  refine ⟨fun c W X e g h => ff h rfl, fun c W X e g h => ff h rfl, fun c W X l g h => ?_, fun c W X o g h => ?_, fun c W X l g h => ?_, fun c W X e tg g h => ?_⟩
  · cases l with
    | nil => cases h
    | cons e es =>
      have h : (notStar e && chk a c false e && chkA r c es) = true := h
      simp only [Bool.and_eq_true] at h
      exact s_cons h.1.1 (sa.e c W X _ g h.1.2) (sr.a c W X _ g h.2)
  · cases o with
    | none => cases h
    | some e => exact s_psome (sa.e c W X _ g h)
  · cases l with
    | nil => cases h
    | cons e es =>
      cases es with
      | nil => exact pts_one (sa.t c W X _ g h).1
      | cons => cases h
  · exact i_val (sa.e c W X _ g h)
theorem snd_rng1 {a : IE} (sa : Snd Z C a) : Snd Z C (.rng1 a) := by
  refine ⟨fun c W X e g h => ff h rfl, fun c W X e g h => ff h rfl, fun c W X l g h => ff h rfl, fun c W X o g h => ff h rfl, fun c W X l g h => ff h rfl, fun c W X e tg g h => ?_⟩
  unfold chkI at h
  split at h
  · simp only [Bool.and_eq_true, decide_eq_true_eq] at h
    obtain ⟨⟨⟨rfl, h2⟩, h3⟩, h4⟩ := h
    obtain ⟨k1, k2⟩ := g.fr2 h2
    exact i_rng1 k1 k2 h3 (sa.e c W X _ g h4)
  · cases h
theorem snd_rng2 {a b : IE} (sa : Snd Z C a) (sb : Snd Z C b) : Snd Z C (.rng2 a b) := by
  refine ⟨fun c W X e g h => ff h rfl, fun c W X e g h => ff h rfl, fun c W X l g h => ff h rfl, fun c W X o g h => ff h rfl, fun c W X l g h => ff h rfl, fun c W X e tg g h => ?_⟩
  unfold chkI at h
  split at h
  · simp only [Bool.and_eq_true, decide_eq_true_eq] at h
    obtain ⟨⟨⟨⟨⟨rfl, h2⟩, h3⟩, h4⟩, h5⟩, h6⟩ := h
    obtain ⟨k1, k2⟩ := g.fr2 h2
    exact i_rng2 k1 k2 h3 h4 (sa.e c W X _ g h5) (sb.e c W X _ g h6)
  · cases h
theorem snd_no {ie : IE} (he : ∀ c m e, chk ie c m e = false) (ha : ∀ c l, chkA ie c l = false) (hp : ∀ c l, chkP ie c l = false) (hc : ∀ c l, chkC ie c l = false) (hi : ∀ c e, chkI ie c e = false) : Snd Z C ie :=
  ⟨fun c W X e g h => ff h (he ..), fun c W X e g h => ff h (he ..), fun c W X l g h => ff h (ha ..), fun c W X o g h => ff h (hp ..), fun c W X l g h => ff h (hc ..), fun c W X e tg g h => ff h (hi ..)⟩
/-- the checker is sound -/
theorem snd : ∀ ie : IE, Snd Z C ie := fun ie => by
  induction ie with
  | lit d => exact snd_lit d
  | glo x d => exact snd_glo x d
  | var i => exact snd_var i
  | nil => exact snd_nil
  | cons a r sa sr => exact snd_cons sa sr
  | bin o a b sa sb => exact snd_bin sa sb
  | neg a sa => exact snd_neg sa
  | not a sa => exact snd_not sa
  | and a b sa sb => exact snd_and sa sb
  | or a b sa sb => exact snd_or sa sb
  | ite k a b sk sa sb => exact snd_ite sk sa sb
  | cmp o a b sa sb => exact snd_cmp sa sb
  | chn o o' a b c sa sb sc => exact snd_chn sa sb sc
  | tup es s => exact snd_tup s
  | lst es s => exact snd_lst s
  | idx a b sa sb => exact snd_idx sa sb
  | sli a lo hi sa sl sh => exact snd_sli sa sl sh
  | call f es s => exact snd_call s
  | blt b es s => exact snd_blt s
  | isi a t s => exact snd_isi s
  | mth m a es sa s => exact snd_mth sa s
  | comp own p it c e si sc se => exact snd_comp si sc se
  | rng1 a sa => exact snd_rng1 sa
  | rng2 a b sa sb => exact snd_rng2 sa sb
  | alloc a sa => exact snd_alloc sa
  | _ => exact snd_no (fun _ _ _ => rfl) (fun _ _ => rfl) (fun _ _ => rfl) (fun _ _ => rfl) (fun _ _ => rfl)
end
end Fb
set_option Elab.async false
set_option linter.all false
set_option maxRecDepth 100000
set_option maxHeartbeats 4000000
/-! Fb15: the checker for statements. -/
namespace Fb
open PySem PySem.Spec PyProof.Rows L2
def blkK (sc : Scope) : ScopeKind := if sc.kind.isAnnotationScope then ScopeKind.function else sc.kind
/-- what swappedStores answers, by the scope alone -/
def swSc (ts vs : List Expr) (sc : Scope) : Option (Option (List Str)) :=
  if (!(ts.length == 2 || ts.length == 3) || vs.length != ts.length || blkK sc != .function) = true then some none
  else if (vs.any fun | .Starred .. => true | _ => false) = true then some none
  else if ((ts.filterMap fun
      | .Name id pos => if sc.names.lookup id == some .local && pos.line == (ts.head?.map (·.pos.line)).getD 0 then some id else none
      | _ => none).length != ts.length || (ts.filterMap fun
      | .Name id pos => if sc.names.lookup id == some .local && pos.line == (ts.head?.map (·.pos.line)).getD 0 then some id else none
      | _ => none).eraseDups.length != (ts.filterMap fun
      | .Name id pos => if sc.names.lookup id == some .local && pos.line == (ts.head?.map (·.pos.line)).getD 0 then some id else none
      | _ => none).length) = true then some none
  else if (vs.all (foldedForSure 8)) = true then some none
  else if (vs.all (constantsAlone 8)) = true then none
  else some (some (ts.filterMap fun
      | .Name id pos => if sc.names.lookup id == some .local && pos.line == (ts.head?.map (·.pos.line)).getD 0 then some id else none
      | _ => none))
theorem sw_sc {ts vs : List Expr} {k k2 : Nat} {p p2 : Pos} {env : Env} {r : Option (List Str)} (h : swSc ts vs env.scope = some r) : swappedStores [.Tuple ts k p] (.Tuple vs k2 p2) env = pure r := by
  unfold swSc at h
  unfold swappedStores
  dsimp only
  split at h
  · rename_i c
    exact (if_pos c).trans (by cases h; rfl)
  · rename_i c
    refine (if_neg c).trans ?_
    split at h
    · rename_i c2
      exact (if_pos c2).trans (by cases h; rfl)
    · rename_i c2
      refine (if_neg c2).trans ?_
      split at h
      · rename_i c3
        exact (if_pos c3).trans (by cases h; rfl)
      · rename_i c3
        refine (if_neg c3).trans ?_
        split at h
        · rename_i c4
          exact (if_pos c4).trans (by cases h; rfl)
        · rename_i c4
          refine (if_neg c4).trans ?_
          split at h
          · cases h
          · rename_i c5
            exact (if_neg c5).trans (by cases h; rfl)
/-- the comprehension of a term, a cell or not -/
def compOf : IE → Option (List Nat × Pat × IE × IE × IE)
  | .comp own p it cc el => some (own, p, it, cc, el)
  | .alloc (.comp own p it cc el) => some (own, p, it, cc, el)
  | _ => none
def setC (c : CC) (e : IE) (x : Str) (py : Pos) (v : Expr) : Bool := match compOf e, v with
  | some (own, p, it, cc, el), .ListComp elt [⟨tg, iter, ifs, 0⟩] scope pos => chk (.comp own p it cc el) c false v && plB c.sc x && decide (c.sc.kind = .function) && (py.line == pos.line) &&
      !(scope.names.any fun (n, k) => n == x && (k == .local || k == .cell))
  | _, _ => false
def stNone (c : CC) (ts : List Expr) (v : Expr) : Bool := match v with
  | .Tuple vs _ _ => decide (swSc ts vs c.sc = some none)
  | _ => true
mutual
def chkS : IS → CC → Stmt → Bool
  | .skip, _, st => (match st with
    | .Pass _ => true
    | _ => false)
  | .ex e, c, st => (match st with
    | .Expr v _ => notComp v && chk e c false v
    | _ => false)
  | .set i e, c, st => (match st with
    | .Assign [.Name x py] v _ => nameB c i x && ((notComp v && chk e c false v) || setC c e x py v)
    | _ => false)
  | .setP is e, c, st => (match st with
    | .Assign [.Tuple ts _ _] v _ => (match nmOf ts with
      | some xs => namesB c is xs && chk e c false v && stNone c ts v
      | none => false)
    | _ => false)
  | .par is es, c, st => (match st with
    | .Assign [.Tuple [.Name x px, .Name y py] _ _] (.Tuple [a, b] _ _) _ => (match is with
      | [i, j] => nameB c i x && nameB c j y && plB c.sc x && plB c.sc y && decide (i ≠ j) && chkA es c [a, b] && decide (swSc [.Name x px, .Name y py] [a, b] c.sc = some (some [x, y]))
      | _ => false)
    | .Assign [.Tuple [.Name x px, .Name y py, .Name z pz] _ _] (.Tuple [a, b, d] _ _) _ => (match is with
      | [i, j, l] => nameB c i x && nameB c j y && nameB c l z && plB c.sc x && plB c.sc y && plB c.sc z && decide (i ≠ j) && decide (i ≠ l) && decide (j ≠ l) && chkA es c [a, b, d] &&
          decide (swSc [.Name x px, .Name y py, .Name z pz] [a, b, d] c.sc = some (some [x, y, z]))
      | _ => false)
    | _ => false)
  | .put a i e, c, st => (match st with
    | .Assign [.Subscript ea ei _] v _ => plainIxB ei && chk a c false ea && chk i c false ei && chk e c false v
    | _ => false)
  | .aug o i e, c, st => (match st with
    | .AugAssign (.Name x _) op v _ => (decide (o = .add) || decide (o = .sub)) && opB o op && nameB c i x && chk e c false v
    | _ => false)
  | .ite k a b, c, st => (match st with
    | .If ek la lb _ => chk k c true ek && chkB a c la && chkB b c lb
    | _ => false)
  | .whl k b, c, st => (match st with
    | .While ek lb [] _ => chk k c true ek && chkB b c lb
    | _ => false)
  | .for p it b, c, st => (match st with
    | .For tg iter lb [] _ => notSet iter && chkI it c iter && patB' c p tg && chkB b c lb
    | _ => false)
  | .ret e, c, st => (match st with
    | .Return (some v) _ => chk e c false v
    | _ => false)
  | .retN, _, st => (match st with
    | .Return none _ => true
    | _ => false)
  | .brk, _, st => (match st with
    | .Break _ => true
    | _ => false)
  | .cnt, _, st => (match st with
    | .Continue _ => true
    | _ => false)
  | _, _, _ => false
def chkB : IS → CC → List Stmt → Bool
  | .skip, _, l => l.isEmpty
  | .seq a b, c, l => (match l with
    | st :: rest => chkS a c st && chkB b c rest
    | [] => false)
  | _, _, _ => false
end
section
variable {Z : Xt} {C : Cf}
/-- what a checked comprehension gives -/
theorem ss_setX {c : CC} {W : WX} {X : Cx} {e : IE} {i : Nat} {x : Str} {py pos : Pos} {v : Expr} (g : Gc Z C c W X) (hn : nameB c i x = true) (h : setC c e x py v = true) : PS X (.Assign [.Name x py] v pos) (Ss X.K Z C W (.set i e)) := by
  unfold setC at h
  split at h
  · rename_i own p it cc el elt tg iter ifs scope cpos q
    simp only [Bool.and_eq_true, Bool.not_eq_true', decide_eq_true_eq] at h
    obtain ⟨⟨⟨⟨h0, k1⟩, k2⟩, k3⟩, k4⟩ := h
    unfold chk at h0
    simp only [Bool.and_eq_true] at h0
    obtain ⟨⟨⟨⟨⟨⟨⟨h1, h2⟩, h3⟩, h4⟩, h5⟩, h6⟩, h7⟩, h8⟩ := h0
    obtain ⟨n1, n2, n3⟩ := g.name hn
    refine ss_setC g.nd n1 (by rw [g.sc]; exact pl_of k1) (by rw [g.sc]; exact k2) k3 k4 g.calm ((snd it).i c W X _ _ g h5) (blkOk_by (own := ownPs c own) (by rw [g.N, g.sc]; exact h1)) (fun s H Cc cl fp => (g.blk s H _ cl Cc fp).pat h6)
      (fun s H Cc cl fp => (snd cc).c _ _ _ _ (g.blk s H _ cl Cc fp) h7) (fun s H Cc cl fp => (snd el).e _ _ _ _ (g.blk s H _ cl Cc fp) h8) (notSet_of h4) (fun i hi => of_decide_eq_true (List.all_eq_true.mp h3 i hi)) (of_decide_eq_true h2) ?_
    intro σ H Q ht
    unfold compOf at q
    split at q
    · cases q; exact ht
    · cases q
      exact alloc_step rfl ht
    · cases q
  · cases h
structure SndS (Z : Xt) (C : Cf) (is : IS) : Prop where
  s : ∀ (c : CC) (W : WX) (X : Cx) (st : Stmt), Gc Z C c W X → PassesOwn (model X.prog X.w) X.A X.env X.xe → chkS is c st = true → PS X st (Ss X.K Z C W is)
  b : ∀ (c : CC) (W : WX) (X : Cx) (l : List Stmt), Gc Z C c W X → PassesOwn (model X.prog X.w) X.A X.env X.xe → chkB is c l = true → PSs X l (Ss X.K Z C W is)
theorem snds (is : IS) : SndS Z C is := by
  induction is with
  | skip =>
    refine ⟨fun c W X st g hp h => ?_, fun c W X l g hp h => ?_⟩
    · unfold chkS at h
      split at h
      · exact ss_pass
      · cases h
    · cases l with
      | nil => exact ss_nil
      | cons => cases h
  | seq a b sa sb =>
    refine ⟨fun c W X st g hp h => ff h rfl, fun c W X l g hp h => ?_⟩
    cases l with
    | nil => cases h
    | cons st rest =>
      have h2 := Bool.and_eq_true_iff.mp (show (chkS a c st && chkB b c rest) = true from h)
      exact ss_cons (sa.s c W X st g hp h2.1) (sb.b c W X rest g hp h2.2)
  | ex e =>
    refine ⟨fun c W X st g hp h => ?_, fun c W X l g hp h => ff h rfl⟩
    unfold chkS at h
    split at h
    · have h2 := Bool.and_eq_true_iff.mp h
      exact ss_ex h2.1 ((snd e).e c W X _ g h2.2)
    · cases h
  | set i e =>
    refine ⟨fun c W X st g hp h => ?_, fun c W X l g hp h => ff h rfl⟩
    unfold chkS at h
    split at h
    · have h2 := Bool.and_eq_true_iff.mp h
      rcases Bool.or_eq_true_iff.mp h2.2 with h3 | h3
      · have h4 := Bool.and_eq_true_iff.mp h3
        obtain ⟨n1, n2, n3⟩ := g.name h2.1
        exact ss_set g.nd n1 n2 n3 h4.1 ((snd e).e c W X _ g h4.2)
      · exact ss_setX g h2.1 h3
    · cases h
  | setP is e =>
    refine ⟨fun c W X st g hp h => ?_, fun c W X l g hp h => ff h rfl⟩
    unfold chkS at h
    split at h
    · rename_i ts k p v pos
      split at h
      · rename_i xs q
        simp only [Bool.and_eq_true] at h
        obtain ⟨⟨h1, h2⟩, h3⟩ := h
        obtain ⟨n1, n2⟩ := g.names h1
        have hw : swappedStores [.Tuple ts k p] v X.env = pure none := by
          unfold stNone at h3
          split at h3
          · exact sw_sc (by rw [g.sc]; exact of_decide_eq_true h3)
          · rename_i nt
            refine st_plain ?_
            cases v <;> first | rfl | exact absurd rfl (nt _ _ _)
        rw [nm_of q] at hw ⊢
        exact ss_setP g.calm g.nd n1 n2 ((snd e).e c W X _ g h2) hw
      · cases h
    · cases h
  | par is es =>
    refine ⟨fun c W X st g hp h => ?_, fun c W X l g hp h => ff h rfl⟩
    unfold chkS at h
    split at h
    · split at h
      · simp only [Bool.and_eq_true, decide_eq_true_eq] at h
        obtain ⟨⟨⟨⟨⟨⟨h1, h2⟩, h3⟩, h4⟩, h5⟩, h6⟩, h7⟩ := h
        exact ss_par2 g.calm g.nd (g.name h1).1 (g.name h2).1 h5 (by rw [g.sc]; exact pl_of h3) (by rw [g.sc]; exact pl_of h4) ((snd es).a c W X _ g h6) (sw_sc (by rw [g.sc]; exact h7))
      · cases h
    · split at h
      · simp only [Bool.and_eq_true, decide_eq_true_eq] at h
        obtain ⟨⟨⟨⟨⟨⟨⟨⟨⟨⟨h1, h2⟩, h3⟩, h4⟩, h5⟩, h6⟩, h7⟩, h8⟩, h9⟩, h10⟩, h11⟩ := h
        exact ss_par3 g.calm g.nd (g.name h1).1 (g.name h2).1 (g.name h3).1 h7 h8 h9 (by rw [g.sc]; exact pl_of h4) (by rw [g.sc]; exact pl_of h5) (by rw [g.sc]; exact pl_of h6) ((snd es).a c W X _ g h10) (sw_sc (by rw [g.sc]; exact h11))
      · cases h
    · cases h
  | put a i e =>
    refine ⟨fun c W X st g hp h => ?_, fun c W X l g hp h => ff h rfl⟩
    unfold chkS at h
    split at h
    · rename_i ea ei p v pos
      simp only [Bool.and_eq_true] at h
      obtain ⟨⟨⟨h1, h2⟩, h3⟩, h4⟩ := h
      refine ss_put (plainIx_of h1) ((snd a).e c W X _ g h2) ((snd i).e c W X _ g h3) ((snd e).e c W X _ g h4) fun v => ?_
      cases ei <;> first | rfl | cases h1
    · cases h
  | aug o i e =>
    refine ⟨fun c W X st g hp h => ?_, fun c W X l g hp h => ff h rfl⟩
    unfold chkS at h
    split at h
    · simp only [Bool.and_eq_true, Bool.or_eq_true, decide_eq_true_eq] at h
      obtain ⟨⟨⟨h1, h2⟩, h3⟩, h4⟩ := h
      obtain ⟨n1, n2, n3⟩ := g.name h3
      rw [op_of h2]
      exact ss_aug h1 g.nd n1 n2 n3 ((snd e).e c W X _ g h4)
    · cases h
  | ite k a b sa sb =>
    refine ⟨fun c W X st g hp h => ?_, fun c W X l g hp h => ff h rfl⟩
    unfold chkS at h
    split at h
    · simp only [Bool.and_eq_true] at h
      exact ss_if ((snd k).t c W X _ g h.1.1).1 (sa.b c W X _ g hp h.1.2) (sb.b c W X _ g hp h.2)
    · cases h
  | whl k b sb =>
    refine ⟨fun c W X st g hp h => ?_, fun c W X l g hp h => ff h rfl⟩
    unfold chkS at h
    split at h
    · have h2 := Bool.and_eq_true_iff.mp h
      exact ss_while hp ((snd k).t c W X _ g h2.1).1 (sb.b c W X _ g hp h2.2)
    · cases h
  | «for» p it b sb =>
    refine ⟨fun c W X st g hp h => ?_, fun c W X l g hp h => ff h rfl⟩
    unfold chkS at h
    split at h
    · simp only [Bool.and_eq_true] at h
      obtain ⟨⟨⟨h1, h2⟩, h3⟩, h4⟩ := h
      exact ss_for hp g.calm ((snd it).i c W X _ _ g h2) (g.pat h3) (sb.b c W X _ g hp h4) (notSet_of h1)
    · cases h
  | ret e =>
    refine ⟨fun c W X st g hp h => ?_, fun c W X l g hp h => ff h rfl⟩
    unfold chkS at h
    split at h
    · exact ss_ret ((snd e).e c W X _ g h)
    · cases h
  | retN =>
    refine ⟨fun c W X st g hp h => ?_, fun c W X l g hp h => ff h rfl⟩
    unfold chkS at h
    split at h
    · exact ss_retN
    · cases h
  | brk =>
    refine ⟨fun c W X st g hp h => ?_, fun c W X l g hp h => ff h rfl⟩
    unfold chkS at h
    split at h
    · exact ss_brk
    · cases h
  | cnt =>
    refine ⟨fun c W X st g hp h => ?_, fun c W X l g hp h => ff h rfl⟩
    unfold chkS at h
    split at h
    · exact ss_cnt
    · cases h
end
/-! ### all defs, level by level -/
/-- a def's frame as the checker wants it -/
structure Df where
  name : Str
  qual : Str
  params : Arguments
  body : List Stmt
  scope : Scope
  N : List Str
  ps : List Str
  fa : Addr
  fd : FuncData
def scB (N ps : List Str) (sc : Scope) : Bool :=
  decide (sc.kind = .function) && !sc.isCoroutine && !sc.isGenerator && decide N.Nodup && decide (N.take ps.length = ps) && (ps.all fun x => locB sc x) && (sc.names.all fun y => decide (y.2 ≠ .free))
theorem sc_of {N ps : List Str} {sc : Scope} (h : scB N ps sc = true) : FnScope N ps sc := by
  unfold scB at h
  simp only [Bool.and_eq_true, Bool.not_eq_true', decide_eq_true_eq, List.all_eq_true] at h
  obtain ⟨⟨⟨⟨⟨⟨h1, h2⟩, h3⟩, h4⟩, h5⟩, h6⟩, h7⟩ := h
  exact ⟨h1, h2, h3, h4, h5, fun x hx => loc_of (h6 x hx), h7⟩
def dfB (gn : List Str) (cs : List (Str × D)) (fr : List Str) (d : Df) (fn : Fn) : Bool :=
  scB d.N d.ps d.scope && decide (d.ps.length = fn.np) && decide (fn.nl = d.N.length) && chkB fn.body ⟨d.N, d.scope, fun _ => true, gn, cs, fr⟩ d.body
/-- what the head gives -/
structure Hd (P : Program) (w : World) (K : Fg) (mg : Str → Option Value) (base : Heap) (ds : List Df) (cs : List (Str × D)) (fr : List Str) : Prop where
  fun_ : ∀ d ∈ ds, FunD K d.name d.qual d.params d.body d.scope [] [] d.fa d.fd ∧ PySem.W.keepIn K (.ref d.fa) = true ∧ Binds K d.fd d.ps []
  glo : ∀ d ∈ ds, mg d.name = some (.ref d.fa)
  csk : ∀ x d, (x, d) ∈ cs → ∃ v u, mg x = some u ∧ RelV v u ∧ ∀ B m H, (∀ a ∈ m, H a ≠ none) → RelD K B m H d v
  fre : ∀ x, x ∈ fr → mg x = none
def dfsB (gn : List Str) (cs : List (Str × D)) (fr : List Str) : List Df → List Fn → Bool
  | [], [] => true
  | d :: ds, f :: fs => dfB gn cs fr d f && dfsB gn cs fr ds fs
  | _, _ => false
theorem dfs_of {gn : List Str} {cs : List (Str × D)} {fr : List Str} : ∀ {ds : List Df} {fs : List Fn}, dfsB gn cs fr ds fs = true → ds.length = fs.length ∧ ∀ (i : Nat) (d : Df), ds[i]? = some d → ∃ f, fs[i]? = some f ∧ dfB gn cs fr d f = true
  | [], [], _ => ⟨rfl, fun i d h => by simp at h⟩
  | [], _ :: _, h => by cases h
  | _ :: _, [], h => by cases h
  | d :: ds, f :: fs, h => by
    have h2 := Bool.and_eq_true_iff.mp (show (dfB gn cs fr d f && dfsB gn cs fr ds fs) = true from h)
    obtain ⟨h3, h4⟩ := dfs_of h2.2
    refine ⟨by simp [h3], fun i d' e => ?_⟩
    cases i with
    | zero => simp at e; subst e; exact ⟨f, rfl, h2.1⟩
    | succ i => exact h4 i d' (by simpa using e)
theorem lv_all {P : Program} {w : World} {K : Fg} {mg : Str → Option Value} {base : Heap} {Z : Xt} {ds : List Df} {cs : List (Str × D)} {fr : List Str} {fs : List Fn} {fuel : Nat} (hd : Hd P w K mg base ds cs fr) (hc : dfsB (ds.map (·.name)) cs fr ds fs = true) :
    ∀ (l : Nat) (i : Nat) (d : Df), ds[i]? = some d → FnOk P w K mg base (L2.CX P w) l d.fa d.fd d.ps (spF K Z (callF fs fuel l i))
  | 0, i, d, e => ⟨fun vs H Q E ⟨B, m, S, us, t, r, h⟩ => h.elim, fun A outer s H args us vs Q E _ _ _ _ ⟨B, m, S, _, t, r, h⟩ => h.elim⟩
  | l + 1, i, d, e => by
    obtain ⟨hl, hi⟩ := dfs_of hc
    obtain ⟨fn, ef, hb⟩ := hi i d e
    have hm := List.mem_of_getElem? e
    obtain ⟨F, hk, hbi⟩ := hd.fun_ d hm
    unfold dfB at hb
    simp only [Bool.and_eq_true, decide_eq_true_eq] at hb
    obtain ⟨⟨⟨b1, b2⟩, b3⟩, b4⟩ := hb
    have ih := lv_all hd hc l (Z := Z) (fuel := fuel)
    have main := fun_lv (Z := Z) (P := P) (w := w) (mg := mg) (base := base) (C := ⟨callF fs fuel l, fuel⟩) (l := l) F (sc_of b1) b2 b3 fun X W g hp => by
      obtain ⟨rfl, rfl, rfl, rfl, rfl, gc, gN, gs, gf, gr, gt, gk⟩ := g
      refine (snds fn.body).b _ W X d.body ⟨gc, by rw [gN]; exact (sc_of b1).nd, gN, gs, gf, by have := gr.un; omega, gt, fun f x hx => ?_, hd.csk, hd.fre⟩ hp b4
      rw [List.getElem?_map] at hx
      cases q : ds[f]? with
      | none => rw [q] at hx; cases hx
      | some d2 =>
        rw [q] at hx
        cases hx
        obtain ⟨_, k2, k3⟩ := hd.fun_ d2 (List.mem_of_getElem? q)
        exact ⟨l, d2.fa, d2.fd, d2.ps, ih f d2 q, gr, hd.glo d2 (List.mem_of_getElem? q), k2, k3⟩
    have e2 : callF fs fuel (l + 1) i = fun xs => if xs.length = fn.np then callFn ⟨callF fs fuel l, fuel⟩ fn xs else M.bad := by
      funext xs
      show (match fs[i]? with
        | none => M.bad
        | some fn => if xs.length = fn.np then callFn ⟨callF fs fuel l, fuel⟩ fn xs else M.bad) = _
      rw [ef]
    rw [e2]
    exact main
end Fb
set_option Elab.async false
set_option linter.all false
set_option maxRecDepth 100000
set_option maxHeartbeats 4000000
/-! Fb16: the head's facts, a law's end. -/
namespace Fb
open PySem PySem.Spec PyProof.Rows L2
/-! ### constants of the module -/
mutual
def valB (K : Fg) : Nat → Value → D → Bool
  | l, .none, .non => true
  | l, .bool b, .bl c => b == c
  | l, .int i _, .int j => i == j
  | l, .str s _, .str x => decide (s = SO x) && okS x
  | l + 1, .ref a, .tup ds => (match K.lookup a with
    | some ⟨.type c, _, .seq its _, _⟩ => c == "tuple" && decide (its.size ≤ sizeLine) && valsB K l its.toList ds
    | _ => false)
  | l + 1, .ref a, .ro ds => (match K.lookup a with
    | some ⟨.type c, none, .seq its _, _⟩ => c == "list" && decide (its.size ≤ sizeLine) && valsB K l its.toList ds
    | _ => false)
  | _, _, _ => false
def valsB (K : Fg) : Nat → List Value → List D → Bool
  | l, [], [] => true
  | l + 1, u :: us, d :: ds => valB K l u d && valsB K l us ds
  | _, _, _ => false
end
mutual
theorem val_of {K : Fg} : ∀ {l : Nat} {u : Value} {d : D}, valB K l u d = true → ∃ v, RelV v u ∧ ∀ B m H, RelD K B m H d v
  | l, .none, d, h => by
    cases d <;> first | exact ⟨.non, rfl, fun _ _ _ => .non⟩ | (cases l <;> cases h)
  | l, .bool b, d, h => by
    cases d with
    | bl c => exact ⟨.bl c, by rw [← eq_of_beq (show (b == c) = true by cases l <;> exact h)]; rfl, fun _ _ _ => .bl c⟩
    | _ => cases l <;> cases h
  | l, .int b t, d, h => by
    cases d with
    | int c => exact ⟨.int c, by rw [← eq_of_beq (show (b == c) = true by cases l <;> exact h)]; exact ⟨t, rfl⟩, fun _ _ _ => .int c⟩
    | _ => cases l <;> cases h
  | l, .str s t, d, h => by
    cases d with
    | str c =>
      have h2 := Bool.and_eq_true_iff.mp (show (decide (s = SO c) && okS c) = true by cases l <;> exact h)
      exact ⟨.str (SO c), by rw [← of_decide_eq_true h2.1]; exact ⟨t, rfl⟩, fun _ _ _ => .str c h2.2⟩
    | _ => cases l <;> cases h
  | l, .ref a, d, h => by
    cases l with
    | zero => cases d <;> cases h
    | succ l =>
      cases d with
      | tup ds =>
        unfold valB at h
        split at h
        · rename_i c od its n sl q
          simp only [Bool.and_eq_true, beq_iff_eq, decide_eq_true_eq] at h
          obtain ⟨⟨rfl, h2⟩, h3⟩ := h
          obtain ⟨vs, r, rd⟩ := vals_of h3
          exact ⟨.ref a, rfl, fun B m H => .tup (.inr ⟨_, its, n, q, rfl, rfl, h2, r⟩) (rd B m H)⟩
        · cases h
      | ro ds =>
        unfold valB at h
        split at h
        · rename_i c its n sl q
          simp only [Bool.and_eq_true, beq_iff_eq, decide_eq_true_eq] at h
          obtain ⟨⟨rfl, h2⟩, h3⟩ := h
          obtain ⟨vs, r, rd⟩ := vals_of h3
          exact ⟨.ref a, rfl, fun B m H => .ro (.inr ⟨_, its, n, q, rfl, rfl, rfl, h2, r⟩) (rd B m H)⟩
        · cases h
      | _ => cases h
  | l, .float .., d, h => by cases l <;> cases d <;> cases h
  | l, .bytes .., d, h => by cases l <;> cases d <;> cases h
  | l, .type .., d, h => by cases l <;> cases d <;> cases h
  | l, .builtin .., d, h => by cases l <;> cases d <;> cases h
  | l, .ellipsis, d, h => by cases l <;> cases d <;> cases h
  | l, .notImplemented, d, h => by cases l <;> cases d <;> cases h
theorem vals_of {K : Fg} : ∀ {l : Nat} {us : List Value} {ds : List D}, valsB K l us ds = true → ∃ vs, Vals vs us ∧ ∀ B m H, RelDs K B m H ds vs
  | l, [], ds, h => by
    cases ds with
    | nil => exact ⟨[], .nil, fun _ _ _ => .nil⟩
    | cons => cases l <;> cases h
  | 0, u :: us, ds, h => by cases ds <;> cases h
  | l + 1, u :: us, ds, h => by
    cases ds with
    | nil => cases h
    | cons d ds =>
      have h2 := Bool.and_eq_true_iff.mp (show (valB K l u d && valsB K l us ds) = true from h)
      obtain ⟨v, r1, r2⟩ := val_of h2.1
      obtain ⟨vs, r3, r4⟩ := vals_of h2.2
      exact ⟨v :: vs, .cons r1 r3, fun B m H => .cons (r2 B m H) (r4 B m H)⟩
end
/-- the module's constants -/
def cstB (K : Fg) (q : Str × D) : Bool := match PySem.W.nsIn K mainGlobals q.1 with
  | some (some u) => valB K 1000 u q.2
  | _ => false
theorem cst_of {K : Fg} {h : Heap} {mg : Str → Option Value} {q : Str × D} (X : K.In h) (G : h.Ns mainGlobals mg) (c : cstB K q = true) : ∃ v u, mg q.1 = some u ∧ RelV v u ∧ ∀ B m H, RelD K B m H q.2 v := by
  unfold cstB at c
  split at c
  · rename_i u e
    obtain ⟨v, r1, r2⟩ := val_of c
    exact ⟨v, u, PySem.W.mg_of X G e, r1, r2⟩
  · cases c
/-! ### the Hook -/
abbrev AlF : Type := Bool × He.AlD
def obsF (cs : List (Str × D)) (fa : List He.Fa) (fn : List He.DefD) (K : Fg) : AlF := (cs.all fun q => cstB K q, He.obsD fa fn K)
def obsFG (n : Nat) (cs : List (Str × D)) (fa : List He.Fa) (fn : List He.DefD) (g : Addr → Option Obj) : AlF := obsF cs fa fn (He.frG g (He.asD g n))
def hookF (n : Nat) (cs : List (Str × D)) (fa : List He.Fa) (fn : List He.DefD) : PySem.W.Hook where
  α := AlF
  obs := fun s => obsFG n cs fa fn s.heap.get?
  val := fun _ => (true, He.valD fn)
  says := fun _ h => ∃ K : Fg, K.In h ∧ obsF cs fa fn K = (true, He.valD fn)
  of := fun _ _ e => ⟨_, He.frG_in, e⟩
  keeps := fun _ _ _ ⟨K, hK, c⟩ k => ⟨K, PySem.W.Frag.In.keeps hK k, c⟩
theorem obsFG_eq {n : Nat} {cs : List (Str × D)} {fa : List He.Fa} {fn : List He.DefD} {g : Addr → Option Obj} {s : Shared} (h : ∀ a, g a = s.heap.get? a) : obsFG n cs fa fn g = (hookF n cs fa fn).obs s := by
  have e : g = s.heap.get? := funext h
  rw [e] <;> rfl
/-! ### defs as the checker has them -/
def fdOf (K : Fg) (a : Addr) : FuncData := match K.lookup a with
  | some ⟨_, _, .func fd, _⟩ => fd
  | _ => default
def mkDf (K : Fg) (d : He.DefD) (n : List Str × List Str) : Df := ⟨d.name, d.qual, d.params, d.body, d.scope, n.1, n.2, He.fAd K d.at_, fdOf K (He.fAd K d.at_)⟩
def dsOf (K : Fg) : List He.DefD → List (List Str × List Str) → List Df
  | d :: ds, n :: ns => mkDf K d n :: dsOf K ds ns
  | _, _ => []
/-- a call binds its positional values -/
def BA (d : He.DefD) (ps : List Str) : Prop := ∀ (kV doc pm : Value) (an : Option Addr) (cdv ct : Value) (us : List Value), us.length = ps.length → bindArgs (PySem.W.fnOf d.name d.qual d.params d.body d.scope .none kV doc pm an cdv ct) ⟨us, []⟩ = pure (ps.zip us)
def BAs : List He.DefD → List (List Str × List Str) → Prop
  | d :: ds, n :: ns => BA d n.2 ∧ BAs ds ns
  | _, _ => True
theorem dsOf_mem {K : Fg} {x : Df} : ∀ {ds : List He.DefD} {ns : List (List Str × List Str)}, BAs ds ns → x ∈ dsOf K ds ns → ∃ d n, d ∈ ds ∧ n ∈ ns ∧ BA d n.2 ∧ x = mkDf K d n
  | [], _, _, h => by cases h
  | _ :: _, [], _, h => by cases h
  | d :: ds, n :: ns, b, h => by
    rcases List.mem_cons.mp h with e | h
    · exact ⟨d, n, List.mem_cons_self, List.mem_cons_self, b.1, e⟩
    · obtain ⟨d', n', h1, h2, h3, h4⟩ := dsOf_mem b.2 h
      exact ⟨d', n', List.mem_cons_of_mem _ h1, List.mem_cons_of_mem _ h2, h3, h4⟩
/-- a def in the plain way: a global of its own name, no default -/
def plainD (d : He.DefD) : Bool := decide (d.at_ = (d.name, none)) && d.dfl.isEmpty && d.kwd.isEmpty
/-- the facts asked for -/
def faOf (fn : List He.DefD) (fr : List Str) : List He.Fa := (fn.map fun d => He.Fa.glo d.name) ++ fr.map .free
theorem hd_of {P : Program} {w : World} {K : Fg} {h : Heap} {mg : Str → Option Value} {base : Heap} {cs : List (Str × D)} {fr : List Str} {fn : List He.DefD} {ns : List (List Str × List Str)} (X : K.In h) (G : h.Ns mainGlobals mg)
    (c : obsF cs (faOf fn fr) fn K = (true, He.valD fn)) (hp : (fn.all plainD) = true) (hb : BAs fn ns) : Hd P w K mg base (dsOf K fn ns) cs fr := by
  have c1 : (cs.all fun q => cstB K q) = true := congrArg (fun z : AlF => z.1) c
  have c2 : He.SaysD (faOf fn fr) fn K := congrArg (fun z : AlF => z.2) c
  have fact : ∀ f ∈ faOf fn fr, f.ok K = true := fun f hf => by
    obtain ⟨i, hi, e⟩ := List.mem_iff_getElem.mp hf
    exact c2.fact i (f := f) (by rw [List.getElem?_eq_getElem hi, e])
  have dfl : ∀ d ∈ fn, d.at_ = (d.name, none) ∧ d.dfl = [] ∧ d.kwd = [] := fun d hd => by
    have z := List.all_eq_true.mp hp d hd
    unfold plainD at z
    simp only [Bool.and_eq_true, decide_eq_true_eq, List.isEmpty_iff] at z
    exact ⟨z.1.1, z.1.2, z.2⟩
  have fund : ∀ d ∈ fn, FunD K d.name d.qual d.params d.body d.scope [] [] (He.fAd K d.at_) (fdOf K (He.fAd K d.at_)) := fun d hd => by
    obtain ⟨i, hi, e⟩ := List.mem_iff_getElem.mp hd
    obtain ⟨fd, F⟩ := c2.def_ i (d := d) (by rw [List.getElem?_eq_getElem hi, e])
    obtain ⟨_, e1, e2⟩ := dfl d hd
    have e3 : d.dvs K = [] := by unfold He.DefD.dvs; rw [e1]; rfl
    have e4 : d.kws K = [] := by unfold He.DefD.kws; rw [e2]; rfl
    rw [e3, e4] at F
    have e5 : fdOf K (He.fAd K d.at_) = fd := by
      obtain ⟨oc, od, dV, kV, doc, pm, an, cdv, ct, osl, rfl, lk, _⟩ := F.ex
      unfold fdOf
      rw [lk]
    rw [e5]; exact F
  refine ⟨fun x hx => ?_, fun x hx => ?_, fun x d hx => ?_, fun x hx => ?_⟩
  · obtain ⟨d, n, h1, h2, h3, rfl⟩ := dsOf_mem hb hx
    have F := fund d h1
    exact ⟨F, F.kp, F.bindsN h3⟩
  · obtain ⟨d, n, h1, h2, h3, rfl⟩ := dsOf_mem hb hx
    have e := He.glo_ok X G (fact (.glo d.name) (List.mem_append_left _ (List.mem_map.mpr ⟨d, h1, rfl⟩)))
    show mg d.name = some (.ref (He.fAd K d.at_))
    rw [(dfl d h1).1, e]
    rfl
  · obtain ⟨v, u, k1, k2, k3⟩ := cst_of X G (List.all_eq_true.mp c1 (x, d) hx)
    exact ⟨v, u, k1, k2, fun B m H _ => k3 B m H⟩
  · exact He.free_ok X G (fact (.free x) (List.mem_append_right _ (List.mem_map.mpr ⟨x, hx, rfl⟩)))
theorem noCX {P : Program} {w : World} (H : Hp) (s : Shared) (e : Value) (s' : Shared) (h : L2.CX P w [] H s (fun _ _ _ => False) e s') : False := by
  obtain ⟨_, _, _, _, _, _, _, _, _, _, _, _, z⟩ := h
  exact z
/-- the evaluator's answer is the law's -/
theorem law_sp {K : Fg} {Z : Xt} {f : List D → M D} {H : Hp} {a : Addr} {ns : List Int} (hS : SqL K H a (ns.map V.int)) (hf : ∃ S, f [.ro (ns.map .int)] [] = .ok (.bl true) S) : spF K Z f [.ref a] H (fun v _ => v = .bl true) fun _ _ _ => False := by
  have ri : ∀ ns : List Int, RelDs K [] [] H (ns.map .int) (ns.map V.int) := fun ns => by
    induction ns with
    | nil => exact .nil
    | cons i r ih => exact .cons (.int i) ih
  refine ⟨[], [], [], [.ro (ns.map .int)], ⟨rfl, .nil, fun _ h => (nomatch h), fun i c a h _ => by simp at h⟩, .cons (.ro (hS.imp (fun h => ⟨h, by simp, by simp⟩) id) (ri ns)) .nil, ?_⟩
  obtain ⟨S, e⟩ := hf
  rw [e]
  exact fun m' H' _ _ v r => r.bl_of
/-- a law by the evaluator -/
theorem law_of {l : PySem.W.OpenLaw} {n k : Nat} {q : Program} {loose : List Str} {XP : (Str → Option Value) → Heap → Prop} {d : DefRec} {x : Str} {hn : Nat} {cs : List (Str × D)} {fr : List Str} {fn : List He.DefD} {ns : List (List Str × List Str)} {fs : List Fn} {fuel L : Nat} {dl : He.DefD} {N : List Str}
    (hm : l.most = some n) (hn2 : n ≤ sizeLine) (hdf : d.params.defaults = []) (hr : Room k callerA) (hp : (fn.all plainD) = true) (hb : BAs fn ns) (hc : ∀ K, dfsB ((dsOf K fn ns).map (·.name)) cs fr (dsOf K fn ns) fs = true)
    (hL : ∀ K, (dsOf K fn ns)[L]? = some (mkDf K dl (N, [x]))) (hx : dl.name = d.name) (hbl : BA dl [x])
    (ev : ∀ is : List Int, is.length ≤ n → ∃ S, callF fs fuel k L [.ro (is.map .int)] [] = .ok (.bl true) S) :
    PySem.W.WalkO q loose XP (hookF hn cs (faOf fn fr) fn).says l.row.toRowW d [] (fun f vs => PySem.call f vs) := by
  refine Att.attach_call hm hdf fun w s₀ s₁ mg mb fa o pm cd doc a vs is G Y _ _ _ hmg ha hi hle hgn => ?_
  obtain ⟨K, KX, c⟩ := Y
  have heads : ∀ base : Heap, Hd l.prog w K mg base (dsOf K fn ns) cs fr := fun base => hd_of KX G.T.g c hp hb
  have hmem : mkDf K dl (N, [x]) ∈ dsOf K fn ns := List.mem_of_getElem? (hL K)
  have efa : fa = He.fAd K dl.at_ := by
    have e1 := (heads s₁.heap).glo _ hmem
    rw [show (mkDf K dl (N, [x])).name = d.name from hx, hmg] at e1
    exact Value.ref.inj (Option.some.inj e1)
  obtain ⟨F, hk, hbi⟩ := (heads s₁.heap).fun_ _ hmem
  have lv := fun base => lv_all (Z := []) (fuel := fuel) (heads base) (hc K) k L _ (hL K)
  subst efa
  refine L2.law_call (x := x) KX G.T.g G.T.b G.T.builtins G.T.nolimit hgn ha hi (Nat.le_trans hle hn2) hr (fun base _ _ => lv base) (fun s u => ?_) (fun H _ hS => law_sp hS (ev is hle)) fun H e s' => noCX H s₁ e s'
  exact FunD.bindsA (ps := [x]) F hbl s [u] rfl
end Fb
set_option Elab.async false
set_option linter.all false
set_option maxRecDepth 100000
set_option maxHeartbeats 0
namespace Lw
open PySem PySem.Spec PyProof.Rows L2 Fb
def top (i : Nat) : Stmt := PySem.Challenge.pw_fewbodies_k04_program_text.main.body.getD i (.Pass ⟨0, 0, 0, 0⟩)
def dd (i : Nat) (n : String) : He.DefD := ⟨(PySem.Str.ofString n, none), PySem.Str.ofString n, PySem.Str.ofString n, defArgs (top i), defBody (top i), defScope (top i), [], []⟩
def dd0 : He.DefD := dd 3 "in_brackets"
def dd1 : He.DefD := dd 4 "expression_text"
def dd2 : He.DefD := dd 6 "made_text"
def dd3 : He.DefD := dd 7 "call_text"
def dd4 : He.DefD := dd 8 "statement_lines"
def dd5 : He.DefD := dd 9 "statements_lines"
def dd6 : He.DefD := dd 10 "block_lines"
def dd7 : He.DefD := dd 11 "function_lines"
def dd8 : He.DefD := dd 12 "program_text"
def dd9 : He.DefD := dd 14 "_law_sack"
def dd10 : He.DefD := dd 15 "_law_grab"
def dd11 : He.DefD := dd 16 "_law_habit"
def dd12 : He.DefD := dd 17 "_law_taboo"
def dd13 : He.DefD := dd 18 "_law_call_it"
def dd14 : He.DefD := dd 19 "_law_row_of"
def dd15 : He.DefD := dd 20 "_law_shuffled"
def dd16 : He.DefD := dd 21 "_law_many_looks"
def dd17 : He.DefD := dd 22 "_law_outlines"
def dd18 : He.DefD := dd 23 "_law_leaf"
def dd19 : He.DefD := dd 24 "_law_sum"
def dd20 : He.DefD := dd 25 "_law_into"
def dd21 : He.DefD := dd 26 "_law_goal"
def dd22 : He.DefD := dd 27 "_law_statement"
def dd23 : He.DefD := dd 28 "_law_statements"
def dd24 : He.DefD := dd 29 "_law_blocks"
def dd25 : He.DefD := dd 30 "_law_type"
def dd26 : He.DefD := dd 31 "_law_program"
def dd27 : He.DefD := dd 32 "_law_pump"
def dd28 : He.DefD := dd 33 "_law_turned"
def dd29 : He.DefD := dd 34 "_law_spelled"
def dd30 : He.DefD := dd 35 "_law_made"
def dd31 : He.DefD := dd 36 "_law_lines"
def dd32 : He.DefD := dd 37 "_law_written"
def dd33 : He.DefD := dd 38 "_law_text_right"
def dd34 : He.DefD := dd 39 "_law_mades_right"
def dd35 : He.DefD := dd 40 "law"
def fn : List He.DefD := [dd0, dd1, dd2, dd3, dd4, dd5, dd6, dd7, dd8, dd9, dd10, dd11, dd12, dd13, dd14, dd15, dd16, dd17, dd18, dd19, dd20, dd21, dd22, dd23, dd24, dd25, dd26, dd27, dd28, dd29, dd30, dd31, dd32, dd33, dd34, dd35]
def ns0 : List PySem.Str := ["expression", "kinds", "told"]
def ps0 : List PySem.Str := ["expression", "kinds"]
def ns1 : List PySem.Str := ["expression", "kind"]
def ps1 : List PySem.Str := ["expression"]
def ns2 : List PySem.Str := ["made"]
def ps2 : List PySem.Str := ["made"]
def ns3 : List PySem.Str := ["statement", "told", "_", "name", "function", "made", "arguments", "argument"]
def ps3 : List PySem.Str := ["statement"]
def ns4 : List PySem.Str := ["statement", "kind", "told"]
def ps4 : List PySem.Str := ["statement"]
def ns5 : List PySem.Str := ["statements", "statement"]
def ps5 : List PySem.Str := ["statements"]
def ns6 : List PySem.Str := ["block"]
def ps6 : List PySem.Str := ["block"]
def ns7 : List PySem.Str := ["function", "told", "head", "block"]
def ps7 : List PySem.Str := ["function"]
def ns8 : List PySem.Str := ["program", "told", "function", "name", "names"]
def ps8 : List PySem.Str := ["program"]
def ns9 : List PySem.Str := ["script", "cells", "k"]
def ps9 : List PySem.Str := ["script"]
def ns10 : List PySem.Str := ["sack", "many", "cells"]
def ps10 : List PySem.Str := ["sack", "many"]
def ns11 : List PySem.Str := ["sack", "place", "many", "cell", "way"]
def ps11 : List PySem.Str := ["sack", "place", "many"]
def ns12 : List PySem.Str := []
def ps12 : List PySem.Str := []
def ns13 : List PySem.Str := ["sack", "place", "taken", "letters", "word", "k"]
def ps13 : List PySem.Str := ["sack", "place", "taken"]
def ns14 : List PySem.Str := ["sack", "place", "many", "taken", "row", "k"]
def ps14 : List PySem.Str := ["sack", "place", "many", "taken"]
def ns15 : List PySem.Str := ["sack", "things", "k", "rest", "row"]
def ps15 : List PySem.Str := ["sack", "things"]
def ns16 : List PySem.Str := ["wraps", "grounds", "deep", "many", "k"]
def ps16 : List PySem.Str := ["wraps", "grounds", "deep"]
def ns17 : List PySem.Str := ["sack", "wraps", "grounds", "names", "top", "k", "rows", "name", "heads"]
def ps17 : List PySem.Str := ["sack", "wraps", "grounds"]
def ns18 : List PySem.Str := ["sack", "names"]
def ps18 : List PySem.Str := ["sack", "names"]
def ns19 : List PySem.Str := ["sack", "names", "many", "row", "k", "at"]
def ps19 : List PySem.Str := ["sack", "names"]
def ns20 : List PySem.Str := ["sack", "names"]
def ps20 : List PySem.Str := ["sack", "names"]
def ns21 : List PySem.Str := ["sack", "world", "rank", "head", "word", "below", "level", "wraps", "grounds", "rows", "row", "k"]
def ps21 : List PySem.Str := ["sack", "world", "rank", "head"]
def ns22 : List PySem.Str := ["sack", "world", "own", "names", "left", "deep", "way", "name", "then", "given", "one", "other", "made", "goal"]
def ps22 : List PySem.Str := ["sack", "world", "own", "names", "left", "deep"]
def ns23 : List PySem.Str := ["sack", "world", "own", "names", "left", "deep", "rows", "k"]
def ps23 : List PySem.Str := ["sack", "world", "own", "names", "left", "deep"]
def ns24 : List PySem.Str := ["sack", "world", "row", "left", "cases", "head", "steps", "names", "share"]
def ps24 : List PySem.Str := ["sack", "world", "row", "left"]
def ns25 : List PySem.Str := ["sack", "wraps", "grounds", "many", "k"]
def ps25 : List PySem.Str := ["sack", "wraps", "grounds"]
def ns26 : List PySem.Str := ["sack", "wraps", "grounds", "rows", "funs", "starts", "k", "world", "left", "row"]
def ps26 : List PySem.Str := ["sack"]
def ns27 : List PySem.Str := ["sack", "word", "less", "fall", "one", "cut", "other", "wrap", "ground", "up", "down", "name", "into"]
def ps27 : List PySem.Str := ["sack"]
def ns28 : List PySem.Str := ["sack", "program", "funs", "name", "params", "cases", "last", "wraps", "grounds"]
def ps28 : List PySem.Str := ["sack", "program"]
def ns29 : List PySem.Str := ["tree", "left", "right"]
def ps29 : List PySem.Str := ["tree"]
def ns30 : List PySem.Str := ["made"]
def ps30 : List PySem.Str := ["made"]
def ns31 : List PySem.Str := ["rows", "lines", "row", "given", "one"]
def ps31 : List PySem.Str := ["rows"]
def ns32 : List PySem.Str := ["program", "lines", "name", "params", "cases", "names", "head", "block", "line"]
def ps32 : List PySem.Str := ["program"]
def ns33 : List PySem.Str := ["program", "told"]
def ps33 : List PySem.Str := ["program"]
def ns34 : List PySem.Str := ["sack", "program", "wraps", "source", "many", "made", "told", "k"]
def ps34 : List PySem.Str := ["sack", "program"]
def ns35 : List PySem.Str := ["script", "sack", "k", "program"]
def ps35 : List PySem.Str := ["script"]
def ns : List (List PySem.Str × List PySem.Str) := [(ns0, ps0), (ns1, ps1), (ns2, ps2), (ns3, ps3), (ns4, ps4), (ns5, ps5), (ns6, ps6), (ns7, ps7), (ns8, ps8), (ns9, ps9), (ns10, ps10), (ns11, ps11), (ns12, ps12), (ns13, ps13), (ns14, ps14), (ns15, ps15), (ns16, ps16), (ns17, ps17), (ns18, ps18), (ns19, ps19), (ns20, ps20), (ns21, ps21), (ns22, ps22), (ns23, ps23), (ns24, ps24), (ns25, ps25), (ns26, ps26), (ns27, ps27), (ns28, ps28), (ns29, ps29), (ns30, ps30), (ns31, ps31), (ns32, ps32), (ns33, ps33), (ns34, ps34), (ns35, ps35)]
theorem ba0 : BA dd0 ps0 := fun _ _ _ _ _ _ us hl => match us, hl with | [_, _], _ => rfl
theorem ba1 : BA dd1 ps1 := fun _ _ _ _ _ _ us hl => match us, hl with | [_], _ => rfl
theorem ba2 : BA dd2 ps2 := fun _ _ _ _ _ _ us hl => match us, hl with | [_], _ => rfl
theorem ba3 : BA dd3 ps3 := fun _ _ _ _ _ _ us hl => match us, hl with | [_], _ => rfl
theorem ba4 : BA dd4 ps4 := fun _ _ _ _ _ _ us hl => match us, hl with | [_], _ => rfl
theorem ba5 : BA dd5 ps5 := fun _ _ _ _ _ _ us hl => match us, hl with | [_], _ => rfl
theorem ba6 : BA dd6 ps6 := fun _ _ _ _ _ _ us hl => match us, hl with | [_], _ => rfl
theorem ba7 : BA dd7 ps7 := fun _ _ _ _ _ _ us hl => match us, hl with | [_], _ => rfl
theorem ba8 : BA dd8 ps8 := fun _ _ _ _ _ _ us hl => match us, hl with | [_], _ => rfl
theorem ba9 : BA dd9 ps9 := fun _ _ _ _ _ _ us hl => match us, hl with | [_], _ => rfl
theorem ba10 : BA dd10 ps10 := fun _ _ _ _ _ _ us hl => match us, hl with | [_, _], _ => rfl
theorem ba11 : BA dd11 ps11 := fun _ _ _ _ _ _ us hl => match us, hl with | [_, _, _], _ => rfl
theorem ba12 : BA dd12 ps12 := fun _ _ _ _ _ _ us hl => match us, hl with | [], _ => rfl
theorem ba13 : BA dd13 ps13 := fun _ _ _ _ _ _ us hl => match us, hl with | [_, _, _], _ => rfl
theorem ba14 : BA dd14 ps14 := fun _ _ _ _ _ _ us hl => match us, hl with | [_, _, _, _], _ => rfl
theorem ba15 : BA dd15 ps15 := fun _ _ _ _ _ _ us hl => match us, hl with | [_, _], _ => rfl
theorem ba16 : BA dd16 ps16 := fun _ _ _ _ _ _ us hl => match us, hl with | [_, _, _], _ => rfl
theorem ba17 : BA dd17 ps17 := fun _ _ _ _ _ _ us hl => match us, hl with | [_, _, _], _ => rfl
theorem ba18 : BA dd18 ps18 := fun _ _ _ _ _ _ us hl => match us, hl with | [_, _], _ => rfl
theorem ba19 : BA dd19 ps19 := fun _ _ _ _ _ _ us hl => match us, hl with | [_, _], _ => rfl
theorem ba20 : BA dd20 ps20 := fun _ _ _ _ _ _ us hl => match us, hl with | [_, _], _ => rfl
theorem ba21 : BA dd21 ps21 := fun _ _ _ _ _ _ us hl => match us, hl with | [_, _, _, _], _ => rfl
theorem ba22 : BA dd22 ps22 := fun _ _ _ _ _ _ us hl => match us, hl with | [_, _, _, _, _, _], _ => rfl
theorem ba23 : BA dd23 ps23 := fun _ _ _ _ _ _ us hl => match us, hl with | [_, _, _, _, _, _], _ => rfl
theorem ba24 : BA dd24 ps24 := fun _ _ _ _ _ _ us hl => match us, hl with | [_, _, _, _], _ => rfl
theorem ba25 : BA dd25 ps25 := fun _ _ _ _ _ _ us hl => match us, hl with | [_, _, _], _ => rfl
theorem ba26 : BA dd26 ps26 := fun _ _ _ _ _ _ us hl => match us, hl with | [_], _ => rfl
theorem ba27 : BA dd27 ps27 := fun _ _ _ _ _ _ us hl => match us, hl with | [_], _ => rfl
theorem ba28 : BA dd28 ps28 := fun _ _ _ _ _ _ us hl => match us, hl with | [_, _], _ => rfl
theorem ba29 : BA dd29 ps29 := fun _ _ _ _ _ _ us hl => match us, hl with | [_], _ => rfl
theorem ba30 : BA dd30 ps30 := fun _ _ _ _ _ _ us hl => match us, hl with | [_], _ => rfl
theorem ba31 : BA dd31 ps31 := fun _ _ _ _ _ _ us hl => match us, hl with | [_], _ => rfl
theorem ba32 : BA dd32 ps32 := fun _ _ _ _ _ _ us hl => match us, hl with | [_], _ => rfl
theorem ba33 : BA dd33 ps33 := fun _ _ _ _ _ _ us hl => match us, hl with | [_], _ => rfl
theorem ba34 : BA dd34 ps34 := fun _ _ _ _ _ _ us hl => match us, hl with | [_, _], _ => rfl
theorem ba35 : BA dd35 ps35 := fun _ _ _ _ _ _ us hl => match us, hl with | [_], _ => rfl
theorem bas : BAs fn ns := ⟨ba0, ba1, ba2, ba3, ba4, ba5, ba6, ba7, ba8, ba9, ba10, ba11, ba12, ba13, ba14, ba15, ba16, ba17, ba18, ba19, ba20, ba21, ba22, ba23, ba24, ba25, ba26, ba27, ba28, ba29, ba30, ba31, ba32, ba33, ba34, ba35, trivial⟩
def cs : List (PySem.Str × D) := [("SUMS", (.tup [(.str [43]), (.str [45])])), ("SIGNED", (.tup [(.str [43]), (.str [45]), (.str [42])]))]
def fr : List PySem.Str := ["int", "isinstance", "len", "list", "min", "range", "str", "tuple"]
theorem ck0 (K : PySem.W.Frag) : dfB ((dsOf K fn ns).map (·.name)) cs fr (mkDf K dd0 (ns0, ps0)) f_in_brackets = true := by kernel_rfl
theorem ck1 (K : PySem.W.Frag) : dfB ((dsOf K fn ns).map (·.name)) cs fr (mkDf K dd1 (ns1, ps1)) f_expression_text = true := by kernel_rfl
theorem ck2 (K : PySem.W.Frag) : dfB ((dsOf K fn ns).map (·.name)) cs fr (mkDf K dd2 (ns2, ps2)) f_made_text = true := by kernel_rfl
theorem ck3 (K : PySem.W.Frag) : dfB ((dsOf K fn ns).map (·.name)) cs fr (mkDf K dd3 (ns3, ps3)) f_call_text = true := by kernel_rfl
theorem ck4 (K : PySem.W.Frag) : dfB ((dsOf K fn ns).map (·.name)) cs fr (mkDf K dd4 (ns4, ps4)) f_statement_lines = true := by kernel_rfl
theorem ck5 (K : PySem.W.Frag) : dfB ((dsOf K fn ns).map (·.name)) cs fr (mkDf K dd5 (ns5, ps5)) f_statements_lines = true := by kernel_rfl
theorem ck6 (K : PySem.W.Frag) : dfB ((dsOf K fn ns).map (·.name)) cs fr (mkDf K dd6 (ns6, ps6)) f_block_lines = true := by kernel_rfl
theorem ck7 (K : PySem.W.Frag) : dfB ((dsOf K fn ns).map (·.name)) cs fr (mkDf K dd7 (ns7, ps7)) f_function_lines = true := by kernel_rfl
theorem ck8 (K : PySem.W.Frag) : dfB ((dsOf K fn ns).map (·.name)) cs fr (mkDf K dd8 (ns8, ps8)) f_program_text = true := by kernel_rfl
theorem ck9 (K : PySem.W.Frag) : dfB ((dsOf K fn ns).map (·.name)) cs fr (mkDf K dd9 (ns9, ps9)) f_law_sack = true := by kernel_rfl
theorem ck10 (K : PySem.W.Frag) : dfB ((dsOf K fn ns).map (·.name)) cs fr (mkDf K dd10 (ns10, ps10)) f_law_grab = true := by kernel_rfl
theorem ck11 (K : PySem.W.Frag) : dfB ((dsOf K fn ns).map (·.name)) cs fr (mkDf K dd11 (ns11, ps11)) f_law_habit = true := by kernel_rfl
theorem ck12 (K : PySem.W.Frag) : dfB ((dsOf K fn ns).map (·.name)) cs fr (mkDf K dd12 (ns12, ps12)) f_law_taboo = true := by kernel_rfl
theorem ck13 (K : PySem.W.Frag) : dfB ((dsOf K fn ns).map (·.name)) cs fr (mkDf K dd13 (ns13, ps13)) f_law_call_it = true := by kernel_rfl
theorem ck14 (K : PySem.W.Frag) : dfB ((dsOf K fn ns).map (·.name)) cs fr (mkDf K dd14 (ns14, ps14)) f_law_row_of = true := by kernel_rfl
theorem ck15 (K : PySem.W.Frag) : dfB ((dsOf K fn ns).map (·.name)) cs fr (mkDf K dd15 (ns15, ps15)) f_law_shuffled = true := by kernel_rfl
theorem ck16 (K : PySem.W.Frag) : dfB ((dsOf K fn ns).map (·.name)) cs fr (mkDf K dd16 (ns16, ps16)) f_law_many_looks = true := by kernel_rfl
theorem ck17 (K : PySem.W.Frag) : dfB ((dsOf K fn ns).map (·.name)) cs fr (mkDf K dd17 (ns17, ps17)) f_law_outlines = true := by kernel_rfl
theorem ck18 (K : PySem.W.Frag) : dfB ((dsOf K fn ns).map (·.name)) cs fr (mkDf K dd18 (ns18, ps18)) f_law_leaf = true := by kernel_rfl
theorem ck19 (K : PySem.W.Frag) : dfB ((dsOf K fn ns).map (·.name)) cs fr (mkDf K dd19 (ns19, ps19)) f_law_sum = true := by kernel_rfl
theorem ck20 (K : PySem.W.Frag) : dfB ((dsOf K fn ns).map (·.name)) cs fr (mkDf K dd20 (ns20, ps20)) f_law_into = true := by kernel_rfl
theorem ck21 (K : PySem.W.Frag) : dfB ((dsOf K fn ns).map (·.name)) cs fr (mkDf K dd21 (ns21, ps21)) f_law_goal = true := by kernel_rfl
theorem ck22 (K : PySem.W.Frag) : dfB ((dsOf K fn ns).map (·.name)) cs fr (mkDf K dd22 (ns22, ps22)) f_law_statement = true := by kernel_rfl
theorem ck23 (K : PySem.W.Frag) : dfB ((dsOf K fn ns).map (·.name)) cs fr (mkDf K dd23 (ns23, ps23)) f_law_statements = true := by kernel_rfl
theorem ck24 (K : PySem.W.Frag) : dfB ((dsOf K fn ns).map (·.name)) cs fr (mkDf K dd24 (ns24, ps24)) f_law_blocks = true := by kernel_rfl
theorem ck25 (K : PySem.W.Frag) : dfB ((dsOf K fn ns).map (·.name)) cs fr (mkDf K dd25 (ns25, ps25)) f_law_type = true := by kernel_rfl
theorem ck26 (K : PySem.W.Frag) : dfB ((dsOf K fn ns).map (·.name)) cs fr (mkDf K dd26 (ns26, ps26)) f_law_program = true := by kernel_rfl
theorem ck27 (K : PySem.W.Frag) : dfB ((dsOf K fn ns).map (·.name)) cs fr (mkDf K dd27 (ns27, ps27)) f_law_pump = true := by kernel_rfl
theorem ck28 (K : PySem.W.Frag) : dfB ((dsOf K fn ns).map (·.name)) cs fr (mkDf K dd28 (ns28, ps28)) f_law_turned = true := by kernel_rfl
theorem ck29 (K : PySem.W.Frag) : dfB ((dsOf K fn ns).map (·.name)) cs fr (mkDf K dd29 (ns29, ps29)) f_law_spelled = true := by kernel_rfl
theorem ck30 (K : PySem.W.Frag) : dfB ((dsOf K fn ns).map (·.name)) cs fr (mkDf K dd30 (ns30, ps30)) f_law_made = true := by kernel_rfl
theorem ck31 (K : PySem.W.Frag) : dfB ((dsOf K fn ns).map (·.name)) cs fr (mkDf K dd31 (ns31, ps31)) f_law_lines = true := by kernel_rfl
theorem ck32 (K : PySem.W.Frag) : dfB ((dsOf K fn ns).map (·.name)) cs fr (mkDf K dd32 (ns32, ps32)) f_law_written = true := by kernel_rfl
theorem ck33 (K : PySem.W.Frag) : dfB ((dsOf K fn ns).map (·.name)) cs fr (mkDf K dd33 (ns33, ps33)) f_law_text_right = true := by kernel_rfl
theorem ck34 (K : PySem.W.Frag) : dfB ((dsOf K fn ns).map (·.name)) cs fr (mkDf K dd34 (ns34, ps34)) f_law_mades_right = true := by kernel_rfl
theorem ck35 (K : PySem.W.Frag) : dfB ((dsOf K fn ns).map (·.name)) cs fr (mkDf K dd35 (ns35, ps35)) f_law = true := by kernel_rfl
theorem ck (K : PySem.W.Frag) : dfsB ((dsOf K fn ns).map (·.name)) cs fr (dsOf K fn ns) fs = true := by
  show dfsB ((dsOf K fn ns).map (·.name)) cs fr [mkDf K dd0 (ns0, ps0), mkDf K dd1 (ns1, ps1), mkDf K dd2 (ns2, ps2), mkDf K dd3 (ns3, ps3), mkDf K dd4 (ns4, ps4), mkDf K dd5 (ns5, ps5), mkDf K dd6 (ns6, ps6), mkDf K dd7 (ns7, ps7), mkDf K dd8 (ns8, ps8), mkDf K dd9 (ns9, ps9), mkDf K dd10 (ns10, ps10), mkDf K dd11 (ns11, ps11), mkDf K dd12 (ns12, ps12), mkDf K dd13 (ns13, ps13), mkDf K dd14 (ns14, ps14), mkDf K dd15 (ns15, ps15), mkDf K dd16 (ns16, ps16), mkDf K dd17 (ns17, ps17), mkDf K dd18 (ns18, ps18), mkDf K dd19 (ns19, ps19), mkDf K dd20 (ns20, ps20), mkDf K dd21 (ns21, ps21), mkDf K dd22 (ns22, ps22), mkDf K dd23 (ns23, ps23), mkDf K dd24 (ns24, ps24), mkDf K dd25 (ns25, ps25), mkDf K dd26 (ns26, ps26), mkDf K dd27 (ns27, ps27), mkDf K dd28 (ns28, ps28), mkDf K dd29 (ns29, ps29), mkDf K dd30 (ns30, ps30), mkDf K dd31 (ns31, ps31), mkDf K dd32 (ns32, ps32), mkDf K dd33 (ns33, ps33), mkDf K dd34 (ns34, ps34), mkDf K dd35 (ns35, ps35)] [f_in_brackets, f_expression_text, f_made_text, f_call_text, f_statement_lines, f_statements_lines, f_block_lines, f_function_lines, f_program_text, f_law_sack, f_law_grab, f_law_habit, f_law_taboo, f_law_call_it, f_law_row_of, f_law_shuffled, f_law_many_looks, f_law_outlines, f_law_leaf, f_law_sum, f_law_into, f_law_goal, f_law_statement, f_law_statements, f_law_blocks, f_law_type, f_law_program, f_law_pump, f_law_turned, f_law_spelled, f_law_made, f_law_lines, f_law_written, f_law_text_right, f_law_mades_right, f_law] = true
  simp only [dfsB, ck0, ck1, ck2, ck3, ck4, ck5, ck6, ck7, ck8, ck9, ck10, ck11, ck12, ck13, ck14, ck15, ck16, ck17, ck18, ck19, ck20, ck21, ck22, ck23, ck24, ck25, ck26, ck27, ck28, ck29, ck30, ck31, ck32, ck33, ck34, ck35, Bool.and_self]
abbrev R : PySem.W.OpenRow := PySem.W.OpenLaw.row PySem.Challenge.rw_fewbodies_k04_program_text
abbrev hk : PySem.W.Hook := hookF 5 cs (faOf fn fr) fn
def ob (s : PySem.W.SharedT) : AlF := obsFG 5 cs (faOf fn fr) fn (HandSHeadRun.getT s)
theorem ob_eq (s : PySem.W.SharedT) : ob s = hk.obs s.abs := obsFG_eq (HandSHeadRun.getT_eq s)
def lo0 : List PySem.Str := ["SUMS", "SIGNED", "in_brackets", "expression_text", "made_text", "call_text", "statement_lines", "statements_lines", "block_lines", "function_lines", "program_text", "_law_sack", "_law_grab", "_law_habit", "_law_taboo", "_law_call_it", "_law_row_of", "_law_shuffled", "_law_many_looks", "_law_outlines", "_law_leaf", "_law_sum", "_law_into", "_law_goal", "_law_statement", "_law_statements", "_law_blocks", "_law_type", "_law_program", "_law_pump"]
def lo1 : List PySem.Str := ["_law_turned", "_law_spelled", "_law_made", "_law_lines", "_law_written", "_law_text_right", "_law_mades_right"]
def loose : List PySem.Str := lo0 ++ lo1
theorem run (w : World) : HandSHeadRun.RunEq R (PySem.W.view R.prog [40]) hk ob 8000 loose w := by
  intro os
  kernel_rfl
theorem done_of (k fuel : Nat) (hr : Room k callerA) (ev : ∀ is : List Int, is.length ≤ 63 → ∃ S, callF fs fuel k 35 [.ro (is.map .int)] [] = .ok (.bl true) S) : PySem.Challenge.rw_fewbodies_k04_program_text.Holds := by
  w_on; o_law
  refine HandSHeadRun.head_any (r := R) (q := PySem.W.view R.prog [40]) (H := hk) (ob := ob) (M := 8000) (loose := loose) (d := HandSHeadRun.topDef R.prog 40) (kwd := []) ob_eq
    (by kernel_rfl) (fun s => by kernel_rfl) run (by kernel_rfl) (by kernel_rfl) (by kernel_rfl) (by rfl) (by first | assumption | decide +kernel) (by decide +kernel) ⟨rfl, rfl, rfl, rfl, rfl, by decide +kernel⟩ ?hw ?hc
  case hw => w_witness2
  case hc => exact law_of (l := PySem.Challenge.rw_fewbodies_k04_program_text) (n := 63) (k := k) (x := "script") (hn := 5) (cs := cs) (fr := fr) (fn := fn) (ns := ns) (fs := fs) (fuel := fuel) (L := 35) (dl := dd35) (N := ns35) rfl (by decide) (by kernel_rfl) hr (by kernel_rfl) bas ck (fun K => rfl) (by kernel_rfl) ba35 ev
end Lw
set_option maxHeartbeats 4000000
theorem PySem.Challenge.cw_fewbodies_k04_program_text_holds : PySem.Challenge.rw_fewbodies_k04_program_text.Holds := by
  refine Lw.done_of 80 20000 ⟨rfl, by decide, by decide⟩ fun is hn => ?_
  exact Lw.law_ev (by decide) hn (by decide)
