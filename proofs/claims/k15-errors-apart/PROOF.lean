import PyProof.Rows.All
import PySem.Str
import Wide.All
import OpenK.AllK
import Wide.FinOn
import HandS.ForMost
import HandS.ForExc
import HandS.More
import HandS.SetBool
import HandS.Deep
import HandS.TupAny
import HandS.IsInst
import KE.KTupSum
import HandS.Strs
import KE.KSuper
import KE.KExcSuper
import HandS.Base
import HandS.Call
import HandS.List
import HandS.Ends
import HandS.Exc
import HandS.ExcInit
import HandS.ExcOwn
import HandS.ExcCtx
import HandS.ExcField
import HandS.TryMany
import HandS.HotCalls
import HandS.Star
import HandS.Property
import HandS.HeadHook1
import HandS.TupMul
import HandS.ExcIs
import HandS.RaiseMore
import KE.GoesMore
import KE.GoesEnum
import HandS.Hot
import HandS.Style
import HandS.Defaults
import HandS.WordsExc
import KE.KStateDown
import HandS.Words
import HandS.Codes
import HandS.Head0
import HandS.Head1
import HandS.Head2
import HandS.HeadEnd
import HandS.HeadHook2
import HandS.HeadHook3
import PyProof.TableCode
import PySem.Challenge.RW_roundarms_k15_errors_apart
set_option Elab.async false
set_option linter.all false
set_option maxRecDepth 100000
set_option maxHeartbeats 4000000
/-! Data as trees over the hand layer, the handled error among its values; the defs of the text as terms; the law, run. -/
/-! Data as trees; a small language over it; what its terms come to. -/
namespace DL
open PySem

/-- a value as data: lists, tuples, dicts, drives that no longer change are trees -/
inductive D where
  | non | bl (b : Bool) | int (i : Int) | str (x : Str)
  | tup (l : List D) | lst (l : List D)
  | map (kvs : List (Str × D))
  | drv (t : D)
  | scr (l : List D)
  deriving Inhabited
/-- a field of an instance: data, or a list of its own -/
inductive Fd where
  | dat (d : D) | own (l : List D)
  deriving Inhabited
/-- what stands in the store -/
inductive Cell where
  | lst (l : List D)
  | ins (c : Nat) (fs : List (Str × Fd))
  | bdc (kvs : List (Bool × D))
  | dead
  deriving Inhabited
/-- an exception: its class, its fields -/
structure Xn where
  c : Nat
  fs : List (Str × D)
  deriving Inhabited
/-- a value: data, a place in the store, or the error that is handled -/
inductive U where
  | d (d : D) | loc (n : Nat) | err (x : Xn)
  deriving Inhabited

abbrev Store := List Cell
abbrev Env := List (Option U)
/-- what comes of a term: a value, an exception; none: nothing is said -/
inductive R (A : Type) where
  | ok (a : A) (S : Store)
  | ex (x : Xn) (S : Store)
abbrev M (A : Type) := Option (R A)
def bnd {A B : Type} (m : M A) (k : A → Store → M B) : M B := match m with
  | none => none
  | some (.ex x S) => some (.ex x S)
  | some (.ok a S) => k a S
@[simp] theorem bnd_none {A B : Type} (k : A → Store → M B) : bnd none k = none := rfl
@[simp] theorem bnd_ok {A B : Type} (a : A) (S : Store) (k : A → Store → M B) : bnd (some (.ok a S)) k = k a S := rfl
@[simp] theorem bnd_ex {A B : Type} (x : Xn) (S : Store) (k : A → Store → M B) : bnd (some (.ex x S)) k = some (.ex x S) := rfl
/-- an answer without an exception wanted -/
def noX {A : Type} (m : M A) : M A := match m with
  | some (.ok a S) => some (.ok a S)
  | _ => none
@[simp] theorem noX_ok {A : Type} (a : A) (S : Store) : noX (some (.ok a S)) = some (.ok a S) := rfl
@[simp] theorem noX_none {A : Type} : noX (none : M A) = none := rfl
@[simp] theorem noX_ex {A : Type} (x : Xn) (S : Store) : noX (some (.ex x S) : M A) = none := rfl
/-- data wanted -/
def bnD {B : Type} (m : M U) (k : D → Store → M B) : M B := bnd m fun u S => match u with
  | .d d => k d S
  | _ => none
@[simp] theorem bnD_none {B : Type} (k : D → Store → M B) : bnD none k = none := rfl
@[simp] theorem bnD_ok {B : Type} (a : D) (S : Store) (k : D → Store → M B) : bnD (some (.ok (.d a) S)) k = k a S := rfl
@[simp] theorem bnD_ex {B : Type} (x : Xn) (S : Store) (k : D → Store → M B) : bnD (some (.ex x S)) k = some (.ex x S) := rfl
/-- an answer without a change -/
def giv (o : Option D) (S : Store) : M U := match o with
  | some d => some (.ok (.d d) S)
  | none => none
@[simp] theorem giv_some (d : D) (S : Store) : giv (some d) S = some (.ok (.d d) S) := rfl
@[simp] theorem giv_none (S : Store) : giv none S = none := rfl

inductive Bop where
  | add | sub | mul | fdiv | mod | pow
  deriving DecidableEq
inductive Cop where
  | eq | ne | lt | le | gt | ge | mem | nmem | is | isn
  deriving DecidableEq
inductive Ty where
  | int | bool | str | tup | lst | dict | drv
  deriving DecidableEq
inductive Bi where
  | len | abs | int | str | tuple | list | sum | any | all | max | min
  deriving DecidableEq

inductive E where
  | int (i : Int) | str (x : Str) | bl (b : Bool) | non
  | var (i : Nat) | con (k : Nat)
  | bop (o : Bop) (a b : E) | neg (a : E)
  | cmp (o : Cop) (a b : E) | chain (o p : Cop) (a b c : E)
  | not (a : E) | and (a b : E) | or (a b : E) | ite (t a b : E)
  | ix (a i : E) | sl (a lo hi : E) | rev (a : E)
  | tup (es : E) | lst (es : E) | cel (es : E) | catc (a b : E) | map (ks : List Str) (es : E)
  | call (f : Nat) (es : E) | mkd (f : Nat) (es : E) | mkc (c f : Nat) (es : E) | meth (c f : Nat) (m : Str) (a es : E) | prop (f : Nat) (a : E)
  | fld (a : E) (x : Str) | leno (c f : Nat) (a : E) | eqo (f : Nat) (a b : E)
  | bi (b : Bi) (es : E) | isi (t : Ty) (a : E) | cix (k : Nat) (a : E) | app (o a : E) | popa (o i : E) | join (y a : E) | split (x y : E)
  | srt (a : E) | nset (a : E)
  | fapp (a : E) (x : Str) (e : E) | fpop (a : E) (x : Str) | fix (a : E) (x : Str) (i : E) | flen (a : E) (x : Str) | ftup (a : E) (x : Str) | feq0 (a : E) (x : Str)
  | bdn | sdef (a k v : E) | bget (a k : E)
  | rng1 (a : E) | rng2 (a b : E) | enum (a : E) | zip (a b : E)
  | lc (vs : List Nat) (it : E) (g : List Nat) (t e : E) | lc2 (vs : List Nat) (it : E) (g : List Nat) (t : E) (vs1 : List Nat) (it1 : E) (g1 : List Nat) (t1 e : E)
  | yes
  | xis (k : Nat) (a : E) | xiv (a : E) | xfl (a : E) (x : Str)
  | nil | cons (a r : E) | star (a r : E)

/-! ### operations on data -/
mutual
def eqD : D → D → Bool
  | .non, .non => true
  | .bl a, .bl b => a == b
  | .bl a, .int j => (if a then 1 else 0) == j
  | .int i, .bl b => i == (if b then 1 else 0)
  | .int i, .int j => i == j
  | .str x, .str y => decide (x = y)
  | .tup xs, .tup ys => eqDs xs ys
  | .lst xs, .lst ys => eqDs xs ys
  | _, _ => false
def eqDs : List D → List D → Bool
  | [], [] => true
  | x :: xs, y :: ys => eqD x y && eqDs xs ys
  | _, _ => false
end
/-- texts that the model lays out -/
def okS (x : Str) : Bool := x.cps.all (· < 1114112)
mutual
/-- what == compares: of depth at most n -/
def okD : Nat → D → Bool
  | _, .non => true
  | _, .bl _ => true
  | _, .int _ => true
  | _, .str x => okS x
  | n + 1, .tup l => okDs n l
  | n + 1, .lst l => okDs n l
  | _, _ => false
def okDs : Nat → List D → Bool
  | _, [] => true
  | n, x :: xs => okD n x && okDs n xs
end
def flat : D → Bool
  | .non => true
  | .bl _ => true
  | .int _ => true
  | .str _ => true
  | _ => false
/-- the scalars that are compared at once -/
def scal : D → D → Bool
  | .non, .non => true | .non, .int _ => true | .int _, .non => true | .non, .bl _ => true | .bl _, .non => true | .non, .str _ => true | .str _, .non => true
  | .int _, .int _ => true | .bl _, .bl _ => true | .str _, .str _ => true
  | .int _, .str _ => true | .str _, .int _ => true | .bl _, .str _ => true | .str _, .bl _ => true
  | _, _ => false
/-- a dict and a tuple are unlike -/
def mapTup : D → D → Bool
  | .map _, .tup _ => true
  | _, _ => false
def eqC (a b : D) : Option Bool := if scal a b || (okD 50 a && okD 50 b) then some (eqD a b) else if mapTup a b then some false else none
def seqOf : D → Option (List D)
  | .tup l => some l
  | .lst l => some l
  | .scr l => some l
  | _ => none
def memD (a b : D) : Option Bool := match b with
  | .tup l => if flat a && l.all flat then some (l.any fun z => eqD z a) else none
  | .lst l => if flat a && l.all flat then some (l.any fun z => eqD z a) else none
  | .map kvs => (match a with
    | .str x => some ((kvs.lookup x).isSome)
    | _ => none)
  | _ => none
def intC (f : Int → Int → Bool) : D → D → Option Bool
  | .int i, .int j => some (f i j)
  | _, _ => none
def cmpD : Cop → D → D → Option Bool
  | .eq, a, b => eqC a b
  | .ne, a, b => (eqC a b).map (!·)
  | .lt, a, b => intC (fun i j => decide (i < j)) a b
  | .le, a, b => intC (fun i j => decide (i ≤ j)) a b
  | .gt, a, b => intC (fun i j => decide (j < i)) a b
  | .ge, a, b => intC (fun i j => decide (j ≤ i)) a b
  | .mem, a, b => memD a b
  | .nmem, a, b => (memD a b).map (!·)
  | .is, a, .non => some (match a with | .non => true | _ => false)
  | .isn, a, .non => some (match a with | .non => false | _ => true)
  | _, _, _ => none
/-- the most items that a list may have -/
def line : Nat := 16777216
def repl {A : Type} (l : List A) (k : Int) : List A := (List.replicate k.toNat l).flatten
def small64 (i : Int) : Bool := decide (-(2 ^ 64) < i) && decide (i < 2 ^ 64)
def bopD : Bop → D → D → Option D
  | .add, .int i, .int j => some (.int (i + j))
  | .add, .str x, .str y => if x.length + y.length ≤ line then some (.str (x ++ y)) else none
  | .add, .tup l, .tup m => if l.length + m.length ≤ line then some (.tup (l ++ m)) else none
  | .add, .lst l, .lst m => if l.length + m.length ≤ line then some (.lst (l ++ m)) else none
  | .sub, .int i, .int j => some (.int (i - j))
  | .mul, .int i, .int j => if small64 i || small64 j then some (.int (i * j)) else none
  | .mul, .tup l, .int k => if l ≠ [] ∧ 2 ≤ k ∧ k ≤ 1000 ∧ l.length ≤ 1000 then some (.tup (repl l k)) else if (l = [] ∨ k = 1) ∧ -1000000 ≤ k ∧ k ≤ 1000000 then some (.tup l) else none
  | .mul, .str x, .int k => if 1 ≤ k ∧ k ≤ 1000 ∧ x.length ≤ 1000 then some (.str ⟨(repl x.cps.toList k).toArray⟩) else none
  | .mul, .lst l, .int k => if 0 ≤ k ∧ k ≤ 1000 ∧ l.length ≤ 1000 then some (.lst (repl l k)) else none
  | .fdiv, .int i, .int j => if 0 < j ∧ j < 1073741824 then some (.int (i / j)) else none
  | .mod, .int i, .int j => if 0 < j then some (.int (i % j)) else none
  | .pow, .int i, .int j => if 0 ≤ j ∧ j ≤ 1000000 ∧ i.natAbs < 2 ^ 64 then some (.int (i ^ j.toNat)) else none
  | _, _, _ => none
/-- the place of an index -/
def plc (n : Nat) (i : Int) : Option Nat := if 0 ≤ i then (if i < n then some i.toNat else none) else if -(n : Int) ≤ i then some (i + n).toNat else none
def at_ {A : Type} (l : List A) (i : Int) : Option A := (plc l.length i).bind fun j => l[j]?
def ixD : D → D → Option D
  | .tup l, .int i => at_ l i
  | .lst l, .int i => at_ l i
  | .map kvs, .str x => kvs.lookup x
  | _, _ => none
def clip (n d : Nat) : Option Int → Nat
  | none => d
  | some v => if v < 0 then (v + (n : Int)).toNat else min v.toNat n
def cut {A : Type} (l : List A) (lo hi : Option Int) : List A := (l.drop (clip l.length 0 lo)).take (clip l.length l.length hi - clip l.length 0 lo)
def slD : D → Option Int → Option Int → Option D
  | .tup l, lo, hi => some (.tup (cut l lo hi))
  | .lst l, lo, hi => some (.lst (cut l lo hi))
  | .str x, lo, hi => if x.length ≤ line then some (.str ⟨(cut x.cps.toList lo hi).toArray⟩) else none
  | _, _, _ => none
def intsOf : List D → Option (List Int)
  | [] => some []
  | .int i :: r => (intsOf r).map (i :: ·)
  | _ :: _ => none
def blsOf : List D → Option (List Bool)
  | [] => some []
  | .bl i :: r => (blsOf r).map (i :: ·)
  | _ :: _ => none
def strsOf : List D → Option (List Str)
  | [] => some []
  | .str i :: r => (strsOf r).map (i :: ·)
  | _ :: _ => none
def maxI : List Int → Option Int
  | [] => none
  | [a] => some a
  | a :: b :: r => (maxI (b :: r)).map fun m => if m > a then m else a
def minI : List Int → Option Int
  | [] => none
  | [a] => some a
  | a :: b :: r => (minI (b :: r)).map fun m => if m < a then m else a
/-- the digits of a number, as Python writes it -/
def numS (i : Int) : Str := Str.ofString (toString i)
/-- a small number read -/
def readI (x : Str) : Option Int := [-9, -8, -7, -6, -5, -4, -3, -2, -1, 0, 1, 2, 3, 4, 5, 6, 7, 8, 9].find? fun i => decide (numS i = x)
def joinS (y : Str) : List Str → Str
  | [] => ⟨#[]⟩
  | [x] => x
  | x :: z :: r => x ++ (y ++ joinS y (z :: r))
/-- a text cut at each sign c -/
def cutAt (c : Nat) : List Nat → List Nat → List (List Nat)
  | acc, [] => [acc]
  | acc, x :: r => if x = c then acc :: cutAt c [] r else cutAt c (acc ++ [x]) r
def biD : Bi → List D → Option D
  | .len, [.tup l] => some (.int l.length)
  | .len, [.lst l] => some (.int l.length)
  | .len, [.str x] => if x.length ≤ line then some (.int x.length) else none
  | .abs, [.int i] => some (.int (if i < 0 then -i else i))
  | .int, [.int i] => some (.int i)
  | .int, [.bl b] => some (.int (if b then 1 else 0))
  | .int, [.str x] => (readI x).map .int
  | .str, [.int i] => if i.natAbs < 1000000 then some (.str (numS i)) else none
  | .str, [.str x] => some (.str x)
  | .tuple, [.lst l] => some (.tup l)
  | .tuple, [.tup l] => some (.tup l)
  | .list, [.lst l] => some (.lst l)
  | .list, [.tup l] => some (.lst l)
  | .sum, [.lst l] => (intsOf l).map fun ns => .int ns.sum
  | .sum, [.tup l] => (intsOf l).map fun ns => .int ns.sum
  | .any, [.lst l] => (blsOf l).map fun bs => .bl (bs.any id)
  | .all, [.lst l] => (blsOf l).map fun bs => .bl (bs.all id)
  | .max, [.lst l] => ((intsOf l).bind maxI).map .int
  | .min, [.lst l] => ((intsOf l).bind minI).map .int
  | _, _ => none
def isiD : Ty → D → Bool
  | .int, .int _ => true
  | .int, .bl _ => true
  | .bool, .bl _ => true
  | .str, .str _ => true
  | .tup, .tup _ => true
  | .lst, .lst _ => true
  | .lst, .scr _ => true
  | .dict, .map _ => true
  | .drv, .drv _ => true
  | _, _ => false
def idxS : List Str → Str → Option Nat
  | [], _ => none
  | x :: r, z => if x = z then some 0 else (idxS r z).map (· + 1)
def cixD (c x : D) : Option D := match c, x with
  | .tup l, .str z => (strsOf l).bind fun ys => (idxS ys z).map fun (k : Nat) => D.int (k : Int)
  | _, _ => none
def joinD (y a : D) : Option D := match y, a with
  | .str y, .lst l => (strsOf l).bind fun xs => if (xs.map Str.length).sum + xs.length * y.length ≤ 100000 then some (.str (joinS y xs)) else none
  | _, _ => none
def splitD (x y : D) : Option D := match x, y with
  | .str x, .str y => (match y.cps.toList with
    | [c] => if c < 128 ∧ x.length ≤ 100000 then some (.lst ((cutAt c [] x.cps.toList).map fun l => .str ⟨l.toArray⟩)) else none
    | _ => none)
  | _, _ => none
/-- the sum of a tuple of two numbers -/
def sumOf : D → Option Int
  | .tup l => (intsOf l).map List.sum
  | _ => none
def keyed : List D → Option (List (Int × D))
  | [] => some []
  | d :: r => (sumOf d).bind fun k => (keyed r).map ((k, d) :: ·)
/-- the stable order by keys -/
def insK (a : Int × D) : List (Int × D) → List (Int × D)
  | [] => [a]
  | b :: r => if a.1 ≤ b.1 then a :: b :: r else b :: insK a r
def sortK : List (Int × D) → List (Int × D)
  | [] => []
  | a :: r => insK a (sortK r)
theorem insK_mid (a : Int × D) : ∀ l1 l2 : List (Int × D), (∀ b ∈ l1, ¬ a.1 ≤ b.1) → (∀ b ∈ l2, a.1 ≤ b.1) → insK a (l1 ++ l2) = l1 ++ a :: l2
  | [], [], _, _ => rfl
  | [], b :: r, _, h => by
    show insK a (b :: r) = a :: b :: r
    unfold insK
    rw [if_pos (h b List.mem_cons_self)]
  | b :: l1, l2, h1, h2 => by
    show insK a (b :: (l1 ++ l2)) = b :: (l1 ++ a :: l2)
    unfold insK
    rw [if_neg (h1 b List.mem_cons_self), insK_mid a l1 l2 (fun x hx => h1 x (List.mem_cons_of_mem _ hx)) h2]
theorem sortK_eq : ∀ l : List (Int × D), sortK l = l.mergeSort fun a b => decide (a.1 ≤ b.1)
  | [] => by simp [sortK]
  | a :: r => by
    have tr : ∀ a b c : Int × D, decide (a.1 ≤ b.1) = true → decide (b.1 ≤ c.1) = true → decide (a.1 ≤ c.1) = true := by
      intro a b c h1 h2
      simp only [decide_eq_true_eq] at *
      omega
    have tt : ∀ a b : Int × D, (decide (a.1 ≤ b.1) || decide (b.1 ≤ a.1)) = true := by
      intro a b
      simp only [Bool.or_eq_true, decide_eq_true_eq]
      omega
    obtain ⟨l1, l2, h1, h2, h3⟩ := List.mergeSort_cons (le := fun a b : Int × D => decide (a.1 ≤ b.1)) tr tt a r
    have pw := List.pairwise_mergeSort (le := fun a b : Int × D => decide (a.1 ≤ b.1)) tr tt (a :: r)
    rw [h1] at pw
    have pw2 := (List.pairwise_cons.mp (List.pairwise_append.mp pw).2.1).1
    show insK a (sortK r) = _
    rw [sortK_eq r, h2, h1]
    refine insK_mid a l1 l2 (fun b hb => ?_) (fun b hb => by simpa using pw2 b hb)
    have := h3 b hb
    simpa using this
def srtD : D → Option D
  | .lst l => (keyed l).map fun ks => .lst ((sortK ks).map (·.2))
  | _ => none
/-- how many unlike ones -/
def uniq : List D → List D
  | [] => []
  | x :: r => x :: (uniq r).filter fun z => !eqD z x
def placeLike : D → Bool
  | .tup [.str _, .int _] => true
  | _ => false
def nsetD : D → Option D
  | .lst l => if l.all placeLike = true ∧ (uniq l).length < 64 then some (.int (uniq l).length) else none
  | _ => none
def putD (f : Str) (d : Fd) : List (Str × Fd) → List (Str × Fd)
  | [] => [(f, d)]
  | (g, x) :: t => if g = f then (g, d) :: t else (g, x) :: putD f d t
def partI : U → Option (Option Int)
  | .d (.int i) => some (some i)
  | _ => none
def rngL (lo hi : Int) : List D := (List.range (hi - lo).toNat).map fun (i : Nat) => .int (lo + i)
def small62 (i : Int) : Bool := decide (-(2 ^ 62) ≤ i) && decide (i < 2 ^ 62)
def enumL : Nat → List D → List D
  | _, [] => []
  | n, x :: r => .tup [.int (n : Int), x] :: enumL (n + 1) r
def zipL : List D → List D → List D
  | x :: r, y :: s => .tup [x, y] :: zipL r s
  | _, _ => []
/-- a value goes to its names -/
def setAll : List Nat → List U → Env → Option Env
  | [], [], e => some e
  | i :: is, u :: us, e => setAll is us (e.set i (some u))
  | _, _, _ => none
def bindTo (g : List Nat) (d : D) (e : Env) : Option Env := match g with
  | [i] => some (e.set i (some (.d d)))
  | is => (match d with
    | .tup l => setAll is (l.map U.d) e
    | _ => none)
def wipeE (e : Env) : List Nat → Env
  | [] => e
  | v :: vs => (wipeE e vs).set v none
def lst1 : List U → Option (List D)
  | [] => some []
  | .d d :: r => (lst1 r).map (d :: ·)
  | _ :: _ => none
/-- a walk over items that keeps what is made -/
def walk (f : D → Store → M (Option D)) : List D → List D → Store → M (List D)
  | acc, [], S => some (.ok acc S)
  | acc, d :: r, S => bnd (f d S) fun o S1 => walk f (match o with | some x => acc ++ [x] | none => acc) r S1
/-- a walk over items for what it changes -/
def walks (f : D → Store → M Unit) : List D → Store → M Unit
  | [], S => some (.ok () S)
  | d :: r, S => bnd (f d S) fun _ S1 => walks f r S1

/-- a built-in of values: a list that may still change is read -/
def biU (b : Bi) (us : List U) (S : Store) : Option D := match lst1 us with
  | some l => biD b l
  | none => (match b, us with
    | .len, [.loc n] => (match S[n]? with
      | some (.lst l) => some (.int l.length)
      | _ => none)
    | .tuple, [.loc n] => (match S[n]? with
      | some (.lst l) => some (.tup l)
      | _ => none)
    | _, _ => none)

structure Ev where
  fn : Nat → List U → Store → M U
  con : Nat → D
  nc : Nat
/-- a dict of truth values -/
def isBdc : U → Store → Bool
  | .loc n, S => (match S[n]? with
    | some (.bdc _) => true
    | _ => false)
  | _, _ => false
/-- a list that may change -/
def isLst (u : U) (S : Store) : Bool := match u with
  | .loc n => (match S[n]? with
    | some (.lst _) => true
    | _ => false)
  | _ => false
/-- an instance of the class c, that has no attribute m of its own -/
def insOk (c : Nat) (m : Str) (u : U) (S : Store) : Bool := match u with
  | .loc n => (match S[n]? with
    | some (.ins c' fs) => decide (c' = c) && (fs.lookup m).isNone
    | _ => false)
  | .d (.drv _) => decide (c = 0) && !decide (m = "told")
  | _ => false

/-- the names of an instance's own lists -/
def ownN : List (Str × Fd) → List Str
  | [] => []
  | (x, .own _) :: t => x :: ownN t
  | (_, .dat _) :: t => ownN t
/-- an instance whose field x is a list of its own -/
def ownB (nc : Nat) (x : Str) (u : U) (S : Store) : Bool := match u with
  | .loc n => (match S[n]? with
    | some (.ins c fs) => decide (c < nc) && (match fs.lookup x with
      | some (.own _) => true
      | _ => false)
    | _ => false)
  | _ => false
/-- the own lists still stand where they stood -/
def sameO (u : U) (S S' : Store) : Bool := match u with
  | .loc n => (match S[n]?, S'[n]? with
    | some (.ins _ fs), some (.ins _ fs') => decide (ownN fs = ownN fs')
    | _, _ => false)
  | _ => false
/-- the own list x of an instance -/
def ownL (x : Str) (u : U) (S : Store) : Option (List D) := match u with
  | .loc n => (match S[n]? with
    | some (.ins _ fs) => (match fs.lookup x with
      | some (.own l) => some l
      | _ => none)
    | _ => none)
  | _ => none
/-- .. written -/
def ownW (x : Str) (u : U) (S : Store) (l : List D) : Store := match u with
  | .loc n => (match S[n]? with
    | some (.ins c fs) => S.set n (.ins c (putD x (.own l) fs))
    | _ => S)
  | _ => S
/-- a drive or a tuple -/
def drvTup : D → Bool
  | .drv _ => true
  | .tup _ => true
  | _ => false
/-- a drive's own ==, of a drive or a tuple behind it -/
def eqO (fn : Nat → List U → Store → M U) (f : Nat) (u v : D) (S : Store) : M Bool := match u, drvTup v with
  | .drv t, true => (match noX (fn f [.d (.drv t), .d v] S) with
    | some (.ok (.d (.bl c)) S1) => some (.ok c S1)
    | _ => none)
  | _, _ => none

section
variable (G : Ev)
mutual
def evE : E → Env → Store → M U
  | .int i, _, S => some (.ok (.d (.int i)) S)
  | .str x, _, S => some (.ok (.d (.str x)) S)
  | .bl b, _, S => some (.ok (.d (.bl b)) S)
  | .non, _, S => some (.ok (.d .non) S)
  | .var i, e, S => (match e[i]? with
    | some (some u) => some (.ok u S)
    | _ => none)
  | .con k, _, S => some (.ok (.d (G.con k)) S)
  | .bop o a b, e, S => bnD (evE a e S) fun x S1 => bnD (evE b e S1) fun y S2 => giv (bopD o x y) S2
  | .neg a, e, S => bnD (evE a e S) fun x S1 => (match x with
    | .int i => some (.ok (.d (.int (-i))) S1)
    | _ => none)
  | .cmp o a b, e, S => bnD (evE a e S) fun x S1 => bnD (evE b e S1) fun y S2 => giv ((cmpD o x y).map .bl) S2
  | .chain o p a b c, e, S => bnD (evE a e S) fun x S1 => bnD (evE b e S1) fun y S2 => (match cmpD o x y with
    | some true => bnD (evE c e S2) fun z S3 => giv ((cmpD p y z).map .bl) S3
    | some false => some (.ok (.d (.bl false)) S2)
    | none => none)
  | .not a, e, S => bnD (evE a e S) fun x S1 => (match x with
    | .bl b => some (.ok (.d (.bl (!b))) S1)
    | _ => none)
  | .and a b, e, S => bnD (evE a e S) fun x S1 => (match x with
    | .bl true => evE b e S1
    | .bl false => some (.ok (.d (.bl false)) S1)
    | _ => none)
  | .or a b, e, S => bnD (evE a e S) fun x S1 => (match x with
    | .bl true => some (.ok (.d (.bl true)) S1)
    | .bl false => evE b e S1
    | _ => none)
  | .ite t a b, e, S => bnd (evT t e S) fun c S1 => if c then evE a e S1 else evE b e S1
  | .ix a i, e, S => bnd (evE a e S) fun u S1 => bnD (evE i e S1) fun y S2 => (match u with
    | .d x => giv (ixD x y) S2
    | .loc n => (match S2[n]?, y with
      | some (.lst l), .int i => giv (at_ l i) S2
      | _, _ => none)
    | .err _ => none)
  | .sl a lo hi, e, S => bnD (evE a e S) fun x S1 => bnd (evP lo e S1) fun l S2 => bnd (evP hi e S2) fun h S3 => giv (slD x l h) S3
  | .rev a, e, S => bnD (evE a e S) fun x S1 => (match x with
    | .tup l => some (.ok (.d (.tup l.reverse)) S1)
    | _ => none)
  | .tup es, e, S => bnd (evL es e S) fun us S1 => (match lst1 us with
    | some l => if l.length ≤ line then some (.ok (.d (.tup l)) S1) else none
    | none => none)
  | .lst es, e, S => bnd (evL es e S) fun us S1 => (match lst1 us with
    | some l => if l.length ≤ line then some (.ok (.d (.lst l)) S1) else none
    | none => none)
  | .cel es, e, S => bnd (evL es e S) fun us S1 => (match lst1 us with
    | some l => if l.length ≤ line then some (.ok (.loc S1.length) (S1 ++ [.lst l])) else none
    | none => none)
  | .catc a b, e, S => bnD (evE a e S) fun x S1 => bnD (evE b e S1) fun y S2 => (match x, y with
    | .lst l, .lst m => if l.length + m.length ≤ line then some (.ok (.loc S2.length) (S2 ++ [.lst (l ++ m)])) else none
    | _, _ => none)
  | .map ks es, e, S => bnd (evL es e S) fun us S1 => (match lst1 us with
    | some l => if l.length = ks.length ∧ ks.length ≤ 15 then some (.ok (.d (.map (ks.zip l))) S1) else none
    | none => none)
  | .call f es, e, S => bnd (evL es e S) fun us S1 => G.fn f us S1
  | .mkd f es, e, S => bnd (evL es e S) fun us S1 => (match G.fn f (.loc S1.length :: us) (S1 ++ [.ins 0 []]) with
    | some (.ok (.d .non) S2) => (match S2[S1.length]? with
      | some (.ins 0 [(x, .dat t)]) => if x = ("told" : Str) then some (.ok (.d (.drv t)) (S2.take S1.length)) else none
      | _ => none)
    | some (.ex x S2) => some (.ex x (S2.take S1.length))
    | _ => none)
  | .mkc c f es, e, S => bnd (evL es e S) fun us S1 => (match G.fn f (.loc S1.length :: us) (S1 ++ [.ins c []]) with
    | some (.ok (.d .non) S2) => some (.ok (.loc S1.length) S2)
    | some (.ex x S2) => some (.ex x (S2.take S1.length))
    | _ => none)
  | .meth c f m a es, e, S => bnd (evE a e S) fun u S1 => if insOk c m u S1 then bnd (evL es e S1) fun us S2 => G.fn f (u :: us) S2 else none
  | .prop f a, e, S => bnD (evE a e S) fun x S1 => (match x with
    | .drv t => noX (G.fn f [.d (.drv t)] S1)
    | _ => none)
  | .fld a x, e, S => bnd (evE a e S) fun u S1 => (match u with
    | .loc n => (match S1[n]? with
      | some (.ins c fs) => (match fs.lookup x with
        | some (.dat d) => if c < G.nc then some (.ok (.d d) S1) else none
        | _ => none)
      | _ => none)
    | .d (.drv t) => if x = ("told" : Str) ∧ 0 < G.nc then some (.ok (.d t) S1) else none
    | _ => none)
  | .leno c f a, e, S => bnd (evE a e S) fun u S1 => if insOk c "__len__" u S1 then (match noX (G.fn f [u] S1) with
    | some (.ok (.d (.int n)) S2) => if 0 ≤ n ∧ n < 2 ^ 63 then some (.ok (.d (.int n)) S2) else none
    | _ => none) else none
  | .eqo f a b, e, S => bnD (evE a e S) fun u S1 => bnD (evE b e S1) fun v S2 => (match eqO G.fn f u v S2 with
    | some (.ok c S3) => some (.ok (.d (.bl c)) S3)
    | _ => none)
  | .bi b es, e, S => bnd (evL es e S) fun us S1 => giv (biU b us S1) S1
  | .isi t a, e, S => bnD (evE a e S) fun x S1 => some (.ok (.d (.bl (isiD t x))) S1)
  | .cix k a, e, S => bnD (evE a e S) fun x S1 => giv (cixD (G.con k) x) S1
  | .app o a, e, S => bnd (evE o e S) fun u S1 => if isLst u S1 then bnD (evE a e S1) fun x S2 => (match u with
    | .loc n => (match S2[n]? with
      | some (.lst l) => if l.length < line then some (.ok (.d .non) (S2.set n (.lst (l ++ [x])))) else none
      | _ => none)
    | _ => none) else none
  | .popa o i, e, S => bnd (evE o e S) fun u S1 => if isLst u S1 then bnD (evE i e S1) fun y S2 => (match u, y with
    | .loc n, .int i => (match S2[n]? with
      | some (.lst l) => (match plc l.length i with
        | some j => (match l[j]? with
          | some z => if small62 i then some (.ok (.d z) (S2.set n (.lst (l.eraseIdx j)))) else none
          | none => none)
        | none => none)
      | _ => none)
    | _, _ => none) else none
  | .join y a, e, S => bnD (evE y e S) fun x S1 => if isiD .str x then bnD (evE a e S1) fun z S2 => giv (joinD x z) S2 else none
  | .split y a, e, S => bnD (evE y e S) fun x S1 => if isiD .str x then bnD (evE a e S1) fun z S2 => giv (splitD x z) S2 else none
  | .srt a, e, S => bnD (evE a e S) fun x S1 => giv (srtD x) S1
  | .nset a, e, S => bnD (evE a e S) fun x S1 => giv (nsetD x) S1
  | .fapp a x v, e, S => bnd (evE a e S) fun u S1 => if ownB G.nc x u S1 then bnD (evE v e S1) fun d S2 => if sameO u S1 S2 then (match ownL x u S2 with
      | some l => if l.length < line then some (.ok (.d .non) (ownW x u S2 (l ++ [d]))) else none
      | none => none) else none else none
  | .fpop a x, e, S => bnd (evE a e S) fun u S1 => if ownB G.nc x u S1 then (match ownL x u S1 with
      | some l => (match l[l.length - 1]? with
        | some y => some (.ok (.d y) (ownW x u S1 l.dropLast))
        | none => none)
      | none => none) else none
  | .fix a x i, e, S => bnd (evE a e S) fun u S1 => if ownB G.nc x u S1 then bnD (evE i e S1) fun y S2 => if sameO u S1 S2 then (match ownL x u S2, y with
      | some l, .int j => giv (at_ l j) S2
      | _, _ => none) else none else none
  | .flen a x, e, S => bnd (evE a e S) fun u S1 => if ownB G.nc x u S1 then (match ownL x u S1 with
      | some l => some (.ok (.d (.int l.length)) S1)
      | none => none) else none
  | .ftup a x, e, S => bnd (evE a e S) fun u S1 => if ownB G.nc x u S1 then (match ownL x u S1 with
      | some l => some (.ok (.d (.tup l)) S1)
      | none => none) else none
  | .feq0 a x, e, S => bnd (evE a e S) fun u S1 => if ownB G.nc x u S1 then (match ownL x u S1 with
      | some l => if okDs 49 l then some (.ok (.d (.bl l.isEmpty)) S1) else none
      | none => none) else none
  | .bdn, _, S => some (.ok (.loc S.length) (S ++ [.bdc []]))
  | .sdef a k v, e, S => bnd (evE a e S) fun u S1 => if isBdc u S1 then bnD (evE k e S1) fun y S2 => bnD (evE v e S2) fun d S3 => (match u, y with
    | .loc n, .bl b => (match S3[n]? with
      | some (.bdc kvs) => (match kvs.lookup b with
        | some z => some (.ok (.d z) S3)
        | none => some (.ok (.d d) (S3.set n (.bdc (kvs ++ [(b, d)])))))
      | _ => none)
    | _, _ => none)
    else none
  | .bget a k, e, S => bnd (evE a e S) fun u S1 => if isBdc u S1 then bnD (evE k e S1) fun y S2 => (match u, y with
    | .loc n, .bl b => (match S2[n]? with
      | some (.bdc kvs) => some (.ok (.d ((kvs.lookup b).getD .non)) S2)
      | _ => none)
    | _, _ => none)
    else none
  | .rng1 _, _, _ => none
  | .rng2 _ _, _, _ => none
  | .enum _, _, _ => none
  | .zip _ _, _, _ => none
  | .lc vs it g t el, e, S => bnd (evI it e S) fun l S1 => if l.length ≤ line then
      bnd (walk (fun d S2 => noX (match bindTo g d (wipeE e vs) with
        | none => none
        | some e1 => bnd (evT t e1 S2) fun c S3 => if c then bnD (evE el e1 S3) fun x S4 => some (.ok (some x) S4) else some (.ok none S3))) [] l S1) fun r S5 => some (.ok (.d (.lst r)) S5)
      else none
  | .lc2 vs it g t vs1 it1 g1 t1 el, e, S => bnd (evI it e S) fun l S1 =>
      bnd (walks (fun d S2 => noX (match bindTo g d (wipeE e vs) with
        | none => none
        | some e1 => bnd (evT t e1 S2) fun c S3 => if c then bnd (evI it1 e1 S3) fun l1 S4 =>
            walks (fun d1 S5 => noX (match bindTo g1 d1 (wipeE e1 vs1) with
              | none => none
              | some e2 => bnd (evT t1 e2 S5) fun c1 S6 => if c1 then bnD (evE el e2 S6) fun x S7 => (match S7[S1.length]? with
                  | some (.lst acc) => if acc.length < line then some (.ok () (S7.set S1.length (.lst (acc ++ [x])))) else none
                  | _ => none) else some (.ok () S6))) l1 S4
          else some (.ok () S3))) l (S1 ++ [.lst []])) fun _ S8 => (match S8[S1.length]? with
        | some (.lst r) => some (.ok (.d (.lst r)) (S8.take S1.length))
        | _ => none)
  | .xis k a, e, S => bnd (evE a e S) fun u S1 => (match u with
    | .err x => if x.c < 8 then some (.ok (.d (.bl (decide (x.c = k)))) S1) else none
    | _ => none)
  | .xiv a, e, S => bnd (evE a e S) fun u S1 => (match u with
    | .err x => if x.c < 8 then some (.ok (.d (.bl true)) S1) else none
    | _ => none)
  | .xfl a f, e, S => bnd (evE a e S) fun u S1 => (match u with
    | .err x => if x.c < 8 then giv (x.fs.lookup f) S1 else none
    | _ => none)
  | .yes, _, _ => none
  | .nil, _, _ => none
  | .cons _ _, _, _ => none
  | .star _ _, _, _ => none
/-- a test -/
def evT : E → Env → Store → M Bool
  | .yes, _, S => some (.ok true S)
  | .not a, e, S => bnd (evT a e S) fun c S1 => some (.ok (!c) S1)
  | .and a b, e, S => bnd (evT a e S) fun c S1 => if c then evT b e S1 else some (.ok false S1)
  | .or a b, e, S => bnd (evT a e S) fun c S1 => if c then some (.ok true S1) else evT b e S1
  | .ite t a b, e, S => bnd (evT t e S) fun c S1 => if c then evT a e S1 else evT b e S1
  | .cmp o a b, e, S => bnD (evE a e S) fun x S1 => bnD (evE b e S1) fun y S2 => (match cmpD o x y with
    | some c => some (.ok c S2)
    | none => none)
  | .call f es, e, S => bnd (evL es e S) fun us S1 => bnD (G.fn f us S1) fun d S2 => (match d with
    | .bl c => some (.ok c S2)
    | _ => none)
  | .isi t a, e, S => bnD (evE a e S) fun x S1 => some (.ok (isiD t x) S1)
  | .bi b es, e, S => bnd (evL es e S) fun us S1 => (match biU b us S1 with
    | some (.bl c) => some (.ok c S1)
    | _ => none)
  | .eqo f a b, e, S => bnD (evE a e S) fun u S1 => bnD (evE b e S1) fun v S2 => (match eqO G.fn f u v S2 with
    | some (.ok c S3) => some (.ok c S3)
    | _ => none)
  | .meth c f m a es, e, S => bnd (evE a e S) fun u S1 => if insOk c m u S1 then bnd (evL es e S1) fun us S2 => bnD (G.fn f (u :: us) S2) fun d S3 => (match d with
    | .bl b => some (.ok b S3)
    | _ => none) else none
  | .var i, e, S => (match e[i]? with
    | some (some (.d (.bl c))) => some (.ok c S)
    | _ => none)
  | .feq0 a x, e, S => bnd (evE a e S) fun u S1 => if ownB G.nc x u S1 then (match ownL x u S1 with
      | some l => if okDs 49 l then some (.ok l.isEmpty S1) else none
      | none => none) else none
  | _, _, _ => none
/-- items, from the left -/
def evL : E → Env → Store → M (List U)
  | .nil, _, S => some (.ok [] S)
  | .cons a r, e, S => bnd (evE a e S) fun u S1 => bnd (evL r e S1) fun us S2 => some (.ok (u :: us) S2)
  | .star a r, e, S => bnD (evE a e S) fun x S1 => (match seqOf x with
    | some l => bnd (evL r e S1) fun us S2 => some (.ok (l.map U.d ++ us) S2)
    | none => none)
  | _, _, _ => none
/-- a part of a slice -/
def evP : E → Env → Store → M (Option Int)
  | .nil, _, S => some (.ok none S)
  | .cons a _, e, S => bnD (evE a e S) fun x S1 => (match x with
    | .int i => some (.ok (some i) S1)
    | _ => none)
  | _, _, _ => none
/-- what is walked -/
def evI : E → Env → Store → M (List D)
  | .rng1 a, e, S => bnD (evE a e S) fun x S1 => (match x with
    | .int j => if small62 j then some (.ok (rngL 0 j) S1) else none
    | _ => none)
  | .rng2 a b, e, S => bnD (evE a e S) fun x S1 => bnD (evE b e S1) fun y S2 => (match x, y with
    | .int i, .int j => if small62 i && small62 j then some (.ok (rngL i j) S2) else none
    | _, _ => none)
  | .enum a, e, S => bnD (evE a e S) fun x S1 => (match seqOf x with
    | some l => some (.ok (enumL 0 l) S1)
    | none => none)
  | .zip a b, e, S => bnD (evE a e S) fun x S1 => bnD (evE b e S1) fun y S2 => (match seqOf x, seqOf y with
    | some l, some m => some (.ok (zipL l m) S2)
    | _, _ => none)
  | .cons a .nil, e, S => bnD (evE a e S) fun x S1 => (match seqOf x with
    | some l => some (.ok l S1)
    | none => none)
  | _, _, _ => none
end
end

/-! ### statements -/
/-- what is made of a caught exception -/
inductive EX where
  | str (x : Str) | fld (f : Str) | pair (a b : EX)
def evX (fs : List (Str × D)) : EX → Option D
  | .str x => some (.str x)
  | .fld f => fs.lookup f
  | .pair a b => (match evX fs a, evX fs b with
    | some x, some y => some (.tup [x, y])
    | _, _ => none)
inductive Stm where
  | nop
  | seq (a b : Stm)
  | asg (g : List Nat) (e : E)
  | par (g : List Nat) (es : E)
  | aug (i : Nat) (o : Bop) (e : E)
  | seti (o i e : E)
  | augi (o i : E) (b : Bop) (e : E)
  | setf (o : E) (x : Str) (e : E)
  | seto (o : E) (x : Str) (es : E)
  | augf (o : E) (x : Str) (b : Bop) (e : E)
  | ex (e : E)
  | ret (e : E) | retN
  | ite (t : E) (a b : Stm)
  | loop (it : E) (g : List Nat) (b : Stm)
  | whil (n : Nat) (t : E) (b : Stm)
  | rais (c : Nat) (xs : List Str) (es : E)
  | tri (b : Stm) (h : Stm)
  | hand (c : Nat) (b : Stm) (r : Stm)
  | handX (c j t : Nat) (x : EX) (r : Stm)
  | handE (j : Nat) (b : Stm)
  | frz (i : Nat)
  | stop

/-- what comes of a statement -/
inductive RS where
  | nx (e : Env) (S : Store)
  | rt (u : U) (S : Store)
  | ex (x : Xn) (e : Env) (S : Store)
abbrev MS := Option RS
/-- no exception wanted -/
def noXS (m : MS) : MS := match m with
  | some (.ex _ _ _) => none
  | r => r
@[simp] theorem noXS_nx (e : Env) (S : Store) : noXS (some (.nx e S)) = some (.nx e S) := rfl
@[simp] theorem noXS_rt (u : U) (S : Store) : noXS (some (.rt u S)) = some (.rt u S) := rfl
def bndS (m : MS) (k : Env → Store → MS) : MS := match m with
  | some (.nx e S) => k e S
  | r => r
@[simp] theorem bndS_nx (e : Env) (S : Store) (k : Env → Store → MS) : bndS (some (.nx e S)) k = k e S := rfl
@[simp] theorem bndS_rt (u : U) (S : Store) (k : Env → Store → MS) : bndS (some (.rt u S)) k = some (.rt u S) := rfl
@[simp] theorem bndS_ex (x : Xn) (e : Env) (S : Store) (k : Env → Store → MS) : bndS (some (.ex x e S)) k = some (.ex x e S) := rfl
@[simp] theorem bndS_none (k : Env → Store → MS) : bndS none k = none := rfl
/-- an expression within a statement -/
def inS {A : Type} (m : M A) (e : Env) (k : A → Store → MS) : MS := match m with
  | none => none
  | some (.ex x S) => some (.ex x e S)
  | some (.ok a S) => k a S
@[simp] theorem inS_none {A : Type} (e : Env) (k : A → Store → MS) : inS none e k = none := rfl
@[simp] theorem inS_ok {A : Type} (a : A) (S : Store) (e : Env) (k : A → Store → MS) : inS (some (.ok a S)) e k = k a S := rfl
@[simp] theorem inS_ex {A : Type} (x : Xn) (S : Store) (e : Env) (k : A → Store → MS) : inS (some (.ex x S)) e k = some (.ex x e S) := rfl
def loopS (g : List Nat) (f : Env → Store → MS) : List D → Env → Store → MS
  | [], e, S => some (.nx e S)
  | d :: r, e, S => (match bindTo g d e with
    | none => none
    | some e1 => bndS (f e1 S) (loopS g f r))
def whilS (t : Env → Store → M Bool) (f : Env → Store → MS) : Nat → Env → Store → MS
  | 0, _, _ => none
  | n + 1, e, S => inS (t e S) e fun c S1 => if c then bndS (f e S1) (whilS t f n) else some (.nx e S1)
/-- a value goes to its names -/
def bindU (g : List Nat) (u : U) (e : Env) : Option Env := match g with
  | [i] => some (e.set i (some u))
  | is => (match u with
    | .d (.tup l) => setAll is (l.map U.d) e
    | _ => none)

/-- the error is let go of -/
def unerr : Env → Env
  | [] => []
  | some (.err _) :: r => none :: unerr r
  | u :: r => u :: unerr r
section
variable (G : Ev)
mutual
def evS : Stm → Env → Store → MS
  | .nop, e, S => some (.nx e S)
  | .seq a b, e, S => bndS (evS a e S) fun e1 S1 => evS b e1 S1
  | .asg g a, e, S => inS (evE G a e S) e fun u S1 => (match bindU g u e with
    | some e1 => some (.nx e1 S1)
    | none => none)
  | .par g es, e, S => inS (evL G es e S) e fun us S1 => (match setAll g us e with
    | some e1 => some (.nx e1 S1)
    | none => none)
  | .aug i o a, e, S => (match e[i]? with
    | some (some (.d (.int x))) => inS (evE G a e S) e fun u S1 => (match o, u with
      | .add, .d (.int y) => some (.nx (e.set i (some (.d (.int (x + y))))) S1)
      | .sub, .d (.int y) => some (.nx (e.set i (some (.d (.int (x - y))))) S1)
      | _, _ => none)
    | _ => none)
  | .seti o i a, e, S => inS (evE G a e S) e fun v S1 => inS (evE G o e S1) e fun u S2 => inS (evE G i e S2) e fun y S3 => (match u, y, v with
    | .loc n, .d (.int k), .d d => (match S3[n]? with
      | some (.lst l) => (match plc l.length k with
        | some j => some (.nx e (S3.set n (.lst (l.set j d))))
        | none => none)
      | _ => none)
    | _, _, _ => none)
  | .augi o i b a, e, S => inS (evE G o e S) e fun u S1 => inS (evE G i e S1) e fun y S2 => (match u, y with
    | .loc n, .d (.int k) => (match S2[n]? with
      | some (.lst l) => (match at_ l k with
        | some (.int x) => inS (evE G a e S2) e fun v S3 => (match b, v, S3[n]? with
          | .add, .d (.int z), some (.lst l3) => (match plc l3.length k with
            | some j => some (.nx e (S3.set n (.lst (l3.set j (.int (x + z))))))
            | none => none)
          | .sub, .d (.int z), some (.lst l3) => (match plc l3.length k with
            | some j => some (.nx e (S3.set n (.lst (l3.set j (.int (x - z))))))
            | none => none)
          | _, _, _ => none)
        | _ => none)
      | _ => none)
    | _, _ => none)
  | .setf o x a, e, S => inS (evE G a e S) e fun v S1 => inS (evE G o e S1) e fun u S2 => (match u, v with
    | .loc n, .d d => (match S2[n]? with
      | some (.ins c fs) => if c < G.nc ∧ fs.length < 100 then (match fs.lookup x with
        | some (.own _) => none
        | _ => some (.nx e (S2.set n (.ins c (putD x (.dat d) fs))))) else none
      | _ => none)
    | _, _ => none)
  | .seto o x es, e, S => inS (evL G es e S) e fun us S1 => (match lst1 us with
    | some l => if l.length ≤ line then inS (evE G o e (S1 ++ [.lst l])) e fun u S2 => (match u with
      | .loc n => (match S2[n]?, S2[S1.length]? with
        | some (.ins c fs), some (.lst l2) => if c < G.nc ∧ fs.length < 100 then (match fs.lookup x with
          | none => some (.nx e ((S2.set S1.length .dead).set n (.ins c (putD x (.own l2) fs))))
          | _ => none) else none
        | _, _ => none)
      | _ => none) else none
    | none => none)
  | .augf o x b a, e, S => inS (evE G o e S) e fun u S1 => (match u with
    | .loc n => (match S1[n]? with
      | some (.ins c fs) => if c < G.nc then (match fs.lookup x with
        | some (.dat (.int y)) => inS (evE G a e S1) e fun v S2 => (match b, v, S2[n]? with
          | .add, .d (.int z), some (.ins c2 fs2) => if c2 = c ∧ fs2.length < 100 then (match fs2.lookup x with
              | some (.dat _) => some (.nx e (S2.set n (.ins c (putD x (.dat (.int (y + z))) fs2))))
              | _ => none) else none
          | _, _, _ => none)
        | _ => none) else none
      | _ => none)
    | _ => none)
  | .ex a, e, S => inS (evE G a e S) e fun _ S1 => some (.nx e S1)
  | .ret a, e, S => inS (evE G a e S) e fun u S1 => some (.rt u S1)
  | .retN, _, S => some (.rt (.d .non) S)
  | .ite t a b, e, S => inS (evT G t e S) e fun c S1 => if c then evS a e S1 else evS b e S1
  | .loop it g b, e, S => inS (evI G it e S) e fun l S1 => loopS g (evS b) l e S1
  | .whil n t b, e, S => whilS (evT G t) (evS b) n e S
  | .rais c xs es, e, S => inS (evL G es e S) e fun us S1 => (match lst1 us with
    | some l => if l.length = xs.length then some (.ex ⟨c, xs.zip l⟩ e S1) else none
    | none => none)
  | .tri b h, e, S => (match evS b e S with
    | some (.ex x e1 S1) => if x.c < 8 then evH h x e1 S1 else none
    | r => r)
  | .frz i, e, S => (match e[i]? with
    | some (some (.loc n)) => (match S[n]? with
      | some (.lst l) => some (.nx (e.set i (some (.d (.lst l)))) (S.set n .dead))
      | _ => none)
    | _ => none)
  | .hand _ _ _, _, _ => none
  | .handX _ _ _ _ _, _, _ => none
  | .handE _ _, _, _ => none
  | .stop, _, _ => none
/-- what becomes of an exception: the first clause of its class takes it -/
def evH : Stm → Xn → Env → Store → MS
  | .hand c b r, x, e, S => if x.c = c then noXS (evS b e S) else evH r x e S
  | .handX c j t z r, x, e, S => if x.c = c then (if j < e.length then (match evX x.fs z with
    | some d => some (.nx ((e.set t (some (.d d))).set j none) S)
    | none => none) else none) else evH r x e S
  | .handE j b, x, e, S => if j < e.length then (match evS b (e.set j (some (.err x))) S with
    | some (.nx e1 S1) => some (.nx (unerr (e1.set j none)) S1)
    | _ => none) else none
  | .nop, x, e, S => some (.ex x e S)
  | _, _, _, _ => none
end
end

/-! ### defs -/
/-- a def's parameters, its names, its body -/
structure Df where
  np : Nat
  nn : Nat
  body : Stm
def start0 (d : Df) (us : List U) : Env := us.map some ++ List.replicate (d.nn - us.length) none
/-- behind a def's end: the cells that it made are dropped, but for one that it hands back -/
def fin (k : Nat) : MS → M U
  | some (.nx _ S) => some (.ok (.d .non) (S.take k))
  | some (.rt (.d d) S) => some (.ok (.d d) (S.take k))
  | some (.rt (.loc n) S) => if n < k then some (.ok (.loc n) (S.take k)) else some (.ok (.loc n) S)
  | some (.rt (.err _) _) => none
  | some (.ex x _ S) => some (.ex x (S.take k))
  | none => none
/-- the defs by their numbers, n calls deep -/
def run (df : Nat → Option Df) (con : Nat → D) (nc : Nat) : Nat → Nat → List U → Store → M U
  | 0, _, _, _ => none
  | n + 1, f, us, S => match df f with
    | some d => if us.length = d.np then fin S.length (evS ⟨run df con nc n, con, nc⟩ d.body (start0 d us) S) else none
    | none => none
end DL

/-! Data as trees, cells for what changes; how they stand in the abstract heap. -/
namespace DL
open PySem PySem.Spec PyProof.Rows L2

abbrev Pl := List (List Addr)

/-- where the text stands -/
structure Gx where
  K : PySem.W.Frag
  w : World
  cd : Nat → Addr
  xc : Nat → Addr
  dr : Bool
  er : Option (Addr × Obj)
/-- .. where the error p is handled -/
abbrev Gx.hot (G : Gx) (p : Addr × Obj) : Gx := ⟨G.K, G.w, G.cd, G.xc, G.dr, some p⟩
/-- a dict of the module: text keys, whole numbers -/
def KMap (G : Gx) (a : Addr) (kvs : List (Str × D)) : Prop := ∃ es n, KDict G.K G.w a es n ∧ ∀ z : Str, match kvs.lookup z with
  | some (.int i) => ∃ t, PySem.W.nsIn G.K a z = some (some (.int i t))
  | some _ => False
  | none => PySem.W.nsIn G.K a z = some none

section
variable (G : Gx) (F : Hp)
mutual
inductive Is : V → D → Prop
  | non : Is .non .non
  | bl (b : Bool) : Is (.bl b) (.bl b)
  | int (i : Int) : Is (.int i) (.int i)
  | str (x : Str) : Is (.str x) (.str x)
  | tup {a : Addr} {xs : List V} {ds : List D} : SqT G.K F a xs → IsL xs ds → Is (.ref a) (.tup ds)
  | lst {a : Addr} {xs : List V} {ds : List D} : F a = some (.lst xs) → IsL xs ds → Is (.ref a) (.lst ds)
  | scr {a : Addr} {xs : List V} {ds : List D} : SqL G.K F a xs → IsL xs ds → Is (.ref a) (.scr ds)
  | map {a : Addr} {ps : List (Key × V)} {kvs : List (Str × D)} : F a = some (.dK ps) → IsM ps kvs → Is (.ref a) (.map kvs)
  | kmp {a : Addr} {kvs : List (Str × D)} : KMap G a kvs → Is (.ref a) (.map kvs)
  | drv {a dx : Addr} {v : V} {d : D} : G.dr = true → F a = some (.ins (G.cd 0) dx [("told", v)]) → Is v d → Is (.ref a) (.drv d)
inductive IsL : List V → List D → Prop
  | nil : IsL [] []
  | cons {v : V} {vs : List V} {d : D} {ds : List D} : Is v d → IsL vs ds → IsL (v :: vs) (d :: ds)
inductive IsM : List (Key × V) → List (Str × D) → Prop
  | nil : IsM [] []
  | cons {x : Str} {v : V} {vs : List (Key × V)} {d : D} {ds : List (Str × D)} : Is v d → IsM vs ds → IsM ((.inr x, v) :: vs) ((x, d) :: ds)
end
/-- the fields of an exception -/
inductive IsX : List (Str × V) → List (Str × D) → Prop
  | nil : IsX [] []
  | cons {x : Str} {v : V} {vs : List (Str × V)} {d : D} {ds : List (Str × D)} : Is G F v d → IsX vs ds → IsX ((x, v) :: vs) ((x, d) :: ds)
def XnIs (c : Value) (d : Option Addr) (x : Xn) : Prop :=
  c = .ref (G.xc x.c) ∧ ((x.fs = [] ∧ d = none) ∨ ∃ dd vs, d = some dd ∧ F dd = some (.xd vs) ∧ IsX G F vs x.fs)
/-- a value of any kind -/
inductive IsU (r : Pl) : V → U → Prop
  | d {v : V} {d : D} : Is G F v d → IsU r v (.d d)
  | loc {n : Nat} {a : Addr} {t : List Addr} : r[n]? = some (a :: t) → IsU r (.ref a) (.loc n)
  | err {a : Addr} {o : Obj} {x : Xn} : G.er = some (a, o) → XnIs G F o.cls o.dict x → (∃ vs, o.data = .fields vs) → IsU r (.ref a) (.err x)
end

/-- more is known, more cells -/
structure Ext (F F' : Hp) (r r' : Pl) : Prop where
  sub : Same F F'
  pre : ∀ (n : Nat) (a : Addr) (t : List Addr), r[n]? = some (a :: t) → ∃ t', r'[n]? = some (a :: (t ++ t'))
theorem Ext.refl {F : Hp} {r : Pl} : Ext F F r r := ⟨Same.refl F, fun _ _ t h => ⟨[], by rw [List.append_nil]; exact h⟩⟩
theorem Ext.trans {F F1 F2 : Hp} {r r1 r2 : Pl} (a : Ext F F1 r r1) (b : Ext F1 F2 r1 r2) : Ext F F2 r r2 := ⟨a.sub.trans b.sub, fun n x t h => by
  obtain ⟨t1, h1⟩ := a.pre n x t h
  obtain ⟨t2, h2⟩ := b.pre n x (t ++ t1) h1
  exact ⟨t1 ++ t2, by rw [← List.append_assoc]; exact h2⟩⟩
theorem Ext.cells {F F' : Hp} {r : Pl} (h : Same F F') : Ext F F' r r := ⟨h, fun _ _ t h => ⟨[], by rw [List.append_nil]; exact h⟩⟩
theorem same_upd {F : Hp} {p : Addr} {o : HO} (h : F p = none) : Same F (upd F p o) := fun b u q => by
  rw [upd_ne (ne_of_none q h)]; exact q
theorem same_sqT {K : PySem.W.Frag} {H H' : Hp} {a : Addr} {xs : List V} (e : Same H H') (h : SqT K H a xs) : SqT K H' a xs := by
  rcases h with (h | ⟨o, h⟩) | h
  · exact .inl (.inl (e _ _ h))
  · exact .inl (.inr ⟨o, e _ _ h⟩)
  · exact .inr h

section
variable {G : Gx} {F F' : Hp}
mutual
theorem Is.mono (e : Same F F') : ∀ {v : V} {d : D}, Is G F v d → Is G F' v d
  | _, _, .non => .non
  | _, _, .bl b => .bl b
  | _, _, .int i => .int i
  | _, _, .str x => .str x
  | _, _, .tup h t => .tup (same_sqT e h) (IsL.mono e t)
  | _, _, .lst h t => .lst (e _ _ h) (IsL.mono e t)
  | _, _, .scr h t => .scr (e.seq h) (IsL.mono e t)
  | _, _, .map h t => .map (e _ _ h) (IsM.mono e t)
  | _, _, .kmp h => .kmp h
  | _, _, .drv g h t => .drv g (e _ _ h) (Is.mono e t)
theorem IsL.mono (e : Same F F') : ∀ {vs : List V} {ds : List D}, IsL G F vs ds → IsL G F' vs ds
  | _, _, .nil => .nil
  | _, _, .cons h t => .cons (Is.mono e h) (IsL.mono e t)
theorem IsM.mono (e : Same F F') : ∀ {vs : List (Key × V)} {ds : List (Str × D)}, IsM G F vs ds → IsM G F' vs ds
  | _, _, .nil => .nil
  | _, _, .cons h t => .cons (Is.mono e h) (IsM.mono e t)
end
theorem IsX.mono (e : Same F F') : ∀ {vs : List (Str × V)} {fs : List (Str × D)}, IsX G F vs fs → IsX G F' vs fs
  | _, _, .nil => .nil
  | _, _, .cons h t => .cons (h.mono e) (IsX.mono e t)
theorem XnIs.mono (e : Same F F') {c : Value} {d : Option Addr} {x : Xn} (h : XnIs G F c d x) : XnIs G F' c d x := by
  obtain ⟨h1, h2⟩ := h
  refine ⟨h1, h2.imp id fun ⟨dd, vs, e1, e2, e3⟩ => ⟨dd, vs, e1, e _ _ e2, e3.mono e⟩⟩
theorem IsU.mono {r r' : Pl} (e : Ext F F' r r') {v : V} {u : U} (h : IsU G F r v u) : IsU G F' r' v u := by
  cases h with
  | d h => exact .d (h.mono e.sub)
  | loc h => obtain ⟨t, h⟩ := e.pre _ _ _ h; exact .loc h
  | err h1 h2 h3 => exact .err h1 (h2.mono e.sub) h3
theorem IsL.length : ∀ {vs : List V} {ds : List D}, IsL G F vs ds → vs.length = ds.length
  | _, _, .nil => rfl
  | _, _, .cons _ t => congrArg (· + 1) (IsL.length t)
theorem IsL.get : ∀ {vs : List V} {ds : List D} {i : Nat} {d : D}, IsL G F vs ds → ds[i]? = some d → ∃ v, vs[i]? = some v ∧ Is G F v d
  | _, _, _, _, .nil, e => by simp at e
  | _, _, 0, _, .cons h _, e => by simp at e; subst e; exact ⟨_, rfl, h⟩
  | _, _, i + 1, d, .cons _ t, e => by
    obtain ⟨v, h1, h2⟩ := IsL.get (i := i) (d := d) t (by simpa using e)
    exact ⟨v, by simpa using h1, h2⟩
theorem IsL.got : ∀ {vs : List V} {ds : List D} {i : Nat} {v : V}, IsL G F vs ds → vs[i]? = some v → ∃ d, ds[i]? = some d ∧ Is G F v d
  | _, _, _, _, .nil, e => by simp at e
  | _, _, 0, _, .cons h _, e => by simp at e; subst e; exact ⟨_, rfl, h⟩
  | _, _, i + 1, d, .cons _ t, e => by
    obtain ⟨v, h1, h2⟩ := IsL.got (i := i) t (by simpa using e)
    exact ⟨v, by simpa using h1, h2⟩
theorem IsL.app : ∀ {vs ws : List V} {ds es : List D}, IsL G F vs ds → IsL G F ws es → IsL G F (vs ++ ws) (ds ++ es)
  | _, _, _, _, .nil, h => h
  | _, _, _, _, .cons h t, h' => .cons h (IsL.app t h')
theorem IsL.take : ∀ {vs : List V} {ds : List D} (n : Nat), IsL G F vs ds → IsL G F (vs.take n) (ds.take n)
  | _, _, 0, _ => .nil
  | _, _, _ + 1, .nil => .nil
  | _, _, n + 1, .cons h t => .cons h (IsL.take n t)
theorem IsL.drop : ∀ {vs : List V} {ds : List D} (n : Nat), IsL G F vs ds → IsL G F (vs.drop n) (ds.drop n)
  | _, _, 0, h => h
  | _, _, _ + 1, .nil => .nil
  | _, _, n + 1, .cons h t => IsL.drop n t
theorem IsL.set {v : V} {d : D} (h : Is G F v d) : ∀ {vs : List V} {ds : List D} (n : Nat), IsL G F vs ds → IsL G F (vs.set n v) (ds.set n d)
  | _, _, _, .nil => .nil
  | _, _, 0, .cons _ t => .cons h t
  | _, _, n + 1, .cons q t => .cons q (IsL.set h n t)
theorem IsL.eraseIdx : ∀ {vs : List V} {ds : List D} (n : Nat), IsL G F vs ds → IsL G F (vs.eraseIdx n) (ds.eraseIdx n)
  | _, _, _, .nil => .nil
  | _, _, 0, .cons _ t => t
  | _, _, n + 1, .cons q t => .cons q (IsL.eraseIdx n t)
theorem IsL.reverse : ∀ {vs : List V} {ds : List D}, IsL G F vs ds → IsL G F vs.reverse ds.reverse
  | _, _, .nil => .nil
  | _, _, .cons h t => by rw [List.reverse_cons, List.reverse_cons]; exact IsL.app (IsL.reverse t) (.cons h .nil)
theorem IsL.dropLast {vs : List V} {ds : List D} (h : IsL G F vs ds) : IsL G F vs.dropLast ds.dropLast := by
  rw [List.dropLast_eq_take, List.dropLast_eq_take, h.length]
  exact h.take _
theorem IsL.flat {vs : List V} {ds : List D} (h : IsL G F vs ds) : ∀ k : Nat, IsL G F (List.replicate k vs).flatten (List.replicate k ds).flatten
  | 0 => .nil
  | k + 1 => by rw [List.replicate_succ, List.replicate_succ, List.flatten_cons, List.flatten_cons]; exact IsL.app h (IsL.flat h k)
theorem IsM.look {x : Str} : ∀ {vs : List (Key × V)} {ds : List (Str × D)}, IsM G F vs ds → (∃ v d, valV vs (.inr x) = some v ∧ ds.lookup x = some d ∧ Is G F v d) ∨ (valV vs (.inr x) = none ∧ ds.lookup x = none)
  | _, _, .nil => .inr ⟨rfl, rfl⟩
  | _, _, .cons (x := y) (v := v) (d := d) h t => by
    rw [List.lookup_cons]
    by_cases q : y = x
    · subst q
      refine .inl ⟨v, d, valV_pos rfl, ?_, h⟩
      rw [beq_self_eq_true]
    · have q' : (x == y) = false := by simpa using Ne.symm q
      rw [q', valV_neg (by intro z; exact q (Sum.inr.inj z))]
      exact IsM.look t
theorem IsL.ints : ∀ {vs : List V} {ns : List Int}, IsL G F vs (ns.map D.int) → vs = ns.map V.int
  | _, [], .nil => rfl
  | _, n :: ns, .cons (.int _) t => by rw [List.map_cons, IsL.ints t]
theorem IsL.bls : ∀ {vs : List V} {ns : List Bool}, IsL G F vs (ns.map D.bl) → vs = ns.map V.bl
  | _, [], .nil => rfl
  | _, n :: ns, .cons (.bl _) t => by rw [List.map_cons, IsL.bls t]
theorem IsL.strs : ∀ {vs : List V} {ns : List Str}, IsL G F vs (ns.map D.str) → vs = ns.map V.str
  | _, [], .nil => rfl
  | _, n :: ns, .cons (.str _) t => by rw [List.map_cons, IsL.strs t]
theorem IsL.of_ints : ∀ (ns : List Int), IsL G F (ns.map V.int) (ns.map D.int)
  | [] => .nil
  | n :: ns => .cons (.int n) (IsL.of_ints ns)
theorem IsL.of_strs : ∀ (ns : List Str), IsL G F (ns.map V.str) (ns.map D.str)
  | [] => .nil
  | n :: ns => .cons (.str n) (IsL.of_strs ns)
end

/-! ### cells -/
/-- the fields of an instance; the lists of its own -/
inductive IsF (G : Gx) (F H : Hp) : List (Str × V) → List (Str × Fd) → List Addr → Prop
  | nil : IsF G F H [] [] []
  | dat {x : Str} {v : V} {vs : List (Str × V)} {d : D} {fs : List (Str × Fd)} {bs : List Addr} : Is G F v d → IsF G F H vs fs bs → IsF G F H ((x, v) :: vs) ((x, .dat d) :: fs) bs
  | own {x : Str} {b : Addr} {xs : List V} {vs : List (Str × V)} {ds : List D} {fs : List (Str × Fd)} {bs : List Addr} : H b = some (.lst xs) → IsL G F xs ds → IsF G F H vs fs bs → IsF G F H ((x, .ref b) :: vs) ((x, .own ds) :: fs) (b :: bs)
theorem IsF.mono {G : Gx} {F F' H H' : Hp} (e : Same F F') {vs : List (Str × V)} {fs : List (Str × Fd)} {bs : List Addr} (h : IsF G F H vs fs bs) (k : ∀ b o, b ∈ bs → H b = some o → H' b = some o) : IsF G F' H' vs fs bs := by
  induction h with
  | nil => exact .nil
  | dat h _ ih => exact .dat (h.mono e) (ih k)
  | own h1 h2 _ ih => exact .own (k _ _ List.mem_cons_self h1) (h2.mono e) (ih fun b o m => k b o (List.mem_cons_of_mem _ m))
theorem IsF.length {G : Gx} {F H : Hp} {vs : List (Str × V)} {fs : List (Str × Fd)} {bs : List Addr} (h : IsF G F H vs fs bs) : vs.length = fs.length := by
  induction h with
  | nil => rfl
  | dat _ _ ih => exact congrArg (· + 1) ih
  | own _ _ _ ih => exact congrArg (· + 1) ih
theorem IsF.there {G : Gx} {F H : Hp} {vs : List (Str × V)} {fs : List (Str × Fd)} {bs : List Addr} (h : IsF G F H vs fs bs) : ∀ b ∈ bs, ∃ xs, H b = some (.lst xs) := by
  induction h with
  | nil => exact fun b m => nomatch m
  | dat _ _ ih => exact ih
  | own h1 _ _ ih =>
    intro b m
    rcases List.mem_cons.mp m with e | m
    · subst e; exact ⟨_, h1⟩
    · exact ih b m
theorem IsF.look {G : Gx} {F H : Hp} {vs : List (Str × V)} {fs : List (Str × Fd)} {bs : List Addr} (h : IsF G F H vs fs bs) {x : Str} {d : D} (e : fs.lookup x = some (.dat d)) : ∃ v, vs.lookup x = some v ∧ Is G F v d := by
  induction h with
  | nil => cases e
  | @dat y v vs d' fs bs h t ih =>
    rw [List.lookup_cons] at e ⊢
    by_cases q : (x == y) = true
    · rw [q] at e ⊢; cases e; exact ⟨v, rfl, h⟩
    · have q' : (x == y) = false := by simpa using q
      rw [q'] at e ⊢; exact ih e
  | @own y b xs vs ds fs bs h h2 t ih =>
    rw [List.lookup_cons] at e ⊢
    by_cases q : (x == y) = true
    · rw [q] at e; cases e
    · have q' : (x == y) = false := by simpa using q
      rw [q'] at e ⊢; exact ih e
theorem IsF.lookO {G : Gx} {F H : Hp} {vs : List (Str × V)} {fs : List (Str × Fd)} {bs : List Addr} (h : IsF G F H vs fs bs) {x : Str} {ds : List D} (e : fs.lookup x = some (.own ds)) : ∃ b xs, vs.lookup x = some (.ref b) ∧ b ∈ bs ∧ H b = some (.lst xs) ∧ IsL G F xs ds := by
  induction h with
  | nil => cases e
  | @dat y v vs d' fs bs h t ih =>
    rw [List.lookup_cons] at e ⊢
    by_cases q : (x == y) = true
    · rw [q] at e; cases e
    · have q' : (x == y) = false := by simpa using q
      rw [q'] at e ⊢; exact ih e
  | @own y b xs vs ds' fs bs h h2 t ih =>
    rw [List.lookup_cons] at e ⊢
    by_cases q : (x == y) = true
    · rw [q] at e ⊢; cases e; exact ⟨b, xs, rfl, List.mem_cons_self, h, h2⟩
    · have q' : (x == y) = false := by simpa using q
      rw [q'] at e ⊢
      obtain ⟨b', xs', h1, h2, h3, h4⟩ := ih e
      exact ⟨b', xs', h1, List.mem_cons_of_mem _ h2, h3, h4⟩
theorem IsF.none {G : Gx} {F H : Hp} {vs : List (Str × V)} {fs : List (Str × Fd)} {bs : List Addr} (h : IsF G F H vs fs bs) {x : Str} (e : fs.lookup x = none) : vs.lookup x = none := by
  induction h with
  | nil => rfl
  | @dat y v vs d' fs bs h t ih =>
    rw [List.lookup_cons] at e ⊢
    by_cases q : (x == y) = true
    · rw [q] at e; cases e
    · have q' : (x == y) = false := by simpa using q
      rw [q'] at e ⊢; exact ih e
  | @own y b xs vs ds' fs bs h h2 t ih =>
    rw [List.lookup_cons] at e ⊢
    by_cases q : (x == y) = true
    · rw [q] at e; cases e
    · have q' : (x == y) = false := by simpa using q
      rw [q'] at e ⊢; exact ih e

/-- the dict of truth values at a: its keys, its values -/
def BdH (a : Addr) (ks : List Bool) (vs : List V) : HO := .ext fun h => (a == sysModules) = false ∧ vs.length = ks.length ∧ ∃ us : List Value, Vals vs us ∧ ∀ (P : Program) (w : World), h.DictOf (PpSet.boolK P w) a (ks.zip us)
def CellIs (G : Gx) (F H : Hp) (l : List Addr) : Cell → Prop
  | .lst ds => ∃ a xs, l = [a] ∧ H a = some (.lst xs) ∧ IsL G F xs ds
  | .ins c fs => ∃ a bs dx vs, l = a :: bs ∧ H a = some (.ins (G.cd c) dx vs) ∧ IsF G F H vs fs bs
  | .bdc kvs => ∃ a vs, l = [a] ∧ H a = some (BdH a (kvs.map (·.1)) vs) ∧ IsL G F vs (kvs.map (·.2))
  | .dead => True
theorem CellIs.mono {G : Gx} {F F' H H' : Hp} {l : List Addr} {c : Cell} (h : CellIs G F H l c) (e : Same F F') (k : ∀ b o, b ∈ l → H b = some o → H' b = some o) : CellIs G F' H' l c := by
  cases c with
  | lst ds =>
    obtain ⟨a, xs, rfl, h1, h2⟩ := h
    exact ⟨a, xs, rfl, k _ _ List.mem_cons_self h1, h2.mono e⟩
  | ins c fs =>
    obtain ⟨a, bs, dx, vs, rfl, h1, h2⟩ := h
    exact ⟨a, bs, dx, vs, rfl, k _ _ List.mem_cons_self h1, h2.mono e fun b o m => k b o (List.mem_cons_of_mem _ m)⟩
  | bdc kvs =>
    obtain ⟨a, vs, rfl, h1, h2⟩ := h
    exact ⟨a, vs, rfl, k _ _ List.mem_cons_self h1, h2.mono e⟩
  | dead => exact trivial
/-- the objects that a live cell stands for -/
theorem CellIs.there {G : Gx} {F H : Hp} {l : List Addr} {c : Cell} (h : CellIs G F H l c) (n : c ≠ .dead) : ∀ b ∈ l, ∃ o, H b = some o := by
  cases c with
  | lst ds =>
    obtain ⟨a, xs, rfl, h1, h2⟩ := h
    intro b m
    have e : b = a := by simpa using m
    subst e; exact ⟨_, h1⟩
  | ins c fs =>
    obtain ⟨a, bs, dx, vs, rfl, h1, h2⟩ := h
    intro b m
    rcases List.mem_cons.mp m with e | m
    · subst e; exact ⟨_, h1⟩
    · obtain ⟨xs, q⟩ := h2.there b m; exact ⟨_, q⟩
  | bdc kvs =>
    obtain ⟨a, vs, rfl, h1, h2⟩ := h
    intro b m
    have e : b = a := by simpa using m
    subst e; exact ⟨_, h1⟩
  | dead => exact absurd rfl n

/-- the state: the store S, its cells at r, what is frozen in F -/
structure Rp (G : Gx) (F : Hp) (r : Pl) (S : Store) (H : Hp) : Prop where
  sub : Same F H
  len : r.length = S.length
  cel : ∀ (n : Nat) (l : List Addr) (c : Cell), r[n]? = some l → S[n]? = some c → c ≠ .dead → CellIs G F H l c ∧ l.Nodup ∧ ∀ b ∈ l, F b = none
  sep : ∀ (n m : Nat) (l l' : List Addr) (c c' : Cell) (b : Addr), r[n]? = some l → r[m]? = some l' → S[n]? = some c → S[m]? = some c' → c ≠ .dead → c' ≠ .dead → b ∈ l → b ∈ l' → n = m

section
variable {G : Gx} {F : Hp} {r : Pl} {S : Store} {H : Hp}
theorem Rp.free (R : Rp G F r S H) {p : Addr} (hp : H p = none) : F p = none := by
  cases q : F p with
  | none => rfl
  | some u => rw [R.sub _ _ q] at hp; cases hp
theorem Rp.out (R : Rp G F r S H) {p : Addr} (hp : H p = none) {n : Nat} {l : List Addr} {c : Cell} (h1 : r[n]? = some l) (h2 : S[n]? = some c) (n' : c ≠ .dead) : p ∉ l := fun m => by
  obtain ⟨o, q⟩ := (R.cel n l c h1 h2 n').1.there n' p m
  rw [hp] at q; cases q
/-- a new frozen thing -/
theorem Rp.new (R : Rp G F r S H) {p : Addr} {o : HO} (hp : H p = none) : Rp G (upd F p o) r S (upd H p o) ∧ Same F (upd F p o) := by
  have hF := R.free hp
  refine ⟨⟨fun b u q => ?_, R.len, fun n l c h1 h2 n' => ?_, R.sep⟩, same_upd hF⟩
  · by_cases hb : b = p
    · subst hb; rw [upd_same] at q ⊢; exact q
    · rw [upd_ne hb] at q ⊢; exact R.sub _ _ q
  · obtain ⟨a1, a2, a3⟩ := R.cel n l c h1 h2 n'
    have ho := R.out hp h1 h2 n'
    exact ⟨a1.mono (same_upd hF) fun b u m q => by rw [upd_ne (by intro z; subst z; exact ho m)]; exact q, a2, fun b m => by rw [upd_ne (by intro z; subst z; exact ho m)]; exact a3 b m⟩
/-- a new thing of no account -/
theorem Rp.put (R : Rp G F r S H) {p : Addr} {o : HO} (hp : H p = none) : Rp G F r S (upd H p o) :=
  ⟨R.sub.trans (same_upd hp), R.len, fun n l c h1 h2 n' =>
    let ⟨a1, a2, a3⟩ := R.cel n l c h1 h2 n'
    ⟨a1.mono (Same.refl F) fun b u m q => by rw [upd_ne (by intro z; subst z; exact R.out hp h1 h2 n' m)]; exact q, a2, a3⟩, R.sep⟩
/-- a new cell -/
theorem Rp.cell (R : Rp G F r S H) {H' : Hp} {l : List Addr} {c : Cell} (hp : ∀ b ∈ l, H b = none) (hn : l.Nodup) (hh : ∀ b, b ∉ l → ∀ o, H b = some o → H' b = some o) (hc : CellIs G F H' l c) : Rp G F (r ++ [l]) (S ++ [c]) H' ∧ Ext F F r (r ++ [l]) := by
  have ix : ∀ {n : Nat} {a : List Addr} {c' : Cell}, (r ++ [l])[n]? = some a → (S ++ [c])[n]? = some c' → (r[n]? = some a ∧ S[n]? = some c' ∧ n < r.length) ∨ (n = r.length ∧ a = l ∧ c' = c) := fun {n a c'} h1 h2 => by
    by_cases hn : n < r.length
    · rw [List.getElem?_append_left hn] at h1
      rw [List.getElem?_append_left (by rw [← R.len]; exact hn)] at h2
      exact .inl ⟨h1, h2, hn⟩
    · have hn2 : n < (r ++ [l]).length := (List.getElem?_eq_some_iff.mp h1).1
      have hn3 : n = r.length := by simp at hn2; omega
      subst hn3
      rw [List.getElem?_append_right (Nat.le_refl _)] at h1
      rw [R.len, List.getElem?_append_right (Nat.le_refl _)] at h2
      simp at h1 h2
      exact .inr ⟨rfl, h1.symm, h2.symm⟩
  have keep : ∀ b o, H b = some o → H' b = some o := fun b o q => hh b (fun m => by rw [hp b m] at q; cases q) o q
  refine ⟨⟨fun b o q => keep b o (R.sub b o q), by simp [R.len], fun n a c' h1 h2 n' => ?_, fun n m a a' c1 c2 b h1 h2 h3 h4 l1 l2 m1 m2 => ?_⟩, ⟨Same.refl F, fun n a t h => ⟨[], ?_⟩⟩⟩
  · rcases ix h1 h2 with ⟨h1, h2, _⟩ | ⟨_, rfl, rfl⟩
    · obtain ⟨a1, a2, a3⟩ := R.cel n a c' h1 h2 n'
      exact ⟨a1.mono (Same.refl F) fun b o _ q => keep b o q, a2, a3⟩
    · exact ⟨hc, hn, fun b m => R.free (hp b m)⟩
  · rcases ix h1 h3 with ⟨h1, h3, _⟩ | ⟨hn, ha, _⟩
    · rcases ix h2 h4 with ⟨h2, h4, _⟩ | ⟨_, hb, _⟩
      · exact R.sep n m a a' c1 c2 b h1 h2 h3 h4 l1 l2 m1 m2
      · exact absurd m1 (R.out (hp b (by rw [← hb]; exact m2)) h1 h3 l1)
    · rcases ix h2 h4 with ⟨h2, h4, _⟩ | ⟨hm, _, _⟩
      · exact absurd m2 (R.out (hp b (by rw [← ha]; exact m1)) h2 h4 l2)
      · rw [hn, hm]
  · rw [List.append_nil, List.getElem?_append_left (List.getElem?_eq_some_iff.mp h).1]; exact h
theorem set_at {α : Type} {S : List α} {n m : Nat} {c d : α} (h : (S.set n c)[m]? = some d) : (m = n ∧ d = c) ∨ (m ≠ n ∧ S[m]? = some d) := by
  by_cases hm : m = n
  · subst hm
    by_cases hn : m < S.length
    · rw [List.getElem?_set_self hn] at h; cases h; exact .inl ⟨rfl, rfl⟩
    · rw [List.getElem?_eq_none (by simpa using hn)] at h; cases h
  · rw [List.getElem?_set_ne (Ne.symm hm)] at h; exact .inr ⟨hm, h⟩
theorem set_self {α : Type} {l : List α} {n : Nat} {a : α} (h : l[n]? = some a) : l.set n a = l := by
  apply List.ext_getElem?
  intro i
  by_cases e : n = i
  · subst e
    rw [List.getElem?_set_self (List.getElem?_eq_some_iff.mp h).1, h]
  · rw [List.getElem?_set_ne e]
/-- a cell is written: it owns what it owned, and perhaps things that none other owns -/
theorem Rp.write2 (R : Rp G F r S H) {H' : Hp} {n : Nat} {a : Addr} {z t : List Addr} {c c' : Cell} (ha : r[n]? = some (a :: t)) (hs : S[n]? = some c) (hl : c ≠ .dead) (hl' : c' ≠ .dead)
    (hn : (a :: (t ++ z)).Nodup) (own : ∀ b ∈ z, F b = none ∧ ∀ (m : Nat) (l' : List Addr) (d : Cell), r[m]? = some l' → S[m]? = some d → d ≠ .dead → b ∉ l') (hh : ∀ b, b ∉ a :: (t ++ z) → ∀ o, H b = some o → H' b = some o) (hc : CellIs G F H' (a :: (t ++ z)) c') : Rp G F (r.set n (a :: (t ++ z))) (S.set n c') H' ∧ Ext F F r (r.set n (a :: (t ++ z))) := by
  obtain ⟨b1, b2, b3⟩ := R.cel n _ c ha hs hl
  have hnr : n < r.length := (List.getElem?_eq_some_iff.mp ha).1
  have hF : ∀ b ∈ a :: (t ++ z), F b = none := fun b m => by
    rcases List.mem_cons.mp m with e | m
    · subst e; exact b3 _ List.mem_cons_self
    · rcases List.mem_append.mp m with m | m
      · exact b3 _ (List.mem_cons_of_mem _ m)
      · exact (own b m).1
  have far : ∀ (m : Nat) (l' : List Addr) (d : Cell) (b : Addr), m ≠ n → r[m]? = some l' → S[m]? = some d → d ≠ .dead → b ∈ l' → b ∉ a :: (t ++ z) := fun m l' d b hm h1 h2 h3 m1 m2 => by
    rcases List.mem_cons.mp m2 with e | m2
    · subst e; exact hm (R.sep m n l' _ d c _ h1 ha h2 hs h3 hl m1 List.mem_cons_self)
    · rcases List.mem_append.mp m2 with m2 | m2
      · exact hm (R.sep m n l' _ d c _ h1 ha h2 hs h3 hl m1 (List.mem_cons_of_mem _ m2))
      · exact (own b m2).2 m l' d h1 h2 h3 m1
  refine ⟨⟨fun b u q => hh b (fun m => by rw [hF b m] at q; cases q) u (R.sub b u q), by simp [R.len], fun m b d h1 h2 h3 => ?_, fun m k b1 b2 c1 c2 b h1 h2 h3 h4 l1 l2 m1 m2 => ?_⟩, ⟨Same.refl F, fun m x y h => ?_⟩⟩
  · rcases set_at h1 with ⟨e, rfl⟩ | ⟨e, h1⟩
    · rcases set_at h2 with ⟨_, rfl⟩ | ⟨e', _⟩
      · exact ⟨hc, hn, hF⟩
      · exact absurd e e'
    · rcases set_at h2 with ⟨e', _⟩ | ⟨_, h2⟩
      · exact absurd e' e
      · obtain ⟨a1, a2, a3⟩ := R.cel m b d h1 h2 h3
        exact ⟨a1.mono (Same.refl F) fun x o mx q => hh x (far m b d x e h1 h2 h3 mx) o q, a2, a3⟩
  · rcases set_at h1 with ⟨e, rfl⟩ | ⟨e, h1⟩
    · rcases set_at h2 with ⟨e', _⟩ | ⟨e', h2⟩
      · rw [e, e']
      · rcases set_at h4 with ⟨z, _⟩ | ⟨_, h4⟩
        · exact absurd z e'
        · exact absurd m1 (far k b2 c2 b e' h2 h4 l2 m2)
    · rcases set_at h3 with ⟨z, _⟩ | ⟨_, h3⟩
      · exact absurd z e
      · rcases set_at h2 with ⟨e', rfl⟩ | ⟨e', h2⟩
        · exact absurd m2 (far m b1 c1 b e h1 h3 l1 m1)
        · rcases set_at h4 with ⟨z, _⟩ | ⟨_, h4⟩
          · exact absurd z e'
          · exact R.sep m k b1 b2 c1 c2 b h1 h2 h3 h4 l1 l2 m1 m2
  · by_cases hm : m = n
    · subst hm
      rw [ha] at h; cases h
      exact ⟨z, by rw [List.getElem?_set_self hnr]⟩
    · exact ⟨[], by rw [List.append_nil, List.getElem?_set_ne (Ne.symm hm)]; exact h⟩
/-- a cell is written: it owns what it owned -/
theorem Rp.write (R : Rp G F r S H) {H' : Hp} {n : Nat} {a : Addr} {t : List Addr} {c c' : Cell} (ha : r[n]? = some (a :: t)) (hs : S[n]? = some c) (hl : c ≠ .dead) (hl' : c' ≠ .dead)
    (hh : ∀ b, b ∉ a :: t → ∀ o, H b = some o → H' b = some o) (hc : CellIs G F H' (a :: t) c') : Rp G F r (S.set n c') H' := by
  obtain ⟨_, b2, _⟩ := R.cel n _ c ha hs hl
  have q := (R.write2 (H' := H') (z := []) (c' := c') ha hs hl hl' (by rw [List.append_nil]; exact b2) (fun b m => nomatch m) (by rw [List.append_nil]; exact hh) (by rw [List.append_nil]; exact hc)).1
  rw [List.append_nil, set_self ha] at q
  exact q
/-- a list's cell is written -/
theorem Rp.wlist (R : Rp G F r S H) {n : Nat} {a : Addr} {t : List Addr} {ds ds' : List D} {xs : List V} (ha : r[n]? = some (a :: t)) (hs : S[n]? = some (.lst ds)) (hx : IsL G F xs ds') : Rp G F r (S.set n (.lst ds')) (upd H a (.lst xs)) := by
  obtain ⟨⟨a', xs0, e, h1, h2⟩, _, _⟩ := R.cel n _ _ ha hs (fun z => by cases z)
  cases e
  exact R.write (H' := upd H a (.lst xs)) (c' := .lst ds') ha hs (fun z => by cases z) (fun z => by cases z) (fun b m o q => by rw [upd_ne (by simpa using m)]; exact q) ⟨a, xs, rfl, upd_same, hx⟩
/-- a cell is given up -/
theorem Rp.drop (R : Rp G F r S H) (n : Nat) : Rp G F r (S.set n .dead) H := by
  have at_ : ∀ {m : Nat} {d : Cell}, (S.set n .dead)[m]? = some d → d ≠ .dead → m ≠ n ∧ S[m]? = some d := fun {m d} h l => by
    rcases set_at h with ⟨_, e⟩ | q
    · exact absurd e l
    · exact q
  exact ⟨R.sub, by simp [R.len], fun m b d h1 h2 l => R.cel m b d h1 (at_ h2 l).2 l,
    fun m k b b' c1 c2 x h1 h2 h3 h4 l1 l2 => R.sep m k b b' c1 c2 x h1 h2 (at_ h3 l1).2 (at_ h4 l2).2 l1 l2⟩
/-- .. and what it held is frozen -/
theorem Rp.freeze (R : Rp G F r S H) {n : Nat} {a : Addr} {t : List Addr} {o : HO} {c : Cell} (ha : r[n]? = some (a :: t)) (hs : S[n]? = some c) (hl : c ≠ .dead) (ho : H a = some o) : Rp G (upd F a o) r (S.set n .dead) H ∧ Same F (upd F a o) := by
  have hF : F a = none := (R.cel _ _ _ ha hs hl).2.2 a List.mem_cons_self
  have at_ : ∀ {m : Nat} {d : Cell}, (S.set n .dead)[m]? = some d → d ≠ .dead → m ≠ n ∧ S[m]? = some d := fun {m d} h l => by
    rcases set_at h with ⟨_, e⟩ | q
    · exact absurd e l
    · exact q
  refine ⟨⟨fun b u q => ?_, by simp [R.len], fun m b d h1 h2 l => ?_, fun m k b b' c1 c2 x h1 h2 h3 h4 l1 l2 => R.sep m k b b' c1 c2 x h1 h2 (at_ h3 l1).2 (at_ h4 l2).2 l1 l2⟩, same_upd hF⟩
  · by_cases hb : b = a
    · subst hb; rw [upd_same] at q; cases q; exact ho
    · rw [upd_ne hb] at q; exact R.sub _ _ q
  · obtain ⟨hm, h2⟩ := at_ h2 l
    obtain ⟨a1, a2, a3⟩ := R.cel m b d h1 h2 l
    refine ⟨a1.mono (same_upd hF) fun _ _ _ q => q, a2, fun x mx => ?_⟩
    rw [upd_ne (by intro z; subst z; exact hm (R.sep m n b _ d c _ h1 ha h2 hs l hl mx List.mem_cons_self))]
    exact a3 x mx
/-- the last cells are forgotten -/
theorem Rp.take (R : Rp G F r S H) (k : Nat) : Rp G F (r.take k) (S.take k) H := by
  have i1 : ∀ {α : Type} {l : List α} {n : Nat} {a : α}, (l.take k)[n]? = some a → l[n]? = some a := fun {α l n a} h => by
    have hn : n < (l.take k).length := (List.getElem?_eq_some_iff.mp h).1
    rw [List.length_take] at hn
    rwa [List.getElem?_take_of_lt (by omega)] at h
  exact ⟨R.sub, by simp [R.len], fun n l c h1 h2 h3 => R.cel n l c (i1 h1) (i1 h2) h3, fun n m a a' c c' b h1 h2 h3 h4 => R.sep n m a a' c c' b (i1 h1) (i1 h2) (i1 h3) (i1 h4)⟩
theorem Ext.take {F' : Hp} {r' : Pl} (e : Ext F F' r r') (k : Nat) (hk : r.length ≤ k) : Ext F F' r (r'.take k) := ⟨e.sub, fun n a t h => by
  obtain ⟨t', h'⟩ := e.pre n a t h
  have hn : n < r.length := (List.getElem?_eq_some_iff.mp h).1
  exact ⟨t', by rw [List.getElem?_take_of_lt (by omega)]; exact h'⟩⟩
/-- the list that a cell stands for -/
theorem Rp.list (R : Rp G F r S H) {n : Nat} {a : Addr} {t : List Addr} {ds : List D} (ha : r[n]? = some (a :: t)) (hs : S[n]? = some (.lst ds)) : ∃ xs, H a = some (.lst xs) ∧ IsL G F xs ds := by
  obtain ⟨⟨a', xs, e, h1, h2⟩, _, _⟩ := R.cel n _ _ ha hs (fun z => by cases z)
  cases e
  exact ⟨xs, h1, h2⟩
end
end DL

/-! Readings over data. -/
namespace DL
open PySem PySem.Spec L2
set_option autoImplicit false

/-! ### what is wanted behind a term -/
def Post (G : Gx) (W : WX) (σ : St) {A B : Type} (Rel : Hp → Pl → B → A → Prop) (F : Hp) (r : Pl) (m : M A) (Q : B → Hp → Prop) : Prop := match m with
  | none => False
  | some (.ok a S) => ∀ F' r' b H', Ext F F' r r' → Rp G F' r' S H' → Rel F' r' b a → Q b H'
  | some (.ex x S) => ∀ F' r' c d H', Ext F F' r r' → Rp G F' r' S H' → XnIs G F' c d x → W c d σ H'
theorem Post.mono {G : Gx} {W : WX} {σ : St} {A B : Type} {Rel : Hp → Pl → B → A → Prop} {F F' : Hp} {r r' : Pl} {m : M A} {Q : B → Hp → Prop} (h : Post G W σ Rel F r m Q) (e : Ext F F' r r') : Post G W σ Rel F' r' m Q := by
  cases m with
  | none => exact h
  | some z =>
    cases z with
    | ok a S => exact fun F2 r2 b H' e2 R2 q => h F2 r2 b H' (e.trans e2) R2 q
    | ex x S => exact fun F2 r2 c d H' e2 R2 q => h F2 r2 c d H' (e.trans e2) R2 q
theorem Post.imp {G : Gx} {W : WX} {σ : St} {A B : Type} {Rel : Hp → Pl → B → A → Prop} {F : Hp} {r : Pl} {m : M A} {Q Q' : B → Hp → Prop} (h : Post G W σ Rel F r m Q) (k : ∀ b H, Q b H → Q' b H) : Post G W σ Rel F r m Q' := by
  cases m with
  | none => exact h
  | some z =>
    cases z with
    | ok a S => exact fun F2 r2 b H' e2 R2 q => k _ _ (h F2 r2 b H' e2 R2 q)
    | ex x S => exact h
/-- a known answer -/
theorem Post.done {G : Gx} {W : WX} {σ : St} {A B : Type} {Rel : Hp → Pl → B → A → Prop} {F : Hp} {r : Pl} {a : A} {S : Store} {Q : B → Hp → Prop} (h : Post G W σ Rel F r (some (.ok a S)) Q) {F' : Hp} {r' : Pl} {b : B} {H' : Hp} (e : Ext F F' r r') (R : Rp G F' r' S H') (q : Rel F' r' b a) : Q b H' := h F' r' b H' e R q
/-- a term first, then another -/
theorem Post.bnd {G : Gx} {W : WX} {σ : St} {A B A' B' : Type} {Rel : Hp → Pl → B → A → Prop} {Rel' : Hp → Pl → B' → A' → Prop} {F : Hp} {r : Pl} {m : M A} {k : A → Store → M A'} {Q : B' → Hp → Prop} (h : Post G W σ Rel' F r (DL.bnd m k) Q) :
    Post G W σ Rel F r m fun b H1 => ∃ F1 r1 S1 a, Ext F F1 r r1 ∧ Rp G F1 r1 S1 H1 ∧ Rel F1 r1 b a ∧ Post G W σ Rel' F1 r1 (k a S1) Q := by
  cases m with
  | none => exact h
  | some z =>
    cases z with
    | ok a S => exact fun F1 r1 b H1 e R q => ⟨F1, r1, S, a, e, R, q, Post.mono (m := k a S) h e⟩
    | ex x S => exact h
theorem Post.bnD {G : Gx} {W : WX} {σ : St} {A' B' : Type} {Rel' : Hp → Pl → B' → A' → Prop} {F : Hp} {r : Pl} {m : M U} {k : D → Store → M A'} {Q : B' → Hp → Prop} (h : Post G W σ Rel' F r (DL.bnD m k) Q) :
    Post G W σ (IsU G) F r m fun b H1 => ∃ F1 r1 S1 d, Ext F F1 r r1 ∧ Rp G F1 r1 S1 H1 ∧ Is G F1 b d ∧ Post G W σ Rel' F1 r1 (k d S1) Q := by
  refine Post.imp (Post.bnd (Rel := IsU G) h) fun b H1 ⟨F1, r1, S1, u, e, R, q, p⟩ => ?_
  cases u with
  | loc n => exact p.elim
  | err x => exact p.elim
  | d d => cases q with | d q => exact ⟨F1, r1, S1, d, e, R, q, p⟩
theorem Post.giv {G : Gx} {W : WX} {σ : St} {F : Hp} {r : Pl} {o : Option D} {S : Store} {Q : VK} (h : Post G W σ (IsU G) F r (DL.giv o S) Q) : ∃ d, o = some d ∧ ∀ F' v H', Same F F' → Rp G F' r S H' → Is G F' v d → Q v H' := by
  cases o with
  | none => exact h.elim
  | some d => exact ⟨d, rfl, fun F' v H' e R q => h F' r v H' (.cells e) R (.d q)⟩

/-! ### slots -/
structure Lo (G : Gx) (F : Hp) (r : Pl) (σ : St) (e : Env) : Prop where
  len : σ.length = e.length
  at_ : ∀ (i : Nat) (u : U), e[i]? = some (some u) → ∃ v, σ[i]? = some (some v) ∧ IsU G F r v u
theorem Lo.mono {G : Gx} {F F' : Hp} {r r' : Pl} {σ : St} {e : Env} (h : Lo G F r σ e) (x : Ext F F' r r') : Lo G F' r' σ e :=
  ⟨h.len, fun i u q => let ⟨v, a, b⟩ := h.at_ i u q; ⟨v, a, b.mono x⟩⟩
theorem Lo.set {G : Gx} {F : Hp} {r : Pl} {σ : St} {e : Env} (h : Lo G F r σ e) (i : Nat) {v : V} {u : U} (q : IsU G F r v u) : Lo G F r (σ.set i (some v)) (e.set i (some u)) := by
  refine ⟨by simp [h.len], fun j w hj => ?_⟩
  rcases set_at hj with ⟨rfl, e1⟩ | ⟨ne, hj⟩
  · cases e1
    have hl : j < (e.set j (some u)).length := (List.getElem?_eq_some_iff.mp hj).1
    exact ⟨v, by rw [List.getElem?_set_self (by rw [h.len]; simpa using hl)], q⟩
  · obtain ⟨v', a, b⟩ := h.at_ j w hj
    exact ⟨v', by rw [List.getElem?_set_ne (Ne.symm ne)]; exact a, b⟩
theorem Lo.clr {G : Gx} {F : Hp} {r : Pl} {σ : St} {e : Env} (h : Lo G F r σ e) (i : Nat) : Lo G F r (σ.set i none) (e.set i none) := by
  refine ⟨by simp [h.len], fun j w hj => ?_⟩
  rcases set_at hj with ⟨rfl, e1⟩ | ⟨ne, hj⟩
  · cases e1
  · obtain ⟨v', a, b⟩ := h.at_ j w hj
    exact ⟨v', by rw [List.getElem?_set_ne (Ne.symm ne)]; exact a, b⟩
theorem Lo.wipe {G : Gx} {F : Hp} {r : Pl} {σ : St} {e : Env} (h : Lo G F r σ e) : ∀ vs : List Nat, Lo G F r (L2.wipe σ vs) (wipeE e vs)
  | [] => h
  | v :: vs => by
    unfold L2.wipe wipeE
    exact (Lo.wipe h vs).clr v
theorem Lo.start {G : Gx} {F : Hp} {r : Pl} {N : List Str} {vs : List V} {us : List U} {d : Df} (hn : d.nn = N.length) (h : Paired (IsU G F r) vs us) : Lo G F r (L2.start N vs) (start0 d us) := by
  have hl : vs.length = us.length := Paired.length h
  refine ⟨by unfold L2.start start0; simp [hl, hn], fun i u q => ?_⟩
  unfold start0 at q
  unfold L2.start
  by_cases hi : i < us.length
  · rw [List.getElem?_append_left (by simpa using hi), List.getElem?_map] at q
    rw [List.getElem?_append_left (by simp [hl, hi]), List.getElem?_map]
    cases e : us[i]? with
    | none => rw [e] at q; cases q
    | some w =>
      rw [e] at q
      cases q
      have get : ∀ {vs : List V} {us : List U} {i : Nat} {u : U}, Paired (IsU G F r) vs us → us[i]? = some u → ∃ v, vs[i]? = some v ∧ IsU G F r v u := by
        intro vs us i u h
        induction h generalizing i with
        | nil => intro e; simp at e
        | cons h _ ih =>
          intro e
          cases i with
          | zero => simp at e; subst e; exact ⟨_, rfl, h⟩
          | succ i => obtain ⟨v, a, b⟩ := ih (by simpa using e); exact ⟨v, by simpa using a, b⟩
      obtain ⟨v, a, b⟩ := get h e
      exact ⟨v, by rw [a]; rfl, b⟩
  · rw [List.getElem?_append_right (by simpa using hi), List.getElem?_replicate] at q
    split at q <;> cases q

/-! ### readings -/
section
variable (G : Gx) (Γ : Ev) (W : WX)
def rdE (a : E) : TE := fun σ H Q => ∃ F r S e, Rp G F r S H ∧ Lo G F r σ e ∧ Post G W σ (IsU G) F r (evE Γ a e S) Q
def rdT (a : E) : TT := fun σ H Q => ∃ F r S e, Rp G F r S H ∧ Lo G F r σ e ∧ Post G W σ (fun _ _ (b : Bool) c => b = c) F r (evT Γ a e S) Q
def rdL (a : E) : TA := fun σ H Q => ∃ F r S e, Rp G F r S H ∧ Lo G F r σ e ∧ Post G W σ (fun F r => Paired (IsU G F r)) F r (evL Γ a e S) Q
def rdP (a : E) : TO := fun σ H Q => ∃ F r S e, Rp G F r S H ∧ Lo G F r σ e ∧ Post G W σ (fun _ _ (b : Option Int) c => b = c) F r (evP Γ a e S) Q
end
theorem pe_imp {X : Cx} {e : Expr} {t t' : TE} (h : PE X e t) (k : ∀ σ H Q, t' σ H Q → t σ H Q) : PE X e t' := ⟨fun pins s σ H Q I q => h.run pins s σ H Q I (k σ H Q q)⟩
theorem pt_imp {X : Cx} {e : Expr} {t t' : TT} (h : PT X e t) (k : ∀ σ H Q, t' σ H Q → t σ H Q) : PT X e t' := ⟨fun pins s σ H Q I q => h.run pins s σ H Q I (k σ H Q q)⟩
theorem pw_imp {X : Cx} {e : Expr} {t t' : TT} (h : PW X e t) (k : ∀ σ H Q, t' σ H Q → t σ H Q) : PW X e t' := ⟨fun wh pins s σ H Q I q => h.run wh pins s σ H Q I (k σ H Q q)⟩
theorem pa_imp {X : Cx} {e : List Expr} {t t' : TA} (h : PA X e t) (k : ∀ σ H Q, t' σ H Q → t σ H Q) : PA X e t' := ⟨fun pos pins s σ H Q I q => h.run pos pins s σ H Q I (k σ H Q q)⟩
theorem po_imp {X : Cx} {e : Option Expr} {t t' : TO} (h : PO X e t) (k : ∀ σ H Q, t' σ H Q → t σ H Q) : PO X e t' := ⟨fun pins s σ H Q I q => h.run pins s σ H Q I (k σ H Q q)⟩
theorem ps_imp {X : Cx} {e : Stmt} {t t' : TS} (h : PS X e t) (k : ∀ D σ H, t' D σ H → t D σ H) : PS X e t' := ⟨fun pins s σ H D I q => h.run pins s σ H D I (k D σ H q)⟩
theorem pss_imp {X : Cx} {e : List Stmt} {t t' : TS} (h : PSs X e t) (k : ∀ D σ H, t' D σ H → t D σ H) : PSs X e t' := ⟨fun pins s σ H D I q => h.run pins s σ H D I (k D σ H q)⟩

/-! ### operators over data -/
/-- two values of data in, data out, by g -/
def rD2 (G : Gx) (g : D → D → Option D) : R2 := fun x y H Q => ∃ F r S d1 d2 d, Rp G F r S H ∧ Is G F x d1 ∧ Is G F y d2 ∧ g d1 d2 = some d ∧ ∀ F' v H', Same F F' → Rp G F' r S H' → Is G F' v d → Q v H'
section
variable {G : Gx} {Γ : Ev} {W : WX} {X : Cx}
theorem opr_imp {f : Value → Value → Sem Value} {t t' : R2} (h : OpR X f t) (k : ∀ x y H Q, t' x y H Q → t x y H Q) : OpR X f t' := fun pins s σ H x y v u Q I rx ry q => h pins s σ H x y v u Q I rx ry (k x y H Q q)
theorem two {a b : E} {g : D → D → Option D} {σ : St} {H : Hp} {Q : VK} {F : Hp} {r : Pl} {S : Store} {e : Env} (R : Rp G F r S H) (L : Lo G F r σ e)
    (p : Post G W σ (IsU G) F r (bnD (evE Γ a e S) fun x S1 => bnD (evE Γ b e S1) fun y S2 => giv (g x y) S2) Q) :
    rdE G Γ W a σ H fun x H1 => rdE G Γ W b σ H1 fun y H2 => rD2 G g x y H2 Q := by
  refine ⟨F, r, S, e, R, L, Post.imp (Post.bnD p) fun x H1 ⟨F1, r1, S1, d1, e1, R1, q1, p1⟩ => ?_⟩
  refine ⟨F1, r1, S1, e, R1, L.mono e1, Post.imp (Post.bnD p1) fun y H2 ⟨F2, r2, S2, d2, e2, R2, q2, p2⟩ => ?_⟩
  obtain ⟨d, h1, h2⟩ := Post.giv p2
  exact ⟨F2, r2, S2, d1, d2, d, R2, q1.mono e2.sub, q2, h1, h2⟩
theorem rp_lists {F : Hp} {r : Pl} {S : Store} {H : Hp} {x : V} {l : List D} (R : Rp G F r S H) (h : Is G F x (.lst l)) : ∃ a xs, x = .ref a ∧ H a = some (.lst xs) ∧ IsL G F xs l := by
  cases h with | lst h t => exact ⟨_, _, rfl, R.sub _ _ h, t⟩
theorem rp_tups {F : Hp} {r : Pl} {S : Store} {H : Hp} {x : V} {l : List D} (R : Rp G F r S H) (h : Is G F x (.tup l)) : ∃ a xs, x = .ref a ∧ SqT G.K H a xs ∧ IsL G F xs l := by
  cases h with | tup h t => exact ⟨_, _, rfl, same_sqT R.sub h, t⟩
/-- a new list, a new tuple -/
theorem new_lst {F : Hp} {r : Pl} {S : Store} {H : Hp} {p : Addr} {xs : List V} {l : List D} (R : Rp G F r S H) (hp : H p = none) (t : IsL G F xs l) : Rp G (upd F p (.lst xs)) r S (upd H p (.lst xs)) ∧ Same F (upd F p (.lst xs)) ∧ Is G (upd F p (.lst xs)) (.ref p) (.lst l) := by
  obtain ⟨R1, s1⟩ := R.new (o := .lst xs) hp
  exact ⟨R1, s1, .lst upd_same (t.mono s1)⟩
theorem new_tup {F : Hp} {r : Pl} {S : Store} {H : Hp} {p : Addr} {xs : List V} {l : List D} (R : Rp G F r S H) (hp : H p = none) (t : IsL G F xs l) : Rp G (upd F p (.tup xs)) r S (upd H p (.tup xs)) ∧ Same F (upd F p (.tup xs)) ∧ Is G (upd F p (.tup xs)) (.ref p) (.tup l) := by
  obtain ⟨R1, s1⟩ := R.new (o := .tup xs) hp
  exact ⟨R1, s1, .tup (SqT.of upd_same) (t.mono s1)⟩
end
end DL

/-! Operators, comparisons, subscripts over data. -/
namespace DL
open PySem PySem.Spec L2
set_option autoImplicit false
section
variable {G : Gx} {X : Cx}

/-! ### arithmetic -/
theorem or_add (hK : X.K = G.K) : OpR X (binaryOp .Add) (rD2 G (bopD .add)) := by
  refine opr_imp (OpR.or op_add (OpR.or op_add_str (OpR.or op_catA op_cat))) fun x y H Q h => ?_
  obtain ⟨F, r, S, d1, d2, d, R, h1, h2, hg, q⟩ := h
  unfold bopD at hg
  split at hg
  all_goals first | (exfalso; contradiction) | skip
  all_goals first | contradiction | skip
  · cases hg; cases h1; cases h2
    exact .inl ⟨_, _, rfl, rfl, q F _ H (Same.refl F) R (.int _)⟩
  · split at hg
    · rename_i hl
      cases hg; cases h1; cases h2
      exact .inr (.inl ⟨_, _, rfl, rfl, by rw [sizeLine_eq]; exact hl, q F _ H (Same.refl F) R (.str _)⟩)
    · cases hg
  · split at hg
    · rename_i hl
      cases hg
      obtain ⟨a, xs, rfl, ha, ta⟩ := rp_tups R h1
      obtain ⟨b, ys, rfl, hb, tb⟩ := rp_tups R h2
      refine .inr (.inr (.inl ⟨a, b, xs, ys, rfl, rfl, by rw [hK]; exact ha, by rw [hK]; exact hb, by rw [ta.length, tb.length, sizeLine_eq]; exact hl, fun e => ?_, fun _ e => ?_, fun _ _ p hp => ?_⟩))
      · subst e
        cases ta
        exact q F _ H (Same.refl F) R h2
      · subst e
        cases tb
        rw [List.append_nil] at q
        exact q F _ H (Same.refl F) R h1
      · obtain ⟨R1, s1, i1⟩ := new_tup R hp (ta.app tb)
        exact q _ _ _ s1 R1 i1
    · cases hg
  · split at hg
    · rename_i hl
      cases hg
      obtain ⟨a, xs, rfl, ha, ta⟩ := rp_lists R h1
      obtain ⟨b, ys, rfl, hb, tb⟩ := rp_lists R h2
      refine .inr (.inr (.inr ⟨a, b, xs, ys, rfl, rfl, ha, hb, by rw [ta.length, tb.length, sizeLine_eq]; exact hl, fun p hp => ?_⟩))
      obtain ⟨R1, s1, i1⟩ := new_lst R hp (ta.app tb)
      exact q _ _ _ s1 R1 i1
    · cases hg
theorem or_sub : OpR X (binaryOp .Sub) (rD2 G (bopD .sub)) := by
  refine opr_imp op_sub fun x y H Q h => ?_
  obtain ⟨F, r, S, d1, d2, d, R, h1, h2, hg, q⟩ := h
  unfold bopD at hg
  split at hg
  all_goals first | contradiction | skip
  cases hg; cases h1; cases h2
  exact ⟨_, _, rfl, rfl, q F _ H (Same.refl F) R (.int _)⟩
theorem small64_of {i : Int} (h : small64 i = true) : -(2 ^ 64) < i ∧ i < 2 ^ 64 := by
  unfold small64 at h
  simpa using h
theorem or_fdiv : OpR X (binaryOp .FloorDiv) (rD2 G (bopD .fdiv)) := by
  refine opr_imp op_fdiv fun x y H Q h => ?_
  obtain ⟨F, r, S, d1, d2, d, R, h1, h2, hg, q⟩ := h
  unfold bopD at hg
  split at hg
  all_goals first | contradiction | skip
  split at hg
  · rename_i hl
    cases hg; cases h1; cases h2
    exact ⟨_, _, rfl, rfl, hl, q F _ H (Same.refl F) R (.int _)⟩
  · cases hg
theorem or_mod : OpR X (binaryOp .Mod) (rD2 G (bopD .mod)) := by
  refine opr_imp op_mod fun x y H Q h => ?_
  obtain ⟨F, r, S, d1, d2, d, R, h1, h2, hg, q⟩ := h
  unfold bopD at hg
  split at hg
  all_goals first | contradiction | skip
  split at hg
  · rename_i hl
    cases hg; cases h1; cases h2
    exact ⟨_, _, rfl, rfl, hl, q F _ H (Same.refl F) R (.int _)⟩
  · cases hg
theorem or_pow : OpR X (binaryOp .Pow) (rD2 G (bopD .pow)) := by
  refine opr_imp op_pow fun x y H Q h => ?_
  obtain ⟨F, r, S, d1, d2, d, R, h1, h2, hg, q⟩ := h
  unfold bopD at hg
  split at hg
  all_goals first | contradiction | skip
  split at hg
  · rename_i hl
    cases hg; cases h1; cases h2
    exact ⟨_, _, rfl, rfl, hl, q F _ H (Same.refl F) R (.int _)⟩
  · cases hg

/-! ### comparisons -/
def rD2B (G : Gx) (g : D → D → Option Bool) : R2 := rD2 G fun x y => (g x y).map D.bl
mutual
def toPy : D → PyData
  | .non => .none
  | .bl b => .bool b
  | .int i => .int i
  | .str x => .str x
  | .tup l => .tuple (toPys l)
  | .lst l => .list (toPys l)
  | _ => .none
def toPys : List D → List PyData
  | [] => []
  | x :: r => toPy x :: toPys r
end
mutual
theorem lay_of : ∀ (n : Nat) (d : D), okD n d = true → (toPy d).canLay0 = true ∧ (toPy d).depth ≤ n
  | _, .non, _ => ⟨rfl, Nat.zero_le _⟩
  | _, .bl _, _ => ⟨rfl, Nat.zero_le _⟩
  | _, .int _, _ => ⟨rfl, Nat.zero_le _⟩
  | _, .str x, h => ⟨by unfold okD at h; unfold toPy PyData.canLay0; exact h, Nat.zero_le _⟩
  | n + 1, .tup l, h => by
    have q := lays_of n l (by unfold okD at h; exact h)
    unfold toPy PyData.canLay0 PyData.depth
    exact ⟨q.1, Nat.succ_le_succ q.2⟩
  | n + 1, .lst l, h => by
    have q := lays_of n l (by unfold okD at h; exact h)
    unfold toPy PyData.canLay0 PyData.depth
    exact ⟨q.1, Nat.succ_le_succ q.2⟩
  | 0, .tup l, h => by simp [okD] at h
  | 0, .lst l, h => by simp [okD] at h
  | 0, .map _, h => by simp [okD] at h
  | 0, .drv _, h => by simp [okD] at h
  | 0, .scr _, h => by simp [okD] at h
  | _ + 1, .map _, h => by simp [okD] at h
  | _ + 1, .drv _, h => by simp [okD] at h
  | _ + 1, .scr _, h => by simp [okD] at h
theorem lays_of : ∀ (n : Nat) (l : List D), okDs n l = true → PyData.canLayAll0 (toPys l) = true ∧ PyData.depthAll (toPys l) ≤ n
  | _, [], _ => ⟨by unfold toPys PyData.canLayAll0; rfl, Nat.zero_le _⟩
  | n, x :: r, h => by
    unfold okDs at h
    rw [Bool.and_eq_true] at h
    have q1 := lay_of n x h.1
    have q2 := lays_of n r h.2
    unfold toPys PyData.canLayAll0 PyData.depthAll
    rw [Bool.and_eq_true]
    exact ⟨⟨q1.1, q2.1⟩, Nat.max_le.mpr ⟨q1.2, q2.2⟩⟩
end
mutual
theorem eqv_of : ∀ (n m : Nat) (a b : D), okD n a = true → okD m b = true → (toPy a).eqv (toPy b) = eqD a b
  | n, m, a, b, ha, hb => by
    cases a <;> cases b <;> first
      | (simp [okD] at ha; done)
      | (simp [okD] at hb; done)
      | (cases n <;> simp [okD] at ha; done)
      | (cases m <;> simp [okD] at hb; done)
      | (simp only [toPy, PyData.eqv, eqD]; done)
      | skip
    · simp only [toPy, PyData.eqv, eqD]
      rename_i x y
      rw [Bool.eq_iff_iff]; simp
    · rename_i x y
      cases n with
      | zero => simp [okD] at ha
      | succ n =>
        cases m with
        | zero => simp [okD] at hb
        | succ m =>
          simp only [toPy, PyData.eqv, eqD]
          exact eqvs_of n m x y (by unfold okD at ha; exact ha) (by unfold okD at hb; exact hb)
    · rename_i x y
      cases n with
      | zero => simp [okD] at ha
      | succ n =>
        cases m with
        | zero => simp [okD] at hb
        | succ m =>
          simp only [toPy, PyData.eqv, eqD]
          exact eqvs_of n m x y (by unfold okD at ha; exact ha) (by unfold okD at hb; exact hb)
theorem eqvs_of : ∀ (n m : Nat) (a b : List D), okDs n a = true → okDs m b = true → PyData.eqvAll (toPys a) (toPys b) = eqDs a b
  | _, _, [], [], _, _ => by simp only [toPys, PyData.eqvAll, eqDs]
  | _, _, [], _ :: _, _, _ => by simp only [toPys, PyData.eqvAll, eqDs]
  | _, _, _ :: _, [], _, _ => by simp only [toPys, PyData.eqvAll, eqDs]
  | n, m, x :: r, y :: s, ha, hb => by
    unfold okDs at ha hb
    rw [Bool.and_eq_true] at ha hb
    simp only [toPys, PyData.eqvAll, eqDs]
    rw [eqv_of n m x y ha.1 hb.1, eqvs_of n m r s ha.2 hb.2]
end
mutual
theorem dp_of {F H : Hp} (e : Same F H) : ∀ (n : Nat) (d : D) (v : V), okD n d = true → Is G F v d → Dp G.K H v (toPy d)
  | _, .non, _, _, .non => .non
  | _, .bl _, _, _, .bl _ => .bl _
  | _, .int _, _, _, .int _ => .int _
  | _, .str _, _, _, .str _ => .str _
  | n + 1, .tup l, _, h, .tup a t => by
    unfold toPy
    exact .tup (same_sqT e a) (dps_of e n l _ (by unfold okD at h; exact h) t)
  | n + 1, .lst l, _, h, .lst a t => by
    unfold toPy
    exact .lst (SqL.of (e _ _ a)) (dps_of e n l _ (by unfold okD at h; exact h) t)
  | 0, .tup l, _, h, _ => by simp [okD] at h
  | 0, .lst l, _, h, _ => by simp [okD] at h
  | 0, .map _, _, h, _ => by simp [okD] at h
  | 0, .drv _, _, h, _ => by simp [okD] at h
  | 0, .scr _, _, h, _ => by simp [okD] at h
  | _ + 1, .map _, _, h, _ => by simp [okD] at h
  | _ + 1, .drv _, _, h, _ => by simp [okD] at h
  | _ + 1, .scr _, _, h, _ => by simp [okD] at h
theorem dps_of {F H : Hp} (e : Same F H) : ∀ (n : Nat) (l : List D) (vs : List V), okDs n l = true → IsL G F vs l → DpAll G.K H vs (toPys l)
  | _, [], _, _, .nil => by unfold toPys; exact .nil
  | n, x :: r, _, h, .cons a t => by
    unfold okDs at h
    rw [Bool.and_eq_true] at h
    unfold toPys
    exact .cons (dp_of e n x _ h.1 a) (dps_of e n r _ h.2 t)
end
theorem shaped_of {d : D} (h : okD 50 d = true) : SeqAt.shaped (toPy d) = true := by
  obtain ⟨h1, h2⟩ := lay_of 50 d h
  unfold SeqAt.shaped
  rw [Bool.and_eq_true]
  exact ⟨h1, decide_eq_true (by omega)⟩
theorem scal_of {F : Hp} {x y : V} {a b : D} (hs : DL.scal a b = true) (h1 : Is G F x a) (h2 : Is G F y b) : L2.scal x y = true ∧ decide (x = y) = eqD a b := by
  cases h1 <;> cases h2 <;> first
    | (simp [DL.scal] at hs; done)
    | (refine ⟨rfl, ?_⟩; simp only [eqD]; rw [Bool.eq_iff_iff]; simp)
/-! a dict and a tuple -/
theorem dict_of {F : Hp} {r : Pl} {S : Store} {H : Hp} {pins : List (Addr × Obj)} {σ : L2.St} {s : Shared} {v : V} {kvs : List (Str × D)} (hK : X.K = G.K) (I : Inv X pins σ H s) (R : Rp G F r S H) (h : Is G F v (.map kvs)) : ∃ a o, v = .ref a ∧ s.heap.get? a = some o ∧ o.cls = .type "dict" := by
  cases h with
  | map e t =>
    obtain ⟨hz, hS, vs, r, dd⟩ := I.hok _ _ (R.sub _ _ e)
    obtain ⟨o, h1, h2⟩ := dd.typeIs
    exact ⟨_, o, rfl, h1, h2⟩
  | kmp k =>
    obtain ⟨es, n, kd, k⟩ := k
    exact ⟨_, _, rfl, I.kIn _ _ (by rw [hK]; exact kd.at_), rfl⟩
theorem tup_eq_declines (l b : Addr) (items : Array Value) (n : Nat) (dd : Option Addr) (sl : Array (Option Value)) (o : Obj) :
    Meets (Builtin.«tuple.__eq__» ⟨[.ref l, .ref b], []⟩) (fun _ R s => s.heap.get? l = some { cls := .type "tuple", dict := dd, data := .seq items n, slots := sl } ∧ s.heap.get? b = some { o with cls := .type "dict" } ∧ R (.ok (.ret .notImplemented)) s) :=
  .of_wp fun prog w A R s h => by
    obtain ⟨hp, g, d, tk, os⟩ := s
    obtain ⟨hl, hb, h⟩ := h
    have f1 := F.sub_dict_tuple
    wp_walk using AutoSeq1.wpAny_loadPart' hl, AutoSeq1.wpAny_loadPart' hb
    exact ⟨_, rfl, h⟩
theorem tup_ne_declines (l b : Addr) (items : Array Value) (n : Nat) (dd : Option Addr) (sl : Array (Option Value)) (o : Obj) :
    Meets (Builtin.«tuple.__ne__» ⟨[.ref l, .ref b], []⟩) (fun _ R s => s.heap.get? l = some { cls := .type "tuple", dict := dd, data := .seq items n, slots := sl } ∧ s.heap.get? b = some { o with cls := .type "dict" } ∧ R (.ok (.ret .notImplemented)) s) :=
  .of_wp fun prog w A R s h => by
    obtain ⟨hp, g, d, tk, os⟩ := s
    obtain ⟨hl, hb, h⟩ := h
    have f1 := F.sub_dict_tuple
    wp_walk using AutoSeq1.wpAny_loadPart' hl, AutoSeq1.wpAny_loadPart' hb
    exact ⟨_, rfl, h⟩
section
variable {P : Program} {w : World} {A : Around} {E : Value → Shared → Prop} {s : Shared} {a b : Addr} {o : Obj} {items : Array Value} {Q : Value → Shared → Prop}
theorem dict_eq_no (ha : s.heap.get? a = some o) (hc : o.cls = .type "dict") (hb : s.TypeIs (.ref b) "tuple") (q : Q .notImplemented s) : wpAny (model P w) A (call (.builtin "dict.__eq__") [.ref a, .ref b]) Q E s := by
  have hT : s.TypeIs (.ref a) "dict" := ⟨o, ha, hc⟩
  refine wpAny_call_entry PySem.F.slot_dict_eq hT PySem.F.entry_dict_eq ?_ (PySem.F.args_dict_eq_2 _ _)
  show wpAny _ _ (Builtin.Dict.dictSlotArgs "__eq__" ⟨[.ref a, .ref b], []⟩ >>= _) _ _ s
  refine wpAny_bind ?_
  unfold Builtin.Dict.dictSlotArgs
  refine wpAny_bind (wpAny_notOrdered_dict hT ?_)
  show wpAny _ _ (pure (Value.ref a, Value.ref b)) _ _ s
  refine wpAny_pure ?_
  refine wpAny_bind (wpAny_isInstance (T := "tuple") hb PySem.F.sub_tuple_dict ?_)
  simp only [Bool.not_false, if_true]
  exact wpAny_bind (wpAny_rule (wpAny_pure ⟨_, rfl, q⟩))
theorem dict_ne_no (ha : s.heap.get? a = some o) (hc : o.cls = .type "dict") (hb : s.TypeIs (.ref b) "tuple") (q : Q .notImplemented s) : wpAny (model P w) A (call (.builtin "dict.__ne__") [.ref a, .ref b]) Q E s := by
  have hT : s.TypeIs (.ref a) "dict" := ⟨o, ha, hc⟩
  refine wpAny_call_entry PySem.F.slot_dict_ne hT PySem.F.entry_dict_ne ?_ (PySem.F.args_dict_ne_2 _ _)
  show wpAny _ _ (Builtin.Dict.dictSlotArgs "__ne__" ⟨[.ref a, .ref b], []⟩ >>= _) _ _ s
  refine wpAny_bind ?_
  unfold Builtin.Dict.dictSlotArgs
  refine wpAny_bind (wpAny_notOrdered_dict hT ?_)
  show wpAny _ _ (pure (Value.ref a, Value.ref b)) _ _ s
  refine wpAny_pure ?_
  refine wpAny_bind (wpAny_isInstance (T := "tuple") hb PySem.F.sub_tuple_dict ?_)
  simp only [Bool.not_false, if_true]
  exact wpAny_bind (wpAny_rule (wpAny_pure ⟨_, rfl, q⟩))
theorem ne_dt (ha : s.heap.get? a = some o) (hc : o.cls = .type "dict") (hb : s.heap.IsTuple b items) : a ≠ b := fun e => by
  subst e
  obtain ⟨o2, ho2, hc2, _⟩ := hb
  rw [ha] at ho2
  cases ho2
  rw [hc] at hc2
  exact absurd hc2 (by simp)
theorem rc_dt (ha : s.heap.get? a = some o) (hc : o.cls = .type "dict") (hb : s.heap.IsTuple b items) (hu : A.units < cLine) (q : Q (.bool false) s) : wpAny (model P w) A (richCompare .Eq (.ref a) (.ref b)) Q E s := by
  have hne := ne_dt ha hc hb
  obtain ⟨⟨cls2, dd2, data2, sl2⟩, ho2, hc2, n2, hd2⟩ := id hb
  simp only at hc2 hd2
  subst hc2 hd2
  have ha' : s.heap.get? a = some { o with cls := .type "dict" } := by rw [ha, ← hc]
  exact SeqAt.rc_eq_decline_or (k := false) (Ta := "dict") (Tb := "tuple") ⟨_, ha, hc⟩ ⟨_, ho2, rfl⟩ (by decide) F.sub_tuple_dict F.slot_dict_eq F.slot_tuple_eq_refl
    (fun _ hq => dict_eq_no ha hc ⟨_, ho2, rfl⟩ hq)
    (fun _ hq => call_meets F.slot_tuple_eq_refl ⟨_, ho2, rfl⟩ F.entry_tuple_eq (F.args_tuple_eq_2 _ _) (tup_eq_declines b a items n2 dd2 sl2 o) ⟨ho2, ha', hq⟩)
    (fun _ hq => wpAny_isSame_ref_other hne ha ho2 (by rw [hc]; simp) hq) (.inr hu) q
theorem rn_dt (ha : s.heap.get? a = some o) (hc : o.cls = .type "dict") (hb : s.heap.IsTuple b items) (hu : A.units < cLine) (q : Q (.bool true) s) : wpAny (model P w) A (richCompare .NotEq (.ref a) (.ref b)) Q E s := by
  have hne := ne_dt ha hc hb
  obtain ⟨⟨cls2, dd2, data2, sl2⟩, ho2, hc2, n2, hd2⟩ := id hb
  simp only at hc2 hd2
  subst hc2 hd2
  have ha' : s.heap.get? a = some { o with cls := .type "dict" } := by rw [ha, ← hc]
  exact SeqAt.rc_ne_decline_or (k := false) (Ta := "dict") (Tb := "tuple") ⟨_, ha, hc⟩ ⟨_, ho2, rfl⟩ (by decide) F.sub_tuple_dict F.slot_dict_ne F.slot_tuple_ne_refl
    (fun _ hq => dict_ne_no ha hc ⟨_, ho2, rfl⟩ hq)
    (fun _ hq => call_meets F.slot_tuple_ne_refl ⟨_, ho2, rfl⟩ F.entry_tuple_ne (F.args_tuple_ne_2 _ _) (tup_ne_declines b a items n2 dd2 sl2 o) ⟨ho2, ha', hq⟩)
    (fun _ hq => wpAny_isSame_ref_other hne ha ho2 (by rw [hc]; simp) hq) (.inr hu) q
end
/-- a dict and a tuple, b their answer -/
def rDT (G : Gx) (b : Bool) : R2 := fun x y H Q => ∃ F r S kvs l, Rp G F r S H ∧ Is G F x (.map kvs) ∧ Is G F y (.tup l) ∧ Q (.bl b) H
theorem op_dt (hK : X.K = G.K) (hu : X.A.units + 64 < cLine) : OpR X (compareOp .Eq) (rDT G false) := by
  intro pins s σ H x y v u Q I rx ry h
  obtain ⟨F, r, S, kvs, l, R, h1, h2, q⟩ := h
  obtain ⟨a, o, rfl, ho, hc⟩ := dict_of hK I R h1
  obtain ⟨b, ys, rfl, hb, tb⟩ := rp_tups R h2
  cases rx
  cases ry
  obtain ⟨its, r, hT, hs⟩ := I.tuple (by rw [hK]; exact hb)
  exact rc_dt ho hc hT (by omega) ⟨.bl false, H, I, rfl, q⟩
theorem op_dtn (hK : X.K = G.K) (hu : X.A.units + 64 < cLine) : OpR X (compareOp .NotEq) (rDT G true) := by
  intro pins s σ H x y v u Q I rx ry h
  obtain ⟨F, r, S, kvs, l, R, h1, h2, q⟩ := h
  obtain ⟨a, o, rfl, ho, hc⟩ := dict_of hK I R h1
  obtain ⟨b, ys, rfl, hb, tb⟩ := rp_tups R h2
  cases rx
  cases ry
  obtain ⟨its, r, hT, hs⟩ := I.tuple (by rw [hK]; exact hb)
  exact rn_dt ho hc hT (by omega) ⟨.bl true, H, I, rfl, q⟩
theorem eqC_cases {a b : D} {k : Bool} (h : eqC a b = some k) : (DL.scal a b = true ∧ k = eqD a b) ∨ (okD 50 a = true ∧ okD 50 b = true ∧ k = eqD a b) ∨ (k = false ∧ ∃ kvs l, a = .map kvs ∧ b = .tup l) := by
  unfold eqC at h
  split at h
  · rename_i c
    cases h
    rw [Bool.or_eq_true, Bool.and_eq_true] at c
    rcases c with c | c
    · exact .inl ⟨c, rfl⟩
    · exact .inr (.inl ⟨c.1, c.2, rfl⟩)
  · split at h
    · rename_i c
      cases h
      unfold mapTup at c
      split at c
      · exact .inr (.inr ⟨rfl, _, _, rfl, rfl⟩)
      · cases c
    · cases h
theorem or_eq (hK : X.K = G.K) (hu : X.A.units + 64 < cLine) : OpR X (compareOp .Eq) (rD2B G eqC) := by
  refine opr_imp (OpR.or op_eq (OpR.or (op_eqD hu) (op_dt hK hu))) fun x y H Q h => ?_
  obtain ⟨F, r, S, d1, d2, d, R, h1, h2, hg, q⟩ := h
  rw [Option.map_eq_some_iff] at hg
  obtain ⟨k, hg, rfl⟩ := hg
  rcases eqC_cases hg with ⟨c, rfl⟩ | ⟨c1, c2, rfl⟩ | ⟨rfl, kvs, l, rfl, rfl⟩
  · obtain ⟨a1, a2⟩ := scal_of c h1 h2
    exact .inl ⟨a1, by rw [a2]; exact q F _ H (Same.refl F) R (.bl _)⟩
  · refine .inr (.inl ⟨toPy d1, toPy d2, ?_, ?_, shaped_of c1, shaped_of c2, ?_⟩)
    · rw [hK]; exact dp_of R.sub 50 d1 x c1 h1
    · rw [hK]; exact dp_of R.sub 50 d2 y c2 h2
    · rw [eqv_of 50 50 d1 d2 c1 c2]; exact q F _ H (Same.refl F) R (.bl _)
  · exact .inr (.inr ⟨F, r, S, kvs, l, R, h1, h2, q F _ H (Same.refl F) R (.bl _)⟩)
theorem or_ne (hK : X.K = G.K) (hu : X.A.units + 64 < cLine) : OpR X (compareOp .NotEq) (rD2B G fun a b => (eqC a b).map (!·)) := by
  refine opr_imp (OpR.or op_ne (OpR.or (op_neD hu) (op_dtn hK hu))) fun x y H Q h => ?_
  obtain ⟨F, r, S, d1, d2, d, R, h1, h2, hg, q⟩ := h
  simp only [Option.map_map, Option.map_eq_some_iff, Function.comp] at hg
  obtain ⟨k, hg, rfl⟩ := hg
  rcases eqC_cases hg with ⟨c, rfl⟩ | ⟨c1, c2, rfl⟩ | ⟨rfl, kvs, l, rfl, rfl⟩
  · obtain ⟨a1, a2⟩ := scal_of c h1 h2
    exact .inl ⟨a1, by rw [a2]; exact q F _ H (Same.refl F) R (.bl _)⟩
  · refine .inr (.inl ⟨toPy d1, toPy d2, ?_, ?_, shaped_of c1, shaped_of c2, ?_⟩)
    · rw [hK]; exact dp_of R.sub 50 d1 x c1 h1
    · rw [hK]; exact dp_of R.sub 50 d2 y c2 h2
    · rw [eqv_of 50 50 d1 d2 c1 c2]; exact q F _ H (Same.refl F) R (.bl _)
  · exact .inr (.inr ⟨F, r, S, kvs, l, R, h1, h2, q F _ H (Same.refl F) R (.bl _)⟩)
theorem or_int {op : CmpOp} {f : Int → Int → Bool} (h : OpR X (compareOp op) (rI0 fun i j => .bl (f i j))) : OpR X (compareOp op) (rD2B G (intC f)) := by
  refine opr_imp h fun x y H Q h => ?_
  obtain ⟨F, r, S, d1, d2, d, R, h1, h2, hg, q⟩ := h
  unfold intC at hg
  cases d1 <;> cases d2 <;> first | (simp at hg; done) | skip
  simp at hg
  subst hg
  cases h1; cases h2
  exact ⟨_, _, rfl, rfl, q F _ H (Same.refl F) R (.bl _)⟩
theorem or_is : OpR X (compareOp .Is) (rD2B G (cmpD .is)) := by
  refine opr_imp op_isN fun x y H Q h => ?_
  obtain ⟨F, r, S, d1, d2, d, R, h1, h2, hg, q⟩ := h
  cases d2 <;> first | (simp [cmpD] at hg; done) | skip
  cases h2
  refine ⟨rfl, ?_⟩
  have e : d = .bl (decide (x = V.non)) := by
    simp only [cmpD, Option.map_some, Option.some.injEq] at hg
    rw [← hg]
    cases h1 <;> simp
  subst e
  exact q F _ H (Same.refl F) R (.bl _)
theorem or_isn : OpR X (compareOp .IsNot) (rD2B G (cmpD .isn)) := by
  refine opr_imp op_notN fun x y H Q h => ?_
  obtain ⟨F, r, S, d1, d2, d, R, h1, h2, hg, q⟩ := h
  cases d2 <;> first | (simp [cmpD] at hg; done) | skip
  cases h2
  refine ⟨rfl, ?_⟩
  have e : d = .bl (!decide (x = V.non)) := by
    simp only [cmpD, Option.map_some, Option.some.injEq] at hg
    rw [← hg]
    cases h1 <;> simp
  subst e
  exact q F _ H (Same.refl F) R (.bl _)
end
end DL

/-! Membership, subscripts, slices, built-in calls over data. -/
namespace DL
open PySem PySem.Spec L2
set_option autoImplicit false
section
variable {G : Gx} {X : Cx}

/-! ### in -/
theorem flat_of {F : Hp} {v : V} {d : D} (h : flat d = true) (q : Is G F v d) : flatV v = true := by
  cases q <;> first | rfl | (simp [flat] at h; done)
theorem flats_of {F : Hp} : ∀ {vs : List V} {l : List D}, l.all flat = true → IsL G F vs l → vs.all flatV = true
  | _, [], _, .nil => rfl
  | _, x :: r, h, .cons a t => by
    rw [List.all_cons, Bool.and_eq_true] at h
    rw [List.all_cons, Bool.and_eq_true]
    exact ⟨flat_of h.1 a, flats_of h.2 t⟩
theorem eqV_of {F : Hp} {v w : V} {a b : D} (ha : flat a = true) (hb : flat b = true) (h1 : Is G F v a) (h2 : Is G F w b) : eqV v w = eqD a b := by
  cases h1 <;> cases h2 <;> first
    | (simp [flat] at ha; done)
    | (simp [flat] at hb; done)
    | (simp only [eqV, eqD]; done)
    | (simp only [eqV, eqD]; rw [Bool.eq_iff_iff]; simp)
theorem inV_of {F : Hp} {v : V} {a : D} (ha : flat a = true) (h1 : Is G F v a) : ∀ {vs : List V} {l : List D}, l.all flat = true → IsL G F vs l → inV v vs = l.any fun z => eqD z a
  | _, [], _, .nil => rfl
  | _, x :: r, h, .cons q t => by
    rw [List.all_cons, Bool.and_eq_true] at h
    unfold inV
    rw [List.any_cons, List.any_cons, eqV_of h.1 ha q h1]
    exact congrArg _ (inV_of ha h1 h.2 t)
/-- in a dict -/
def rInM (K : PySem.W.Frag) (w : World) (neg : Bool) : R2 := fun x y H Q => ∃ (z : Str) (p : Addr) (b : Bool), x = .str z ∧ y = .ref p ∧
  ((∃ kvs, H p = some (.dK kvs) ∧ b = (valV kvs (.inr z)).isSome) ∨ ∃ es n r, KDict K w p es n ∧ PySem.W.nsIn K p z = some r ∧ b = r.isSome) ∧ Q (.bl (if neg then !b else b)) H
theorem op_in_map (hu : X.A.units + 1 < cLine) : OpR X (compareOp .In) (rInM X.K X.w false) := by
  intro pins s σ H x y v u Q I rx ry h
  obtain ⟨z, p, b, rfl, rfl, h, q⟩ := h
  rcases h with ⟨kvs, e, rfl⟩ | ⟨es, n, r, k, e, rfl⟩
  · cases ry
    exact d_in hu I (DGet.k (k := Sum.inr z) e) rx fun s' I' => ⟨.bl _, H, I', rfl, q⟩
  · exact op_in_kd k pins s σ H _ _ v u Q I rx ry ⟨z, r, rfl, rfl, e, q⟩
theorem op_nin_map (hu : X.A.units + 1 < cLine) : OpR X (compareOp .NotIn) (rInM X.K X.w true) := by
  intro pins s σ H x y v u Q I rx ry h
  obtain ⟨z, p, b, rfl, rfl, h, q⟩ := h
  rcases h with ⟨kvs, e, rfl⟩ | ⟨es, n, r, k, e, rfl⟩
  · cases ry
    exact d_notIn hu I (DGet.k (k := Sum.inr z) e) rx fun s' I' => ⟨.bl _, H, I', rfl, q⟩
  · exact op_notIn_kd k pins s σ H _ _ v u Q I rx ry ⟨z, r, rfl, rfl, e, q⟩
theorem mem_cases {neg : Bool} (hK : X.K = G.K) (hw : X.w = G.w) {x y : V} {H : Hp} {Q : VK} (h : rD2B G (fun a b => (memD a b).map fun z => if neg then !z else z) x y H Q) : rIn X.K neg x y H Q ∨ rInM X.K X.w neg x y H Q := by
  obtain ⟨F, r, S, d1, d2, d, R, h1, h2, hg, q⟩ := h
  cases d2 with
  | tup l =>
    simp only [memD] at hg
    cases c : (flat d1 && l.all flat) with
    | false => rw [c] at hg; simp at hg
    | true =>
      rw [c] at hg
      simp at hg
      subst hg
      rw [Bool.and_eq_true] at c
      obtain ⟨a, xs, rfl, ha, ta⟩ := rp_tups R h2
      refine .inl ⟨a, xs, rfl, .inr (by rw [hK]; exact ha), flat_of c.1 h1, flats_of c.2 ta, ?_⟩
      rw [inV_of c.1 h1 c.2 ta]
      exact q F _ H (Same.refl F) R (.bl _)
  | lst l =>
    simp only [memD] at hg
    cases c : (flat d1 && l.all flat) with
    | false => rw [c] at hg; simp at hg
    | true =>
      rw [c] at hg
      simp at hg
      subst hg
      rw [Bool.and_eq_true] at c
      obtain ⟨a, xs, rfl, ha, ta⟩ := rp_lists R h2
      refine .inl ⟨a, xs, rfl, .inl (SqL.of ha), flat_of c.1 h1, flats_of c.2 ta, ?_⟩
      rw [inV_of c.1 h1 c.2 ta]
      exact q F _ H (Same.refl F) R (.bl _)
  | map kvs =>
    cases d1 <;> first | (simp [memD] at hg; done) | skip
    rename_i z
    simp [memD] at hg
    subst hg
    cases h1
    cases h2 with
    | map e t =>
      refine .inr ⟨z, _, _, rfl, rfl, .inl ⟨_, R.sub _ _ e, rfl⟩, ?_⟩
      rcases t.look (x := z) with ⟨v, d, e1, e2, _⟩ | ⟨e1, e2⟩
      · rw [e1]; rw [e2] at q; exact q F _ H (Same.refl F) R (.bl _)
      · rw [e1]; rw [e2] at q; exact q F _ H (Same.refl F) R (.bl _)
    | kmp k =>
      obtain ⟨es, n, kd, k⟩ := k
      have k := k z
      cases e : kvs.lookup z with
      | none =>
        rw [e] at k q
        exact .inr ⟨z, _, _, rfl, rfl, .inr ⟨es, n, none, by rw [hK, hw]; exact kd, by rw [hK]; exact k, rfl⟩, q F _ H (Same.refl F) R (.bl _)⟩
      | some d =>
        rw [e] at k q
        cases d <;> first | exact k.elim | skip
        obtain ⟨t, k⟩ := k
        exact .inr ⟨z, _, _, rfl, rfl, .inr ⟨es, n, some _, by rw [hK, hw]; exact kd, by rw [hK]; exact k, rfl⟩, q F _ H (Same.refl F) R (.bl _)⟩
  | _ => simp [memD] at hg
theorem or_in (hK : X.K = G.K) (hw : X.w = G.w) (hu : X.A.units + 64 < cLine) : OpR X (compareOp .In) (rD2B G memD) :=
  opr_imp (OpR.or op_in_seq (op_in_map (by omega))) fun x y H Q h => mem_cases (neg := false) hK hw (by
    obtain ⟨F, r, S, d1, d2, d, R, h1, h2, hg, q⟩ := h
    refine ⟨F, r, S, d1, d2, d, R, h1, h2, ?_, q⟩
    simp only at hg ⊢
    rw [← hg]
    cases memD d1 d2 <;> rfl)
theorem or_nin (hK : X.K = G.K) (hw : X.w = G.w) (hu : X.A.units + 64 < cLine) : OpR X (compareOp .NotIn) (rD2B G fun a b => (memD a b).map (!·)) :=
  opr_imp (OpR.or op_notIn_seq (op_nin_map (by omega))) fun x y H Q h => mem_cases (neg := true) hK hw h
/-- every comparison -/
def opC : Cop → CmpOp
  | .eq => .Eq | .ne => .NotEq | .lt => .Lt | .le => .LtE | .gt => .Gt | .ge => .GtE | .mem => .In | .nmem => .NotIn | .is => .Is | .isn => .IsNot
theorem or_cmp (hK : X.K = G.K) (hw : X.w = G.w) (hu : X.A.units + 64 < cLine) : ∀ o : Cop, OpR X (compareOp (opC o)) (rD2B G (cmpD o))
  | .eq => or_eq hK hu
  | .ne => or_ne hK hu
  | .lt => or_int op_lt
  | .le => or_int op_le
  | .gt => or_int op_gt
  | .ge => or_int op_ge
  | .mem => or_in hK hw hu
  | .nmem => or_nin hK hw hu
  | .is => or_is
  | .isn => or_isn
end

/-! ### subscripts -/
section
variable {G : Gx} {X : Cx}
theorem plc_eq (n : Nat) (i : Int) : plc n i = ixN n i := rfl
theorem at_is {F : Hp} {vs : List V} {l : List D} {i : Int} {d : D} (h : IsL G F vs l) (e : at_ l i = some d) : ∃ v, atI vs i = some v ∧ Is G F v d := by
  unfold at_ at e
  unfold atI
  rw [h.length, ← plc_eq]
  cases q : plc l.length i with
  | none => rw [q] at e; cases e
  | some j =>
    rw [q] at e
    exact h.get e
theorem ixr_imp {t t' : R2} (h : IxR X t) (k : ∀ x y H Q, t' x y H Q → t x y H Q) : IxR X t' := fun a b pins s σ H x y v u Q I rx ry q hs => h a b pins s σ H x y v u Q I rx ry (k x y H Q q) hs
/-- d[k] of a dict that is tracked -/
def rIxM : R2 := fun x y H Q => ∃ (p : Addr) (z : Str) (kvs : List (Key × V)) (v : V), x = .ref p ∧ y = .str z ∧ H p = some (.dK kvs) ∧ valV kvs (.inr z) = some v ∧ Q v H
theorem ix_map (hu : X.A.units + 1 < cLine) : IxR X rIxM := by
  intro a b pins s σ H x y v u Q I rx ry h hs
  obtain ⟨p, z, kvs, w, rfl, rfl, e, l, q⟩ := h
  cases rx
  obtain ⟨hz, hS, vs, r, dd⟩ : kvs.length ≤ sizeLine ∧ (p == sysModules) = false ∧ ∃ vs, KV kvs vs ∧ s.heap.DictOf (mixKind X.prog X.w) p vs := I.hok p _ e
  refine PyProof.Rows.tail_any dd.mapOf.typeIs PySem.slot_dict_getitem.lookup ?_ hs
  exact d_getItem hu I (DGet.k (k := Sum.inr z) e |> fun q => by rw [l] at q; exact q) ry fun w' s' I' r' => ⟨w, H, I', r', q⟩
theorem or_ix (hK : X.K = G.K) (hw : X.w = G.w) (hu : X.A.units + 64 < cLine) : IxR X (rD2 G ixD) := by
  refine ixr_imp (IxR.or ix_list (IxR.or ix_tup (IxR.or (ix_map (by omega)) ix_kdict))) fun x y H Q h => ?_
  obtain ⟨F, r, S, d1, d2, d, R, h1, h2, hg, q⟩ := h
  unfold ixD at hg
  split at hg
  all_goals first | contradiction | skip
  · obtain ⟨a, xs, rfl, ha, ta⟩ := rp_tups R h1
    obtain ⟨v, e, i⟩ := at_is ta hg
    cases h2
    exact .inr (.inl ⟨a, xs, _, v, rfl, rfl, by rw [hK]; exact ha, e, q F _ H (Same.refl F) R i⟩)
  · obtain ⟨a, xs, rfl, ha, ta⟩ := rp_lists R h1
    obtain ⟨v, e, i⟩ := at_is ta hg
    cases h2
    exact .inl ⟨a, xs, _, v, rfl, rfl, SqL.of ha, e, q F _ H (Same.refl F) R i⟩
  · rename_i kvs z
    cases h2
    cases h1 with
    | map e t =>
      rcases t.look (x := z) with ⟨v, d', e1, e2, i⟩ | ⟨e1, e2⟩
      · rw [e2] at hg; cases hg
        exact .inr (.inr (.inl ⟨_, z, _, v, rfl, rfl, R.sub _ _ e, e1, q F _ H (Same.refl F) R i⟩))
      · rw [e2] at hg; cases hg
    | kmp k =>
      obtain ⟨es, n, kd, k⟩ := k
      have k := k z
      rw [hg] at k
      cases d <;> first | exact k.elim | skip
      obtain ⟨t, k⟩ := k
      exact .inr (.inr (.inr ⟨_, z, .int _, rfl, rfl, ⟨es, n, _, by rw [hK]; exact kd.at_, by rw [hw]; exact kd.lit, by rw [hK]; exact k, ⟨_, rfl⟩⟩, q F _ H (Same.refl F) R (.int _)⟩))

/-! ### slices -/
def rD1S (G : Gx) (g : D → Option Int → Option Int → Option D) : V → Option Int → Option Int → Hp → VK → Prop := fun x lo hi H Q => ∃ F r S d1 d, Rp G F r S H ∧ Is G F x d1 ∧ g d1 lo hi = some d ∧ ∀ F' v H', Same F F' → Rp G F' r S H' → Is G F' v d → Q v H'
theorem clip_eq (n d : Nat) (o : Option Int) : clip n d o = HT.sIx n d o := by cases o <;> rfl
theorem cut_is {F : Hp} {vs : List V} {l : List D} (lo hi : Option Int) (h : IsL G F vs l) : IsL G F (cutV vs lo hi) (cut l lo hi) := by
  unfold cutV cut
  rw [clip_eq, clip_eq, h.length]
  exact (h.drop _).take _
theorem slr_imp {t t' : V → Option Int → Option Int → Hp → VK → Prop} (h : SlR X t) (k : ∀ x lo hi H Q, t' x lo hi H Q → t x lo hi H Q) : SlR X t' := fun pins s σ H x v vl vu lo hi sl Q I rx hs pl pu q => h pins s σ H x v vl vu lo hi sl Q I rx hs pl pu (k x lo hi H Q q)
theorem cut_all {A : Type} {l : List A} {lo hi : Option Int} (h1 : clip l.length 0 lo = 0) (h2 : clip l.length l.length hi = l.length) : cut l lo hi = l := by
  unfold cut
  rw [h1, h2]
  simp
theorem or_sl (hK : X.K = G.K) : SlR X (rD1S G slD) := by
  refine slr_imp (SlR.or sl_list (SlR.or sl_tupA sl_str)) fun x lo hi H Q h => ?_
  obtain ⟨F, r, S, d1, d, R, h1, hg, q⟩ := h
  unfold slD at hg
  split at hg
  all_goals first | contradiction | skip
  · cases hg
    obtain ⟨a, xs, rfl, ha, ta⟩ := rp_tups R h1
    refine .inr (.inl ⟨a, xs, rfl, by rw [hK]; exact ha, fun ⟨e1, e2⟩ => ?_, fun _ p hp => ?_⟩)
    · rw [cut_all (by rw [clip_eq, ← ta.length]; exact e1) (by rw [clip_eq, ← ta.length]; exact e2)] at q
      exact q F _ H (Same.refl F) R h1
    · obtain ⟨R1, s1, i1⟩ := new_tup R hp (cut_is lo hi ta)
      exact q _ _ _ s1 R1 i1
  · cases hg
    obtain ⟨a, xs, rfl, ha, ta⟩ := rp_lists R h1
    refine .inl ⟨a, xs, rfl, SqL.of ha, fun p hp => ?_⟩
    obtain ⟨R1, s1, i1⟩ := new_lst R hp (cut_is lo hi ta)
    exact q _ _ _ s1 R1 i1
  · rename_i z
    split at hg
    · rename_i hl
      cases hg; cases h1
      refine .inr (.inr ⟨_, rfl, by rw [sizeLine_eq]; exact hl, ?_⟩)
      refine q F _ H (Same.refl F) R ?_
      have e : cutS z lo hi = (⟨(cut z.cps.toList lo hi).toArray⟩ : Str) := by
        unfold cutS cut
        rw [clip_eq, clip_eq]
        simp only [Array.length_toList]
        rfl
      rw [e]; exact .str _
    · cases hg
end
end DL

/-! Built-in calls over data. -/
namespace DL
open PySem PySem.Spec L2
set_option autoImplicit false
section
variable {G : Gx} {X : Cx}
/-- values in, data out -/
def rBi (G : Gx) (g : List U → Store → Option D) : List V → Hp → VK → Prop := fun xs H Q => ∃ F r S us d, Rp G F r S H ∧ Paired (IsU G F r) xs us ∧ g us S = some d ∧ ∀ F' v H', Same F F' → Rp G F' r S H' → Is G F' v d → Q v H'
theorem callr_imp {f : Value} {t t' : List V → Hp → VK → Prop} (h : CallR X f t) (k : ∀ xs H Q, t' xs H Q → t xs H Q) : CallR X f t' := fun pins s σ H xs us Q I r q => h pins s σ H xs us Q I r (k xs H Q q)
theorem one_d {F : Hp} {r : Pl} {xs : List V} {u : U} (h : Paired (IsU G F r) xs [u]) : ∃ x, xs = [x] ∧ IsU G F r x u := by
  cases h with
  | cons h t => cases t; exact ⟨_, rfl, h⟩
theorem lst1_is {F : Hp} {r : Pl} : ∀ {xs : List V} {us : List U} {l : List D}, Paired (IsU G F r) xs us → lst1 us = some l → IsL G F xs l
  | _, [], l, .nil, e => by simp [lst1] at e; subst e; exact .nil
  | _, .d d :: us, l, .cons h t, e => by
    simp only [lst1, Option.map_eq_some_iff] at e
    obtain ⟨m, e1, e2⟩ := e
    subst e2
    cases h with
    | d h => exact .cons h (lst1_is t e1)
  | _, .loc n :: us, l, .cons h t, e => by simp [lst1] at e
theorem lst1_map : ∀ l : List D, lst1 (l.map U.d) = some l
  | [] => rfl
  | x :: r => by simp [lst1, lst1_map r]
theorem intsOf_is {F : Hp} : ∀ {vs : List V} {l : List D} {ns : List Int}, IsL G F vs l → intsOf l = some ns → vs = ns.map V.int
  | _, [], ns, .nil, e => by simp [intsOf] at e; subst e; rfl
  | _, d :: l, ns, .cons h t, e => by
    cases d <;> first | (simp [intsOf] at e; done) | skip
    simp only [intsOf, Option.map_eq_some_iff] at e
    obtain ⟨m, e1, e2⟩ := e
    subst e2
    cases h
    rw [intsOf_is t e1]; rfl
theorem blsOf_is {F : Hp} : ∀ {vs : List V} {l : List D} {ns : List Bool}, IsL G F vs l → blsOf l = some ns → vs = ns.map V.bl
  | _, [], ns, .nil, e => by simp [blsOf] at e; subst e; rfl
  | _, d :: l, ns, .cons h t, e => by
    cases d <;> first | (simp [blsOf] at e; done) | skip
    simp only [blsOf, Option.map_eq_some_iff] at e
    obtain ⟨m, e1, e2⟩ := e
    subst e2
    cases h
    rw [blsOf_is t e1]; rfl
theorem strsOf_is {F : Hp} : ∀ {vs : List V} {l : List D} {ns : List Str}, IsL G F vs l → strsOf l = some ns → vs = ns.map V.str
  | _, [], ns, .nil, e => by simp [strsOf] at e; subst e; rfl
  | _, d :: l, ns, .cons h t, e => by
    cases d <;> first | (simp [strsOf] at e; done) | skip
    simp only [strsOf, Option.map_eq_some_iff] at e
    obtain ⟨m, e1, e2⟩ := e
    subst e2
    cases h
    rw [strsOf_is t e1]; rfl
theorem maxI_is : ∀ {ns : List Int} {m : Int}, maxI ns = some m → m ∈ ns ∧ ∀ y ∈ ns, y ≤ m
  | [], m, e => by cases e
  | [a], m, e => by simp [maxI] at e; subst e; simp
  | a :: b :: r, m, e => by
    simp only [maxI, Option.map_eq_some_iff] at e
    obtain ⟨k, e1, e2⟩ := e
    obtain ⟨h1, h2⟩ := maxI_is e1
    split at e2
    · subst e2
      refine ⟨List.mem_cons_of_mem _ h1, fun y hy => ?_⟩
      rcases List.mem_cons.mp hy with q | q
      · subst q; omega
      · exact h2 y q
    · subst e2
      refine ⟨List.mem_cons_self, fun y hy => ?_⟩
      rcases List.mem_cons.mp hy with q | q
      · subst q; exact Int.le_refl _
      · have := h2 y q; omega
theorem minI_is : ∀ {ns : List Int} {m : Int}, minI ns = some m → m ∈ ns ∧ ∀ y ∈ ns, m ≤ y
  | [], m, e => by cases e
  | [a], m, e => by simp [minI] at e; subst e; simp
  | a :: b :: r, m, e => by
    simp only [minI, Option.map_eq_some_iff] at e
    obtain ⟨k, e1, e2⟩ := e
    obtain ⟨h1, h2⟩ := minI_is e1
    split at e2
    · subst e2
      refine ⟨List.mem_cons_of_mem _ h1, fun y hy => ?_⟩
      rcases List.mem_cons.mp hy with q | q
      · subst q; omega
      · exact h2 y q
    · subst e2
      refine ⟨List.mem_cons_self, fun y hy => ?_⟩
      rcases List.mem_cons.mp hy with q | q
      · subst q; exact Int.le_refl _
      · have := h2 y q; omega
/-- a list of data, or one that may still change -/
theorem biU_cases {b : Bi} {us : List U} {S : Store} {d : D} {F : Hp} {r : Pl} {H : Hp} {xs : List V} (R : Rp G F r S H) (h : Paired (IsU G F r) xs us) (e : biU b us S = some d) :
    (∃ l, IsL G F xs l ∧ biD b l = some d) ∨ ∃ a ys l, xs = [.ref a] ∧ H a = some (.lst ys) ∧ IsL G F ys l ∧ ((b = .len ∧ d = .int l.length) ∨ (b = .tuple ∧ d = .tup l)) := by
  unfold biU at e
  cases q : lst1 us with
  | some l => rw [q] at e; exact .inl ⟨l, lst1_is h q, e⟩
  | none =>
    rw [q] at e
    simp only at e
    split at e
    · rename_i n
      split at e
      · rename_i l hl
        cases e
        obtain ⟨x, rfl, hx⟩ := one_d h
        cases hx with
        | loc hr =>
          obtain ⟨ys, h1, h2⟩ := R.list hr hl
          exact .inr ⟨_, ys, l, rfl, h1, h2, .inl ⟨rfl, rfl⟩⟩
      · cases e
    · rename_i n
      split at e
      · rename_i l hl
        cases e
        obtain ⟨x, rfl, hx⟩ := one_d h
        cases hx with
        | loc hr =>
          obtain ⟨ys, h1, h2⟩ := R.list hr hl
          exact .inr ⟨_, ys, l, rfl, h1, h2, .inr ⟨rfl, rfl⟩⟩
      · cases e
    · cases e
theorem cr_len (hK : X.K = G.K) : CallR X (.builtin "len") (rBi G (biU .len)) := by
  refine callr_imp call_len fun xs H Q h => ?_
  obtain ⟨F, r, S, us, d, R, hp, hg, q⟩ := h
  rcases biU_cases R hp hg with ⟨l, hl, e⟩ | ⟨a, ys, l, rfl, h1, h2, ⟨_, rfl⟩ | ⟨c, _⟩⟩
  · unfold biD at e
    split at e <;> first | contradiction | skip
    · cases e
      cases hl with
      | cons h t =>
        cases t
        obtain ⟨a, xs, rfl, ha, ta⟩ := rp_tups R h
        exact ⟨_, _, rfl, .inr ⟨xs, by rw [hK]; exact ha, rfl⟩, by rw [ta.length]; exact q F _ H (Same.refl F) R (.int _)⟩
    · cases e
      cases hl with
      | cons h t =>
        cases t
        obtain ⟨a, xs, rfl, ha, ta⟩ := rp_lists R h
        exact ⟨_, _, rfl, .inl ⟨xs, SqL.of ha, rfl⟩, by rw [ta.length]; exact q F _ H (Same.refl F) R (.int _)⟩
    · split at e
      · rename_i hz
        cases e
        cases hl with
        | cons h t =>
          cases t
          cases h
          exact ⟨_, _, rfl, ⟨by rw [sizeLine_eq]; exact hz, rfl⟩, q F _ H (Same.refl F) R (.int _)⟩
      · cases e
  · exact ⟨_, _, rfl, .inl ⟨ys, SqL.of h1, rfl⟩, by rw [h2.length]; exact q F _ H (Same.refl F) R (.int _)⟩
  · cases c
theorem cr_tuple (hK : X.K = G.K) : CallR X (.type "tuple") (rBi G (biU .tuple)) := by
  refine callr_imp call_tuple_of fun xs H Q h => ?_
  obtain ⟨F, r, S, us, d, R, hp, hg, q⟩ := h
  rcases biU_cases R hp hg with ⟨l, hl, e⟩ | ⟨a, ys, l, rfl, h1, h2, ⟨c, _⟩ | ⟨_, rfl⟩⟩
  · unfold biD at e
    split at e <;> first | contradiction | skip
    · cases e
      cases hl with
      | cons h t =>
        cases t
        obtain ⟨a, xs, rfl, ha, ta⟩ := rp_lists R h
        refine ⟨a, xs, rfl, .inl ⟨SqL.of ha, fun p hp => ?_⟩⟩
        obtain ⟨R1, s1, i1⟩ := new_tup R hp ta
        exact q _ _ _ s1 R1 i1
    · cases e
      cases hl with
      | cons h t =>
        cases t
        obtain ⟨a, xs, rfl, ha, ta⟩ := rp_tups R h
        exact ⟨a, xs, rfl, .inr ⟨by rw [hK]; exact ha, q F _ H (Same.refl F) R h⟩⟩
  · cases c
  · refine ⟨a, ys, rfl, .inl ⟨SqL.of h1, fun p hp => ?_⟩⟩
    obtain ⟨R1, s1, i1⟩ := new_tup R hp h2
    exact q _ _ _ s1 R1 i1
theorem biU_no {b : Bi} (h1 : b ≠ .len) (h2 : b ≠ .tuple) {us : List U} {S : Store} {d : D} {F : Hp} {r : Pl} {H : Hp} {xs : List V} (R : Rp G F r S H) (h : Paired (IsU G F r) xs us) (e : biU b us S = some d) : ∃ l, IsL G F xs l ∧ biD b l = some d := by
  rcases biU_cases R h e with q | ⟨_, _, _, _, _, _, ⟨c, _⟩ | ⟨c, _⟩⟩
  · exact q
  · exact absurd c h1
  · exact absurd c h2
theorem cr_list (hK : X.K = G.K) : CallR X (.type "list") (rBi G (biU .list)) := by
  refine callr_imp call_list_of fun xs H Q h => ?_
  obtain ⟨F, r, S, us, d, R, hp, hg, q⟩ := h
  obtain ⟨l, hl, e⟩ := biU_no (by decide) (by decide) R hp hg
  unfold biD at e
  split at e <;> first | contradiction | skip
  · cases e
    cases hl with
    | cons h t =>
      cases t
      obtain ⟨a, xs, rfl, ha, ta⟩ := rp_lists R h
      refine ⟨a, xs, rfl, .inl (SqL.of ha), fun p hp => ?_⟩
      obtain ⟨R1, s1, i1⟩ := new_lst R hp ta
      exact q _ _ _ s1 R1 i1
  · cases e
    cases hl with
    | cons h t =>
      cases t
      obtain ⟨a, xs, rfl, ha, ta⟩ := rp_tups R h
      refine ⟨a, xs, rfl, .inr (by rw [hK]; exact ha), fun p hp => ?_⟩
      obtain ⟨R1, s1, i1⟩ := new_lst R hp ta
      exact q _ _ _ s1 R1 i1
theorem cr_abs : CallR X (.builtin "abs") (rBi G (biU .abs)) := by
  refine callr_imp call_abs fun xs H Q h => ?_
  obtain ⟨F, r, S, us, d, R, hp, hg, q⟩ := h
  obtain ⟨l, hl, e⟩ := biU_no (by decide) (by decide) R hp hg
  unfold biD at e
  split at e <;> first | contradiction | skip
  cases e
  cases hl with
  | cons h t =>
    cases t
    cases h
    exact ⟨_, rfl, q F _ H (Same.refl F) R (.int _)⟩
theorem lst_one {F : Hp} {r : Pl} {S : Store} {H : Hp} {xs : List V} {l : List D} (R : Rp G F r S H) (h : IsL G F xs [.lst l]) : ∃ a ys, xs = [.ref a] ∧ H a = some (.lst ys) ∧ IsL G F ys l := by
  cases h with
  | cons h t =>
    cases t
    obtain ⟨a, ys, rfl, ha, ta⟩ := rp_lists R h
    exact ⟨a, ys, rfl, ha, ta⟩
/-- sum of a tuple of numbers -/
theorem cr_sumT (hc : X.calm = true) : CallR X (.builtin "sum") (fun xs H Q => ∃ (a : Addr) (ns : List Int), xs = [.ref a] ∧ SqT X.K H a (ns.map V.int) ∧ Q (.int ns.sum) H) := by
  intro pins s σ H vs us Q I r h
  obtain ⟨a, ns, rfl, hs, q⟩ := h
  obtain ⟨its, rv, hT, _⟩ := I.tuple hs
  rw [Vals.ref1 r]
  obtain ⟨ys, hy⟩ := rv.ints.allInts.items
  have e2 := rv.ints.numsOf
  have e3 : its = (intItems ys).toList := by rw [← hy]
  rw [e3, nums_intItems] at e2
  refine PySem.W.ktm_sumG (I.ok.hd hc) (by rw [← hy]; exact hT) fun h' tk t' hk => ?_
  rw [preSum_eq, List.take_of_length_le (by simp), e2]
  exact ⟨.int _, H, I.kept hk, ⟨_, rfl⟩, q⟩
theorem tup_one {F : Hp} {r : Pl} {S : Store} {H : Hp} {xs : List V} {l : List D} (R : Rp G F r S H) (h : IsL G F xs [.tup l]) : ∃ a ys, xs = [.ref a] ∧ SqT G.K H a ys ∧ IsL G F ys l := by
  cases h with
  | cons h t =>
    cases t
    obtain ⟨a, ys, rfl, ha, ta⟩ := rp_tups R h
    exact ⟨a, ys, rfl, ha, ta⟩
theorem cr_sumD (hK : X.K = G.K) (hc : X.calm = true) : CallR X (.builtin "sum") (rBi G (biU .sum)) := by
  refine callr_imp (CallR.or (cr_sum hc) (cr_sumT hc)) fun xs H Q h => ?_
  obtain ⟨F, r, S, us, d, R, hp, hg, q⟩ := h
  obtain ⟨l, hl, e⟩ := biU_no (by decide) (by decide) R hp hg
  unfold biD at e
  split at e <;> first | contradiction | skip
  · obtain ⟨a, ys, rfl, ha, ta⟩ := lst_one R hl
    rw [Option.map_eq_some_iff] at e
    obtain ⟨ns, e1, e2⟩ := e
    subst e2
    have := intsOf_is ta e1
    subst this
    exact .inl ⟨a, ns, rfl, SqL.of ha, q F _ H (Same.refl F) R (.int _)⟩
  · obtain ⟨a, ys, rfl, ha, ta⟩ := tup_one R hl
    rw [Option.map_eq_some_iff] at e
    obtain ⟨ns, e1, e2⟩ := e
    subst e2
    have := intsOf_is ta e1
    subst this
    exact .inr ⟨a, ns, rfl, by rw [hK]; exact ha, q F _ H (Same.refl F) R (.int _)⟩
theorem cr_anyD (hc : X.calm = true) : CallR X (.builtin "any") (rBi G (biU .any)) := by
  refine callr_imp (cr_any hc) fun xs H Q h => ?_
  obtain ⟨F, r, S, us, d, R, hp, hg, q⟩ := h
  obtain ⟨l, hl, e⟩ := biU_no (by decide) (by decide) R hp hg
  unfold biD at e
  split at e <;> first | contradiction | skip
  obtain ⟨a, ys, rfl, ha, ta⟩ := lst_one R hl
  rw [Option.map_eq_some_iff] at e
  obtain ⟨ns, e1, e2⟩ := e
  subst e2
  have := blsOf_is ta e1
  subst this
  exact ⟨a, ns, rfl, SqL.of ha, q F _ H (Same.refl F) R (.bl _)⟩
theorem cr_allD (hc : X.calm = true) : CallR X (.builtin "all") (rBi G (biU .all)) := by
  refine callr_imp (cr_all hc) fun xs H Q h => ?_
  obtain ⟨F, r, S, us, d, R, hp, hg, q⟩ := h
  obtain ⟨l, hl, e⟩ := biU_no (by decide) (by decide) R hp hg
  unfold biD at e
  split at e <;> first | contradiction | skip
  obtain ⟨a, ys, rfl, ha, ta⟩ := lst_one R hl
  rw [Option.map_eq_some_iff] at e
  obtain ⟨ns, e1, e2⟩ := e
  subst e2
  have := blsOf_is ta e1
  subst this
  exact ⟨a, ns, rfl, SqL.of ha, q F _ H (Same.refl F) R (.bl _)⟩
theorem cr_maxD (hc : X.calm = true) : CallR X (.builtin "max") (rBi G (biU .max)) := by
  refine callr_imp (cr_max hc) fun xs H Q h => ?_
  obtain ⟨F, r, S, us, d, R, hp, hg, q⟩ := h
  obtain ⟨l, hl, e⟩ := biU_no (by decide) (by decide) R hp hg
  unfold biD at e
  split at e <;> first | contradiction | skip
  obtain ⟨a, ys, rfl, ha, ta⟩ := lst_one R hl
  rw [Option.map_eq_some_iff] at e
  obtain ⟨m, e1, e2⟩ := e
  rw [Option.bind_eq_some_iff] at e1
  obtain ⟨ns, e1, e3⟩ := e1
  subst e2
  have := intsOf_is ta e1
  subst this
  obtain ⟨h1, h2⟩ := maxI_is e3
  refine ⟨a, ns, rfl, SqL.of ha, List.length_pos_of_mem h1, fun k k1 k2 => ?_⟩
  have e : k = m := Int.le_antisymm (h2 k k1) (k2 m h1)
  subst e
  exact q F _ H (Same.refl F) R (.int _)
theorem cr_minD (hc : X.calm = true) : CallR X (.builtin "min") (rBi G (biU .min)) := by
  refine callr_imp (cr_min hc) fun xs H Q h => ?_
  obtain ⟨F, r, S, us, d, R, hp, hg, q⟩ := h
  obtain ⟨l, hl, e⟩ := biU_no (by decide) (by decide) R hp hg
  unfold biD at e
  split at e <;> first | contradiction | skip
  obtain ⟨a, ys, rfl, ha, ta⟩ := lst_one R hl
  rw [Option.map_eq_some_iff] at e
  obtain ⟨m, e1, e2⟩ := e
  rw [Option.bind_eq_some_iff] at e1
  obtain ⟨ns, e1, e3⟩ := e1
  subst e2
  have := intsOf_is ta e1
  subst this
  obtain ⟨h1, h2⟩ := minI_is e3
  refine ⟨a, ns, rfl, SqL.of ha, List.length_pos_of_mem h1, fun k k1 k2 => ?_⟩
  have e : k = m := Int.le_antisymm (k2 m h1) (h2 k k1)
  subst e
  exact q F _ H (Same.refl F) R (.int _)

/-! ### isinstance -/
/-- a drive's class, and what isinstance says of it -/
structure DrvOk (G : Gx) : Prop where
  cl : Cls G.K (G.cd 0)
  ca : PySem.W.findIn G.K (.ref (G.cd 0)) "__class__" = some (some (.builtin "object.__class__"))
  cg : PySem.W.specialIn G.K (.builtin "object.__class__") "__get__" = some (some (.builtin "getset_descriptor.__get__"))
  ct : PySem.W.takesIn G.K (.builtin "object.__class__") = some true
  mo : PySem.W.mroIn G.K (G.cd 0) (.type "object") = some true
  self : PySem.W.kitOne G.K (.ref (G.cd 0)) (.ref (G.cd 0)) = some true
  to : ∀ n ∈ ["int", "bool", "str", "tuple", "list", "dict"], PySem.W.kitOne G.K (.ref (G.cd 0)) (.type n) = some false
  off : ∀ n ∈ ["NoneType", "int", "bool", "str", "tuple", "list", "dict"], PySem.W.kitOne G.K (.type n) (.ref (G.cd 0)) = some false
def tyN : Ty → String
  | .int => "int" | .bool => "bool" | .str => "str" | .tup => "tuple" | .lst => "list" | .dict => "dict" | .drv => ""
/-- the class of a value -/
def ofD (G : Gx) : D → Value
  | .non => .type "NoneType"
  | .bl _ => .type "bool"
  | .int _ => .type "int"
  | .str _ => .type "str"
  | .tup _ => .type "tuple"
  | .lst _ => .type "list"
  | .map _ => .type "dict"
  | .drv _ => .ref (G.cd 0)
  | .scr _ => .type "list"
theorem sqT_ty {F H : Hp} {K : PySem.W.Frag} {a : Addr} {xs : List V} (e : Same F H) (h : SqT K F a xs) : TyX K H (.ref a) (.type "tuple") := by
  rcases h with (h | ⟨o, h⟩) | ⟨o, its, n, hk, hc, _⟩
  · exact .base (.tup (e _ _ h))
  · exact .fTuple (e _ _ h)
  · exact .kTuple hk hc
theorem sqL_ty {F H : Hp} {K : PySem.W.Frag} {a : Addr} {xs : List V} (e : Same F H) (h : SqL K F a xs) : TyX K H (.ref a) (.type "list") := by
  rcases h with (h | ⟨o, h⟩) | ⟨o, its, n, hk, hc, _⟩
  · exact .base (.lst (e _ _ h))
  · exact .base (.frz (e _ _ h))
  · exact .kList hk hc
theorem ty_of {F H : Hp} {v : V} {d : D} (e : Same F H) (hd : ∀ t, d = .drv t → DrvOk G) (h : Is G F v d) : TyX G.K H v (ofD G d) := by
  cases h with
  | non => exact .base .non
  | bl b => exact .base (.bl b)
  | int i => exact .base (.int i)
  | str x => exact .base (.str x)
  | tup h t => exact sqT_ty e h
  | lst h t => exact .base (.lst (e _ _ h))
  | map h t => exact .base (.dK (e _ _ h))
  | kmp k =>
    obtain ⟨es, n, kd, _⟩ := k
    exact .kDict kd.at_ rfl
  | drv _ h t =>
    have D := hd _ rfl
    exact .base (.ins (e _ _ h) D.cl D.ca D.cg D.ct D.mo)
  | scr h t => exact sqL_ty e h
end
end DL

/-! An own exception class whose __init__ says super().__init__('..') and then stores its parameters. -/
namespace DX
open PySem PySem.W PySem.Calls PyProof.Rows
set_option autoImplicit false

/-- the text of such an __init__ -/
structure XTx where
  m : Str
  k : Nat
  p0 : Pos
  p1 : Pos
  p2 : Pos
  p3 : Pos
  p4 : Pos
  p5 : Pos
def XTx.call (x : XTx) : Expr := .Call (.Attribute (.Call (.Name "super" x.p0) [] [] x.p1) "__init__" x.p2) [.Constant (.str x.m) x.k x.p3] [] x.p4
def XTx.stm (x : XTx) : Stmt := .Expr x.call x.p5
/-- a method's call is plain here -/
def XTx.plain (x : XTx) (env : Env) : Prop := ∃ pl : Sem Bool, eval x.call env = (do
  let ov ← attributeBase (.Call (.Name "super" x.p0) [] [] x.p1) "__init__" env (eval (.Call (.Name "super" x.p0) [] [] x.p1) env)
  standAt x.p2.atName
  let (f, first) ← holding [ov] (getMethod ov "__init__" pl)
  callWith x.p4 f first (backTo x.p4 (starEach [.Constant (.str x.m) x.k x.p3] env)) [])
structure FTx where
  f : Str
  q0 : Pos
  q1 : Pos
  q2 : Pos
  q3 : Pos
def FTx.stm (x : FTx) : Stmt := .Assign [.Attribute (.Name "self" x.q0) x.f x.q1] (.Name x.f x.q2) x.q3

/-- what is known of the class and of its __init__ -/
structure XmF (K : Frag) (P : Program) (C fI : Addr) (name qual : Str) (params : Arguments) (scope : Scope) (tx : XTx) (fs : List FTx) : Prop where
  oex : L2.OexC K C
  init : findIn K (.ref C) "__init__" = some (some (.ref fI))
  typ : typeIn K (.ref fI) = some (.type "function")
  fn : ∃ (oc : Value) (od : Option Addr) (dV kV doc pm : Value) (an : Option Addr) (cda : Addr) (ct : Value) (cc : Addr) (osl : Array (Option Value)) (ccl : Value) (cdd : Option Addr) (vs : Array Value) (ccs : Array (Option Value)) (file : Str) (tf : Tok) (cl : Value) (cld : Option Addr) (csl : Array (Option Value)) (cd : ClassData) (ar : Arg),
    K.lookup fI = some ⟨oc, od, .func (ksFn name qual params (tx.stm :: fs.map FTx.stm) scope dV kV doc pm an (.ref cda) ct cc), osl⟩ ∧ codeIn K (.ref cda) qual = true ∧
    K.lookup cda = some ⟨ccl, cdd, .fields vs, ccs⟩ ∧ vs[2]? = some (.str file tf) ∧ ((P.main.file : Str) == file) = true ∧
    K.lookup cc = some ⟨cl, cld, .cell (some (.ref C)), csl⟩ ∧ clsIn K C = some cd ∧ alongIn K "__init__" ((cd.mro.dropWhile (· != .ref C)).drop 1) = some (some (.builtin "ValueError.__init__")) ∧
    (params.posonlyargs ++ params.args).head? = some ar ∧ ar.arg = "self" ∧
    ∀ us : List Value, us.length = fs.length + 1 → bindArgs (ksFn name qual params (tx.stm :: fs.map FTx.stm) scope dV kV doc pm an (.ref cda) ct cc) ⟨us, []⟩ = pure ((("self" : Str) :: fs.map FTx.f).zip us)
  ve : subIn K (.ref C) (.type "ValueError") = some true
  self : mroIn K C (.ref C) = some true
  stat : nsIn K cStatics "thirdparty.any" = some none
  top : (P.main.scope.names.lookup ("super" : Str)).isSome = false
  no : ∀ x ∈ fs, findIn K (.ref C) x.f = some none
  call : ∀ L cda cc : Addr, tx.plain (ksEnv qual scope L fI (.ref cda) cc)
  kind : scope.kind = .function
  co : scope.isCoroutine = false
  gen : scope.isGenerator = false
  cell : ∀ x ∈ scope.names, x.2 ≠ .cell
  ks : scope.names.lookup ("super" : Str) = some .globalImplicit
  kc : scope.names.lookup ("__class__" : Str) = some .free
  kself : scope.names.lookup ("self" : Str) = some .local
  kf : ∀ x ∈ fs, scope.names.lookup x.f = some .local ∧ (x.f == ("__debug__" : Str)) = false

section
variable {prog : Program} {w : World} {A : Around} {R : Result → Shared → Prop} {h : Heap} {g : Array GenState} {d : Drawn} {t : Nat} {os : OsState}
variable {K : Frag} {C fI : Addr} {name qual : Str} {params : Arguments} {scope : Scope} {tx : XTx} {fs : List FTx} {mg : Str → Option Value}

theorem in_but {h h' : Heap} {e : Addr} (X : K.In h) (n : K.lookup e = none) (k : ∀ b o, b ≠ e → h.get? b = some o → h'.get? b = some o) : K.In h' := fun a o q =>
  k a o (fun z => by rw [z, n] at q; cases q) (X a o q)
theorem ns_but {h h' : Heap} {e L : Addr} {m : Str → Option Value} (X : h.Ns L m) (n : L ≠ e) (k : ∀ b o, b ≠ e → h.get? b = some o → h'.get? b = some o) : h'.Ns L m := by
  obtain ⟨o, es, ep, ho, r⟩ := X
  exact ⟨o, es, ep, k _ _ n ho, r⟩

theorem super_at {L cda cc e t0 : Addr} {dV kV doc pm ct oc ccl cl : Value} {od cdd cld : Option Addr} {an : Option Addr} {osl ccs csl : Array (Option Value)} {vs : Array Value} {file : Str} {tf : Tok} {cd : ClassData} {ar : Arg} {m mb : Str → Option Value} {bd : List Stmt} {E : Value → Shared → Prop} {Q : Flow → Shared → Prop}
    (Z : XmF K prog C fI name qual params scope tx fs) (X : K.In h) (hKe : K.lookup e = none) (hns : h.Ns L m) (hself : m "self" = some (.ref e)) (hLe : L ≠ e) (hx : h.get? e = some (PySem.HandSPX.excO C t0))
    (hg : h.Ns mainGlobals mg) (hmg : mg "super" = none) (hb : h.Ns builtinsNs mb) (hmb : mb "super" = bootBuiltins "super")
    (hf : K.lookup fI = some ⟨oc, od, .func (ksFn name qual params bd scope dV kV doc pm an (.ref cda) ct cc), osl⟩) (hcda : K.lookup cda = some ⟨ccl, cdd, .fields vs, ccs⟩) (hvs : vs[2]? = some (.str file tf)) (hfile : ((prog.main.file : Str) == file) = true)
    (hcell : K.lookup cc = some ⟨cl, cld, .cell (some (.ref C)), csl⟩) (hcd : clsIn K C = some cd) (hal : alongIn K "__init__" ((cd.mro.dropWhile (· != .ref C)).drop 1) = some (some (.builtin "ValueError.__init__")))
    (hp : (params.posonlyargs ++ params.args).head? = some ar) (har : ar.arg = "self")
    (hq : ∀ h' t' t1, (∀ b o, b ≠ e → h.get? b = some o → h'.get? b = some o) → h'.get? e = some (PySem.HandSPX.excO C t1) → Q .next ⟨h', g, d, t', os⟩) :
    _root_.PySem.wpAt (model prog w) A (.func bd (ksEnv qual scope L fI (.ref cda) cc)) (exec tx.stm (ksEnv qual scope L fI (.ref cda) cc)) Q E ⟨h, g, d, t, os⟩ := by
  have hC := Z.oex.cls
  obtain ⟨nm, q, N, bs, bm, sn, sub, ab, col, dd, k0, k1, k2, k3, k5, hC, hbm⟩ := hC
  obtain ⟨oD, hD1, hD2⟩ : ∃ oD, h.get? C = some oD ∧ oD.data = .cls cd := by
    unfold clsIn at hcd
    split at hcd
    · rename_i c d cd' sl ho
      cases hcd
      exact ⟨_, X _ _ ho, rfl⟩
    · cases hcd
  have hxC : e ≠ C := by
    intro z
    rw [← z, hx] at hD1
    cases hD1
    cases hD2
  obtain ⟨pl, hpl⟩ := Z.call L cda cc
  have hi : interactive (ksEnv qual scope L fI (.ref cda) cc) = false := by
    unfold interactive
    rw [show (ksEnv qual scope L fI (.ref cda) cc).scope.kind = .function from Z.kind]
    rfl
  refine ks_wpAt_Expr_any (hi := hi) (ks_wpAt_MethodCall (pl := pl) (he := hpl) (ks_wpAt_super_base (env := ksEnv qual scope L fI (.ref cda) cc) Z.ks Z.kc rfl rfl (X _ _ hf) rfl hp rfl (X _ _ hcda) rfl hvs hfile Z.top ?_))
  refine ks_loadName_global Z.kind Z.ks (loadGlobal_builtin (env := ksEnv qual scope L fI (.ref cda) cc) hg hmg hb (hmb.trans (show bootBuiltins "super" = some (.type "super") from rfl)) ⟨rfl, ?_⟩)
  refine wpAny_loadName_free (c := cc) Z.kind Z.kc rfl ⟨_, X _ _ hcell, rfl⟩ ?_
  rw [har]
  refine wpAny_loadName_local Z.kind Z.kself hns hself ?_
  refine ks_wpAny_isType_cls hD1 hD2 ⟨rfl, ?_⟩
  refine ks_wpAny_call_super hD1 hD2 hx rfl (fun c z => by cases z) (looks_mroIn X Z.self) fun h1 e1 k1 => ?_
  have X1 : K.In h1 := X.keeps k1
  have hx1 := k1 _ _ hx
  have I1 : InstAt h1 e (PySem.HandSPX.excO C t0) C none := ⟨hx1, rfl, rfl, trivial⟩
  refine kxs_getMethod kxs_ValueError (x := e) (C := C) (D := C) e1 (looks_opaque X1 Z.stat) (l₀ := cd.mro) (fun A Q E s k q => wpAny_bind ((looks_clsIn X1 hcd) A _ E s k (wpAny_pure q))) rfl X1 hal (I1.type.andThen (looks_subIn X1 Z.ve)) hxC rfl ?_
  have hu : (h1.push (kxs_mw "ValueError.__init__" e)).get? h1.objs.size = some (kxs_mw "ValueError.__init__" e) := Heap.get?_push_at rfl rfl
  have k2 : ∀ b o, h1.get? b = some o → (h1.push (kxs_mw "ValueError.__init__" e)).get? b = some o := fun b o z => Heap.get?_push_of_some _ z
  have he2 := k2 _ _ hx1
  have hC2 := k2 _ _ (X1 _ _ hC)
  refine kxs_callWith (i := "ValueError.__init__") (u := h1.objs.size) (x := e) rfl (evalArgs_plain (spliced_cons (wpAny_Constant_str (k := tx.k) (pos := tx.p3) (spliced_nil ⟨hu, ?_⟩))))
  refine wpAny_call (codeAny_of_tree ?_)
  show wpAny _ A.in1 (callAny (.ref h1.objs.size) ⟨[.str tx.m (t + 1)], []⟩) _ _ _
  simp only [callAny]
  refine wpAny_bind (wpAny_load hu ?_)
  simp only [kxs_mw, show (Value.type "method-wrapper" == Value.type "method" || Value.type "method-wrapper" == Value.type "builtin_function_or_method" || Value.type "method-wrapper" == Value.type "method-wrapper") = true by decide, if_true]
  refine KFB.if_so (by decide) ?_
  refine wpAny_bind (check_bound_init F.excBase_ValueError.toExcCallFacts hC2 he2 rfl ?_)
  refine wpAny_bind (wpAny_pure (wpAny_pure ?_))
  refine ⟨plainId_quiet F.excBase_ValueError.init.plain _, codeAny_builtin F.excBase_ValueError.initEntry ?_⟩
  refine exc_init_tree (cls := .ref C) (t0 := t0) (dv := none) (c2 := .none) (c3 := .none) (b4 := .bool false) he2 (by show 1 ≤ sizeLine; rw [sizeLine_eq]; omega) fun h' k e' t' => ?_
  exact hq h' _ _ (fun b o hb z => k b o hb (k2 _ _ (k1 _ _ z))) e'

/-- the last statements: the first field makes the dict -/
theorem store1 {L e t1 cda cc : Addr} {x : FTx} {u : Value} {m : Str → Option Value} {bd : List Stmt} {E : Value → Shared → Prop} {Q : Flow → Shared → Prop}
    (Z : XmF K prog C fI name qual params scope tx fs) (hx : x ∈ fs) (X : K.In h) (hns : h.Ns L m) (hself : m "self" = some (.ref e)) (hu : m x.f = some u) (he : h.get? e = some (PySem.HandSPX.excO C t1))
    (hq : ∀ h' t' dx, (∀ b o, b ≠ e → h.get? b = some o → h'.get? b = some o) → h.objs.size ≤ dx → dx ≠ e → h'.get? e = some { cls := .ref C, dict := some dx, data := .fields #[.ref t1, .none, .none, .none, .bool false, .none] } →
      h'.Ns1 dx (fun y => if y = x.f then some u else none) → Q .next ⟨h', g, d, t', os⟩) :
    _root_.PySem.wpAt (model prog w) A (.func bd (ksEnv qual scope L fI (.ref cda) cc)) (exec x.stm (ksEnv qual scope L fI (.ref cda) cc)) Q E ⟨h, g, d, t, os⟩ := by
  obtain ⟨nm, q, N, bs, bm, sn, sub, ab, col, dd, k0, k1, k2, k3, k5, hC, hbm⟩ := Z.oex.cls
  have hcl : clsIn K C = some { name := nm, bases := bs, mro := .ref C :: bm, ns := N, qualname := q, hasDict := true, slotNames := sn, subclasses := sub, abstract := ab, collection := col, hasDel := false } := by unfold clsIn; rw [hC] <;> rfl
  refine ks_wpAt_Assign_Attr (wpAt_of_wpAny (wpAny_Name (wpAny_loadName_local Z.kind (Z.kf x hx).1 hns hu ?_) (Z.kf x hx).2))
  refine wpAny_Name (wpAny_loadName_local Z.kind Z.kself hns hself ?_)
  refine set_plain X (ox := PySem.HandSPX.excO C t1) (od := none) ⟨he, rfl, rfl, trivial⟩ Z.oex.sa ?_
  refine PySem.HandSPX.exc_osa X he hcl (show PySem.HandSPX.refsVE (.ref C :: bm) = true from hbm) rfl (Z.no x hx) fun h' tk' dx k dn dne hx' hn => ?_
  exact hq h' tk' dx k dn dne hx' hn
/-- a further field -/
theorem store2 {L e t1 cda cc dx : Addr} {x : FTx} {u : Value} {m m0 : Str → Option Value} {nl : List Str} {bd : List Stmt} {E : Value → Shared → Prop} {Q : Flow → Shared → Prop}
    (Z : XmF K prog C fI name qual params scope tx fs) (hx : x ∈ fs) (X : K.In h) (hns : h.Ns L m) (hself : m "self" = some (.ref e)) (hu : m x.f = some u)
    (he : h.get? e = some { cls := .ref C, dict := some dx, data := .fields #[.ref t1, .none, .none, .none, .bool false, .none] }) (hd : h.Ns1 dx m0) (hw : Within m0 nl) (hl : nl.length ≤ 1000)
    (hq : ∀ h' t', (∀ b o, b ≠ dx → h.get? b = some o → h'.get? b = some o) → h'.Ns1 dx (fun y => if y = x.f then some u else m0 y) → Q .next ⟨h', g, d, t', os⟩) :
    _root_.PySem.wpAt (model prog w) A (.func bd (ksEnv qual scope L fI (.ref cda) cc)) (exec x.stm (ksEnv qual scope L fI (.ref cda) cc)) Q E ⟨h, g, d, t, os⟩ := by
  obtain ⟨nm, q, N, bs, bm, sn, sub, ab, col, dd, k0, k1, k2, k3, k5, hC, hbm⟩ := Z.oex.cls
  have hcl : clsIn K C = some { name := nm, bases := bs, mro := .ref C :: bm, ns := N, qualname := q, hasDict := true, slotNames := sn, subclasses := sub, abstract := ab, collection := col, hasDel := false } := by unfold clsIn; rw [hC] <;> rfl
  obtain ⟨oD, _, _, hoD, _, _⟩ := hd.count hw
  refine ks_wpAt_Assign_Attr (wpAt_of_wpAny (wpAny_Name (wpAny_loadName_local Z.kind (Z.kf x hx).1 hns hu ?_) (Z.kf x hx).2))
  refine wpAny_Name (wpAny_loadName_local Z.kind Z.kself hns hself ?_)
  refine set_plain X (ox := { cls := .ref C, dict := some dx, data := .fields #[.ref t1, .none, .none, .none, .bool false, .none] }) (od := some oD) ⟨he, rfl, rfl, hoD⟩ Z.oex.sa ?_
  refine PySem.OEX.osa_old X he hd hw hl hcl (show PySem.HandSPX.refsVE (.ref C :: bm) = true from hbm) rfl (Z.no x hx) fun h' tk' k hn => ?_
  exact hq h' tk' k hn

/-- the pairs, one field or two -/
def Ends1 (h : Heap) (g : Array GenState) (d : Drawn) (os : OsState) (R : Result → Shared → Prop) (C e : Addr) (m : Str → Option Value) : Prop :=
  ∀ h' t' t1 dx, (∀ b o, b ≠ e → h.get? b = some o → h'.get? b = some o) → h.objs.size ≤ dx → dx ≠ e → h'.get? e = some { cls := .ref C, dict := some dx, data := .fields #[.ref t1, .none, .none, .none, .bool false, .none] } → h'.Ns1 dx m → R (.ok (.ret .none)) ⟨h', g, d, t', os⟩
theorem xinit1 {e t0 : Addr} {x : FTx} {u : Value} {mb : Str → Option Value} (Z : XmF K prog C fI name qual params scope tx [x]) (X : K.In h) (hKe : K.lookup e = none) (he : h.get? e = some (PySem.HandSPX.excO C t0))
    (hg : h.Ns mainGlobals mg) (hmg : mg "super" = none) (hb : h.Ns builtinsNs mb) (hmb : mb "super" = bootBuiltins "super") (hgl : mainGlobals ≠ e) (hbl : builtinsNs ≠ e) (lim : h.NoLimit) (hroom : A.depth < recursionLimit) (hne : x.f ≠ "self")
    (hq : Ends1 h g d os R C e fun y => if y = x.f then some u else none) : codeAny (model prog w) A (.call (.ref fI) ⟨[.ref e, u], []⟩) R ⟨h, g, d, t, os⟩ := by
  obtain ⟨oc, od, dV, kV, doc, pm, an, cda, ct, cc, osl, ccl, cdd, vs, ccs, file, tf, cl, cld, csl, cd, ar, f1, f2, f3, f4, f5, f6, f7, f8, f9, f10, f11⟩ := Z.fn
  refine ks_codeAny_call_defAt (s := ⟨h, g, d, t, os⟩) (binds := [(("self" : Str), .ref e), (x.f, u)]) hroom (X _ _ f1) rfl lim (codeRec_of X f2) rfl (BindsTo.of_eq (f11 [.ref e, u] rfl)) Z.cell (fun y hy => ?_) (fun h0 hns k0 => ?_) Z.co Z.gen Z.kind
  · rcases List.mem_cons.mp hy with rfl | hy
    · exact Z.kself
    · rw [List.mem_singleton.mp hy]; exact (Z.kf x (by simp)).1
  · have hL : ∃ o, h0.get? h.objs.size = some o := by
      obtain ⟨o, es, ep, ho, _⟩ := hns
      exact ⟨o, ho⟩
    have hLe : h.objs.size ≠ e := fun z => by
      have := Heap.lt_size he
      rw [z] at this
      exact absurd this (Nat.lt_irrefl _)
    have m1 : (([(("self" : Str), Value.ref e), (x.f, u)] : List (Str × Value)).reverse.lookup ("self" : Str)) = some (.ref e) := by
      have e1 : (("self" : Str) == x.f) = false := by simpa using Ne.symm hne
      simp [List.lookup_cons, e1]
    have m2 : (([(("self" : Str), Value.ref e), (x.f, u)] : List (Str × Value)).reverse.lookup x.f) = some u := by simp [List.lookup_cons]
    have X0 : K.In h0 := X.keeps k0
    refine ks_wpAt_execs_cons (super_at (e := e) (t0 := t0) Z X0 hKe hns m1 hLe (k0 _ _ he) (hg.keeps k0) hmg (hb.keeps k0) hmb f1 f3 f4 f5 f6 f7 f8 f9 f10 fun h1 t1 t2 k1 e1 => ?_)
    have X1 : K.In h1 := in_but X0 hKe k1
    have n1 := ns_but hns hLe k1
    refine ks_wpAt_execs_cons (store1 (e := e) Z (by simp) X1 n1 m1 m2 e1 fun h2 t3 dx k2 l2 dne e2 n2 => wpAt_of_wpAny (wpAny_execs_nil ?_))
    refine hq h2 _ t2 dx (fun b o hb' z => k2 b o hb' (k1 b o hb' (k0 b o z))) ?_ dne e2 n2
    obtain ⟨o, ho⟩ := hL
    exact Nat.le_of_lt (Nat.lt_of_lt_of_le (Heap.lt_size (k1 _ _ hLe ho)) l2)
theorem xinit2 {e t0 : Addr} {x y : FTx} {u v : Value} {mb : Str → Option Value} (Z : XmF K prog C fI name qual params scope tx [x, y]) (X : K.In h) (hKe : K.lookup e = none) (he : h.get? e = some (PySem.HandSPX.excO C t0))
    (hg : h.Ns mainGlobals mg) (hmg : mg "super" = none) (hb : h.Ns builtinsNs mb) (hmb : mb "super" = bootBuiltins "super") (hgl : mainGlobals ≠ e) (hbl : builtinsNs ≠ e) (lim : h.NoLimit) (hroom : A.depth < recursionLimit) (hne : x.f ≠ "self") (hne2 : y.f ≠ "self") (hne3 : y.f ≠ x.f)
    (hq : Ends1 h g d os R C e fun z => if z = y.f then some v else if z = x.f then some u else none) : codeAny (model prog w) A (.call (.ref fI) ⟨[.ref e, u, v], []⟩) R ⟨h, g, d, t, os⟩ := by
  obtain ⟨oc, od, dV, kV, doc, pm, an, cda, ct, cc, osl, ccl, cdd, vs, ccs, file, tf, cl, cld, csl, cd, ar, f1, f2, f3, f4, f5, f6, f7, f8, f9, f10, f11⟩ := Z.fn
  refine ks_codeAny_call_defAt (s := ⟨h, g, d, t, os⟩) (binds := [(("self" : Str), .ref e), (x.f, u), (y.f, v)]) hroom (X _ _ f1) rfl lim (codeRec_of X f2) rfl (BindsTo.of_eq (f11 [.ref e, u, v] rfl)) Z.cell (fun z hy => ?_) (fun h0 hns k0 => ?_) Z.co Z.gen Z.kind
  · rcases List.mem_cons.mp hy with rfl | hy
    · exact Z.kself
    · rcases List.mem_cons.mp hy with rfl | hy
      · exact (Z.kf x (by simp)).1
      · rw [List.mem_singleton.mp hy]; exact (Z.kf y (by simp)).1
  · have hL : ∃ o, h0.get? h.objs.size = some o := by
      obtain ⟨o, es, ep, ho, _⟩ := hns
      exact ⟨o, ho⟩
    have hLe : h.objs.size ≠ e := fun z => by
      have := Heap.lt_size he
      rw [z] at this
      exact absurd this (Nat.lt_irrefl _)
    have q1 : (("self" : Str) == x.f) = false := by simpa using Ne.symm hne
    have q2 : (("self" : Str) == y.f) = false := by simpa using Ne.symm hne2
    have q3 : (x.f == y.f) = false := by simpa using Ne.symm hne3
    have m1 : (([(("self" : Str), Value.ref e), (x.f, u), (y.f, v)] : List (Str × Value)).reverse.lookup ("self" : Str)) = some (.ref e) := by simp [List.lookup_cons, q1, q2]
    have m2 : (([(("self" : Str), Value.ref e), (x.f, u), (y.f, v)] : List (Str × Value)).reverse.lookup x.f) = some u := by simp [List.lookup_cons, q3]
    have m3 : (([(("self" : Str), Value.ref e), (x.f, u), (y.f, v)] : List (Str × Value)).reverse.lookup y.f) = some v := by simp [List.lookup_cons]
    have X0 : K.In h0 := X.keeps k0
    refine ks_wpAt_execs_cons (super_at (e := e) (t0 := t0) Z X0 hKe hns m1 hLe (k0 _ _ he) (hg.keeps k0) hmg (hb.keeps k0) hmb f1 f3 f4 f5 f6 f7 f8 f9 f10 fun h1 t1 t2 k1 e1 => ?_)
    have X1 : K.In h1 := in_but X0 hKe k1
    have n1 := ns_but hns hLe k1
    refine ks_wpAt_execs_cons (store1 (e := e) Z (by simp) X1 n1 m1 m2 e1 fun h2 t3 dx k2 l2 dne e2 n2 => ?_)
    have X2 : K.In h2 := in_but X1 hKe k2
    have n2' := ns_but n1 hLe k2
    have hw : Within (fun z => if z = x.f then some u else none) [x.f] := fun z hz => by
      by_cases q : z = x.f
      · rw [q]; exact List.mem_cons_self ..
      · exact absurd (if_neg q) hz
    refine ks_wpAt_execs_cons (store2 (e := e) Z (by simp) X2 n2' m1 m3 e2 n2 hw (by simp) fun h3 t4 k3 n3 => wpAt_of_wpAny (wpAny_execs_nil ?_))
    obtain ⟨o, ho⟩ := hL
    have ld : h.objs.size < dx := Nat.lt_of_lt_of_le (Heap.lt_size (k1 _ _ hLe ho)) l2
    refine hq h3 _ t2 dx (fun b o hb' z => k3 b o ?_ (k2 b o hb' (k1 b o hb' (k0 b o z)))) (Nat.le_of_lt ld) dne (k3 _ _ (Ne.symm dne) e2) n3
    intro q
    have := Heap.lt_size z
    rw [q] at this
    exact absurd (Nat.lt_trans this ld) (Nat.lt_irrefl _)
end
end DX

/-! Exceptions of own classes are made and caught. -/
namespace DX
open PySem PySem.Spec PyProof.Rows L2
set_option autoImplicit false

/-- C() of a class without __init__ -/
theorem pmk_zero {X : Cx} {C : Addr} {bmB : List Value} {B newId initId : String} {x : Str} {p pos : Pos} (Z : ExcBaseFacts B newId initId bmB) (q : PySem.W.excIn X.K C bmB newId = true) (gC : X.mg x = some (.ref C)) (kC : PySem.W.keepIn X.K (.ref C) = true) (r : Raises X (.ref C)) (hg : Gl X x)
    (hdb : (x == ("__debug__" : Str)) = false) : L2N.PMk X (.Call (.Name x p) [] [] pos) (fun _ H Q => Q (.ref C) none H) := by
  intro pins s σ H Q I want
  refine wpAny_Call_Name_kw (ld_glob I hg gC ?_ hdb)
  refine PySem.W.callWith_K0 I.kIn kC ?_
  show wpAny _ _ (call (.ref C) []) _ _ _
  obtain ⟨bm, N, nm, qn, bs, hdct, sn, sub, ab, col, dd, k0, k1, k2, k3, k5, mN, c1, c2, c3, c4⟩ := exc_obj I.kIn q
  refine wpAny_call_exc_subT Z c4 c1 c2 c3 (fun h' e made => ?_) (by show 0 ≤ sizeLine; omega)
  exact L2N.mk_of I made r want (I.hok.gone made.new)

section
variable {X : Cx} {C fI : Addr} {name qual : Str} {params : Arguments} {scope : Scope} {tx : XTx} {fs : List FTx} {x : Str} {e : Expr} {es : List Expr} {p pos : Pos} {ta : TA}
def tMkX (C : Addr) (names : List Str) (ta : TA) : L2.St → Hp → XK → Prop := fun σ H Q => ta σ H fun vs H1 => vs.length = names.length ∧ ∀ d, H1 d = none → Q (.ref C) (some d) (upd H1 d (.xd (names.zip vs)))
/-- what is left: the exception apart, its dict tracked -/
theorem made {pins : List (Addr × Obj)} {σ : L2.St} {H1 : Hp} {hp h' : Heap} {g : Array GenState} {dr : Drawn} {tk tk' : Nat} {os : OsState} {a t1 dx : Addr} {vs : List (Str × V)} {m : Str → Option Value} {Q : XK} (Z : OexC X.K C) (I1 : Inv X pins σ H1 ⟨hp, g, dr, tk, os⟩)
    (ha : hp.objs.size ≤ a) (k : ∀ b o, hp.get? b = some o → h'.get? b = some o) (hsz : hp.objs.size ≤ dx) (dne : dx ≠ a) (hx : h'.get? a = some ({ cls := .ref C, dict := some dx, data := .fields #[.ref t1, .none, .none, .none, .bool false, .none] } : Obj))
    (hn : h'.Ns1 dx m) (rel : ∀ f, RelO (vs.lookup f) (m f)) (q : ∀ d, H1 d = none → Q (.ref C) (some d) (upd H1 d (.xd vs))) : L2N.MkP X pins σ Q (.ref a) ⟨h', g, dr, tk', os⟩ := by
  obtain ⟨G, g1, g2⟩ := restrict h' fun b => decide (b ≠ a)
  have gk : ∀ b, b ≠ a → G.get? b = h'.get? b := fun b hb => g1 b (decide_eq_true hb)
  have ga : G.get? a = none := g2 a (by simp)
  have n0 : H1 a = none := I1.hok.fresh ha
  have nd : H1 dx = none := I1.hok.fresh hsz
  have old : ∀ b o, hp.get? b = some o → G.get? b = some o := fun b o z => by
    rw [gk b (Nat.ne_of_lt (Nat.lt_of_lt_of_le (Heap.lt_size z) ha))]
    exact k b o z
  have okx : ObjOk X.prog X.w (upd H1 dx (.xd vs)) G dx (.xd vs) := ⟨m, hn.at fun o y => (gk dx dne).trans y, rel⟩
  have J : Inv X pins σ (upd H1 dx (.xd vs)) ⟨G, g, dr, tk', os⟩ := I1.laid (t' := tk') (a := dx) (o := .xd vs) (h' := G) old hsz okx
  refine ⟨a, _, _, ⟨G, g, dr, tk', os⟩, _, .ref C, some dx, rfl, J, fun b o z => ?_, ga, hx, ⟨rfl, rfl, fun vs e => by cases e; rfl⟩, rfl, rfl, ?_, rfl, I1.bare, raises_own Z.exC Z.tyC, q dx nd⟩
  · by_cases hb : b = a
    · rw [hb, ga] at z; cases z
    · exact (gk b hb).symm.trans z
  · rw [upd_ne (Ne.symm dne)]; exact n0
theorem relO_two {f g : Str} {y z : V} {u v : Value} (hne : g ≠ f) (ry : RelV y u) (rz : RelV z v) (n : Str) : RelO (List.lookup n [(f, y), (g, z)]) (if n = g then some v else if n = f then some u else none) := by
  by_cases h1 : n = g
  · subst h1
    have : (n == f) = false := by simpa using hne
    rw [if_pos rfl, List.lookup_cons, this, List.lookup_cons]
    simp only [beq_self_eq_true]
    exact rz
  · rw [if_neg h1]
    have e1 : (n == g) = false := by simpa using h1
    by_cases h2 : n = f
    · subst h2
      rw [if_pos rfl, List.lookup_cons]
      simp only [beq_self_eq_true]
      exact ry
    · have e2 : (n == f) = false := by simpa using h2
      rw [if_neg h2, List.lookup_cons, e2, List.lookup_cons, e1]
      exact True.intro
/-- C(e, ..), one field or two -/
theorem pmk_x (Z : XmF X.K X.prog C fI name qual params scope tx fs) (hfs : (∃ f, fs = [f] ∧ f.f ≠ "self") ∨ ∃ f f2, fs = [f, f2] ∧ f.f ≠ "self" ∧ f2.f ≠ "self" ∧ f2.f ≠ f.f) (hr : Room 1 X.A) (hg : Gl X x) (hm : X.mg x = some (.ref C)) (hs : X.mg "super" = none) (ha : PA X (e :: es) ta)
    (hdb : (x == ("__debug__" : Str)) = false) (he : starEach (e :: es) X.env = (false, eval e X.env) :: starEach es X.env) (hpl : (backTo pos (starEach es X.env)).any (·.1) = false) :
    L2N.PMk X (.Call (.Name x p) (e :: es) [] pos) (tMkX C (fs.map FTx.f) ta) := by
  intro pins s σ H Q I want
  obtain ⟨nm, q, N, bs, bm, sn, sub, ab, col, dd, k0, k1, k2, k3, k5, hC, hbm⟩ := Z.oex.cls
  refine wpAny_Call_Name_kw (ld_glob I hg hm ?_ hdb)
  refine PySem.W.callWith_K (h₀ := X.base) I.ok.mod.kin Z.oex.kC (thn (ha.run pos pins s σ H _ I want) fun us s1 ⟨vs, H1, I1, r1, hz, q1⟩ => ⟨I1.kIn, ?_⟩) he hpl
  show wpAny _ _ (call (.ref C) us) _ _ _
  obtain ⟨hp, g, dr, tk, os⟩ := s1
  have sz : hp.objs.size ≤ hp.objs.size + 1 := Nat.le_succ _
  have kk : ∀ b o, hp.get? b = some o → ((hp.push (PySem.W.kdv_tup us)).push (PySem.HandSPX.excO C hp.objs.size)).get? b = some o := fun b o z => Heap.get?_push_of_some _ (Heap.get?_push_of_some _ z)
  have hget : ((hp.push (PySem.W.kdv_tup us)).push (PySem.HandSPX.excO C hp.objs.size)).get? (hp.objs.size + 1) = some (PySem.HandSPX.excO C hp.objs.size) := by heap_get
  have hlen : us.length = fs.length := by rw [← Paired.length r1, hz, List.length_map]
  have small : fs.length ≤ 2 := by rcases hfs with ⟨f, rfl, _⟩ | ⟨f, f2, rfl, _⟩ <;> simp
  have hus : us.length ≤ sizeLine := by rw [hlen, sizeLine_eq]; omega
  obtain ⟨mb, b1, b2⟩ := I1.mod.blt
  have bk := I1.bk
  have K2 := I1.kIn.keeps kk
  have e0 := (I1.env0.make C us [])
  have rm := (hr.make C us []).depth
  have lt : ∀ b o, X.base.get? b = some o → b ≠ hp.objs.size + 1 := fun b o z => Nat.ne_of_lt (Nat.lt_succ_of_lt (Heap.lt_size (bk b o z)))
  have hKe : X.K.lookup (hp.objs.size + 1) = none := by
    cases z : X.K.lookup (hp.objs.size + 1) with
    | none => rfl
    | some o => exact absurd rfl (lt _ _ (I.ok.mod.kin _ _ z))
  have ng : mainGlobals ≠ hp.objs.size + 1 := by
    obtain ⟨o, _, _, z, _⟩ := I.ok.mod.glob
    exact lt _ _ z
  have nb : builtinsNs ≠ hp.objs.size + 1 := by
    obtain ⟨o, _, _, z, _⟩ := b1
    exact lt _ _ z
  refine wpAny_call (PySem.HandSPX.call_own F.excBase_ValueError (fun Y => PySem.HandSPX.refsVE_contains Y bm hbm) (I1.kIn _ _ hC) (PySem.W.looks_findIn I1.kIn Z.init) (fun self => PySem.W.bind_fn I1.kIn self Z.typ) hus ?_)
  have lim : ((hp.push (PySem.W.kdv_tup us)).push (PySem.HandSPX.excO C hp.objs.size)).NoLimit := I.ok.mod.nolimit.keeps fun b o z => kk _ _ (bk b o z)
  have gl : ((hp.push (PySem.W.kdv_tup us)).push (PySem.HandSPX.excO C hp.objs.size)).Ns mainGlobals X.mg := I.ok.mod.glob.keeps fun b o z => kk _ _ (bk b o z)
  have bl : ((hp.push (PySem.W.kdv_tup us)).push (PySem.HandSPX.excO C hp.objs.size)).Ns builtinsNs mb := b1.keeps fun b o z => kk _ _ (bk b o z)
  have away : ∀ {h' : Heap}, (∀ b o, b ≠ hp.objs.size + 1 → ((hp.push (PySem.W.kdv_tup us)).push (PySem.HandSPX.excO C hp.objs.size)).get? b = some o → h'.get? b = some o) → ∀ b o, hp.get? b = some o → h'.get? b = some o := fun {h'} k b o z =>
    k b o (Nat.ne_of_lt (Nat.lt_succ_of_lt (Heap.lt_size z))) (kk b o z)
  have grow : hp.objs.size ≤ ((hp.push (PySem.W.kdv_tup us)).push (PySem.HandSPX.excO C hp.objs.size)).objs.size := by
    rw [Heap.size_push, Heap.size_push]; omega
  rcases hfs with ⟨f, rfl, n1⟩ | ⟨f, f2, rfl, n1, n2, n3⟩
  · match us, r1, hlen with
    | [u], r1, _ =>
      cases r1 with
      | @cons y _ _ _ ry rt =>
        cases rt
        refine xinit1 Z K2 hKe hget gl hs bl (b2 "super" (by decide)) ng nb lim rm n1 fun h' t' t1 dx k sz2 dne hx hn => ⟨rfl, ?_⟩
        exact made Z.oex I1 sz (away k) (Nat.le_trans grow sz2) dne hx hn (relO_put (fs := []) ry fun z => True.intro) q1
  · match us, r1, hlen with
    | [u, v], r1, _ =>
      cases r1 with
      | @cons y _ _ _ ry rt =>
        cases rt with
        | @cons y2 _ _ _ ry2 rt2 =>
          cases rt2
          refine xinit2 Z K2 hKe hget gl hs bl (b2 "super" (by decide)) ng nb lim rm n1 n2 n3 fun h' t' t1 dx k sz2 dne hx hn => ⟨rfl, ?_⟩
          exact made Z.oex I1 sz (away k) (Nat.le_trans grow sz2) dne hx hn (relO_two n3 ry ry2) q1
end

/-! ### try with several clauses, with names or without -/
def goneE (D : Ends) : Option Nat → Ends
  | none => D
  | some i => { nx := fun σ' H' => D.nx (σ'.set i none) H', rt := D.rt, bk := fun σ' H' => D.bk (σ'.set i none) H', ct := fun σ' H' => D.ct (σ'.set i none) H' }
def hasE (σ : L2.St) (a : Addr) : Option Nat → L2.St
  | none => σ
  | some i => σ.set i (some (.ref a))
structure Cl where
  c : Value
  nm : Option Nat
  ts : Addr → Value → Option Addr → TS
/-- what the clauses wish -/
def wHx (K : PySem.W.Frag) (Wo : WX) (D : Ends) : List Cl → WX
  | [] => Wo
  | k :: r => fun cls d σ H => ∃ b, PySem.W.exmOne K cls k.c = some b ∧ (b = true → ∀ a, H a = none → k.ts a cls d (goneE D k.nm) (hasE σ a k.nm) H) ∧ (b = false → wHx K Wo D r cls d σ H)
/-- the name of a clause -/
def NmOk (X : Cx) : Option Str → Option Nat → Prop
  | none, none => True
  | some n, some i => X.N[i]? = some n ∧ X.env.kindOf n = some .local
  | _, _ => False
inductive Hx (X : Cx) : List ExceptHandler → List Cl → Prop
  | nil : Hx X [] []
  | cons {x : Str} {n : Option Str} {k : Cl} {b₀ : Stmt} {suite : List Stmt} {np pos' : Pos} {hds : List ExceptHandler} {l : List Cl} (hc : Names X x k.c) (hn : NmOk X n k.nm)
      (hsu : ∀ (a : Addr) (oe : Obj) (cls : Value) (d : Option Addr) (pn : List (Addr × Obj)), L2N.Zn cls d oe → (∃ vs, oe.data = .fields vs) → PSs (X.suite a ((a, oe) :: pn)) (b₀ :: suite) (k.ts a cls d)) (r : Hx X hds l) :
      Hx X (.ExceptHandler (some (.Name x np)) n (b₀ :: suite) pos' :: hds) (k :: l)
section
variable {X : Cx} {body : List Stmt} {h₀ : ExceptHandler} {hds : List ExceptHandler} {l : List Cl} {pos : Pos} {tb : WX → TS} {Wo : WX}
theorem ps_try_hx (stk : X.stack = X.env :: X.outer) (frm : X.env.frame = some X.env.locals) (nd : X.N.Nodup) (tk : L2N.Takes X Wo)
    (bodyOk : ∀ (W : WX) (pn : List (Addr × Obj)) (xe : Value → Shared → Prop), L2N.Takes (X.tr pn xe) W → PassesOwn (model X.prog X.w) X.A X.env xe → PSs (X.tr pn xe) body (tb W))
    (cls_ : Hx X (h₀ :: hds) l) : PS X (.Try body (h₀ :: hds) [] [] pos) (fun D σ H => tb (wHx X.K Wo D l) D σ H) := by
  refine ⟨fun pins s σ H D I want => ?_⟩
  have ok0 := I.ok
  have hFr : X.A.frames = some (X.env :: X.outer) := by rw [ok0.frames, stk]
  refine wpAny_Try_except ?_
  refine wpAny_mono ((bodyOk (wHx X.K Wo D l) (X.pn ++ pins) (fun ex z₁ => wpAny (model X.prog X.w) X.A (noteFrame ex X.env) (fun _ z₂ => wpAny (model X.prog X.w) X.A (setFlight ex none) (fun _ z₃ =>
    wpAny (model X.prog X.w) X.A (handleBy ex X.env (h₀ :: hds)) (SP X pins D) X.xe z₃) X.xe z₂) X.xe z₁) (fun u z' air => ?_) PassesOwn.looking).run [] s σ H D (I.toTry _) want) (fun fl z1 hsp => ?_) (fun ex z1 he => he)
  · obtain ⟨a, B, zI, pins', σ', H', cl, d, rfl, J', nb, up, sky, na, osE, ag, w⟩ := air
    have J : Inv X pins σ' H' zI := J'.ofTry ok0
    have sky2 : Sky B (X.env :: X.outer) a (L2N.Zn cl d) X.env.locals z'.heap := by rw [← stk]; exact sky
    show wpAny (model X.prog X.w) X.A (noteFrame (.ref a) X.env) _ _ _
    refine L2N.Sky.land L2N.Zn.steady hFr frm sky2 fun h3 fly3 up3 => ?_
    have J3 : Inv X pins σ' H' { z' with heap := h3 } := J.landed nb fly3.1 (up.trans up3) osE ag
    obtain ⟨o3, v3, at3, zc3, dat3⟩ := fly3.there
    have apart : ∀ {hh : Heap} {o : Obj} {vs : Array Value}, hh.FunFrames B (X.env :: X.outer) → hh.get? a = some o → o.data = .fields vs → a ∉ frs (X.env :: X.outer) := fun {hh o vs} ff ea dd hm => by
      obtain ⟨_, o', e', isno⟩ := ff.mem hm
      rw [ea] at e'; cases e'
      exact isno _ dd
    have out := apart fly3.2.2.1 at3 dat3
    have neL : a ≠ X.env.locals := fun z => out (List.mem_filterMap.mpr ⟨X.env, List.mem_cons_self, by rw [frm, z]⟩)
    have neF : a ∉ X.fs := fun hm => by
      obtain ⟨ev, hev, qv⟩ := List.mem_filterMap.mp hm
      exact out (List.mem_filterMap.mpr ⟨ev, List.mem_cons_of_mem _ hev, qv⟩)
    have S3 := J3.suite at3 dat3 na neL neF
    have along : ∀ {hs : List ExceptHandler} {ks : List Cl}, Hx X hs ks → wHx X.K Wo D ks cl d σ' H' → wpAny (model X.prog X.w) X.A (handleBy (.ref a) X.env hs) (SP X pins D) X.xe { z' with heap := h3 } := by
      intro hs ks hk
      induction hk with
      | nil =>
        intro w
        refine wpAny_handleBy_nil ?_
        obtain ⟨f1, f2, f3, o, vs, T, oT, ts', at0, zc, dt, i1, rest⟩ := id fly3
        unfold PySem.passOn
        refine wpAny_bind (wpAny_field at0 dt i1 ?_)
        rw [if_neg (show ¬ ((Value.ref T == Value.none) = true) from by simp)]
        have goes : wpAny (model X.prog X.w) X.A (setFlight (.ref a) X.env.frame) (fun _ z4 => wpAny (model X.prog X.w) X.A (throw (.ref a) : Sem Flow) (SP X pins D) X.xe z4) X.xe { z' with heap := h3 } := by
          rw [frm]
          refine HandSPX.setFlight_upZ fly3 fun h4 held4 up4 => wpAny_throw (tk _ _ ?_)
          exact ⟨a, B, zI, pins, σ', H', cl, d, rfl, J, nb, (up.trans up3).trans up4, .inr (.inr (by rw [stk]; exact held4)), na, osE, ag, w⟩
        first
          | exact wpAny_bind (wpAny_pure (wpAny_bind goes))
          | exact wpAny_bind goes
      | @cons x n k b₀ suite np pos' hds2 l2 hc hn hsu r ih =>
        intro w
        obtain ⟨b, said, yes, no⟩ := w
        refine wpAny_handleBy_cons (codeAny_handlers_test ?_) (by intro q; cases q)
        have look1 : PySem.W.Looks (model X.prog X.w) h3 (typeOf (.ref a)) cl := fun A Q E s kp q => wpAny_typeOf_ref (kp _ _ at3) (by rw [zc3.1]; exact q)
        have look2 := PySem.W.exm_one (M := model X.prog X.w) (J3.kIn) look1 said
        have named : ∀ {Q : Value → Shared → Prop} {E : Value → Shared → Prop}, Q k.c { z' with heap := h3 } → wpAny (model X.prog X.w) (X.A.mark (some (.ref a))) (eval (.Name x np) X.env) Q E { z' with heap := h3 } := fun {Q E} q => by
          obtain ⟨glob, dbg, have1 | ⟨have1, have2, have3⟩⟩ := hc
          · exact ld_glob (X := X.suite a ((a, o3) :: (X.pn ++ pins))) S3 glob have1 q dbg
          · exact ld_blt (X := X.suite a ((a, o3) :: (X.pn ++ pins))) S3 glob have1 have2 q have3 dbg
        refine named (look2.here ?_)
        cases b with
        | false =>
          show wpAny _ X.A (handleBy (.ref a) X.env hds2) _ _ _
          exact ih (no rfl)
        | true =>
          have yes1 := yes rfl a na
          obtain ⟨kc, kn, kt⟩ := k
          cases n with
          | none =>
            cases kn with
            | some i => exact hn.elim
            | none =>
              refine codeAny_handlers_suite ?_
              refine HandSPX.lands_againZ fly3 fun h4 fly4 up4 => ?_
              have J4 : Inv X pins σ' H' { z' with heap := h4 } := J.landed nb fly4.1 ((up.trans up3).trans up4) osE ag
              obtain ⟨o4, v4, at4, zc4, dat4⟩ := fly4.there
              have S4 := J4.suite at4 dat4 na neL neF
              refine wpAny_mono ((hsu a o4 cl d (X.pn ++ pins) zc4 ⟨_, dat4⟩).run [] _ _ H' _ S4 yes1) (fun fl z6 sp => ?_) (fun _ _ z => False.elim z)
              cases fl with
              | next => obtain ⟨σ6, H6, S6, q6⟩ := sp; exact ⟨_, _, S6.unsuite ok0, q6⟩
              | brk => obtain ⟨σ6, H6, S6, q6⟩ := sp; exact ⟨_, _, S6.unsuite ok0, q6⟩
              | cont => obtain ⟨σ6, H6, S6, q6⟩ := sp; exact ⟨_, _, S6.unsuite ok0, q6⟩
              | ret u => obtain ⟨v6, σ6, H6, S6, r6, q6⟩ := sp; exact ⟨_, _, _, S6.unsuite ok0, r6, q6⟩
          | some n =>
            cases kn with
            | none => exact hn.elim
            | some i =>
              obtain ⟨hi, hl⟩ := hn
              refine codeAny_handlers_suite_as ?_
              refine HandSPX.lands_againZ fly3 fun h4 fly4 up4 => ?_
              have J4 : Inv X pins σ' H' { z' with heap := h4 } := J.landed nb fly4.1 ((up.trans up3).trans up4) osE ag
              obtain ⟨o4, v4, at4, zc4, dat4⟩ := fly4.there
              have S4 := J4.suite at4 dat4 na neL neF
              refine store_ok (X := X.suite a ((a, o4) :: (X.pn ++ pins))) (v := .ref a) S4 nd hi (.inl hl) rfl (fun z5 S5 => ?_) (.inr hl)
              refine wpAny_mono ((hsu a o4 cl d (X.pn ++ pins) zc4 ⟨_, dat4⟩).run [] z5 _ H' _ S5 yes1) (fun fl z6 sp => ?_) (fun _ _ z => False.elim z)
              have off : ∀ {σ6 : L2.St} {H6 : Hp} {Q : Shared → Prop}, Inv (X.suite a ((a, o4) :: (X.pn ++ pins))) [] σ6 H6 z6 → (∀ z7, Inv X pins (σ6.set i none) H6 z7 → Q z7) →
                  wpAny (model X.prog X.w) X.A (do bindName X.env n .none; unbindBehindTheSuite X.env n pos') (fun _ z7 => Q z7) X.xe z6 := fun {σ6 H6 Q} S6 hq => gone_ok (S6.unsuite ok0) nd hi hl hq
              cases fl with
              | next => obtain ⟨σ6, H6, S6, q6⟩ := sp; exact off S6 fun z7 J7 => ⟨_, _, J7, q6⟩
              | brk => obtain ⟨σ6, H6, S6, q6⟩ := sp; exact off S6 fun z7 J7 => ⟨_, _, J7, q6⟩
              | cont => obtain ⟨σ6, H6, S6, q6⟩ := sp; exact off S6 fun z7 J7 => ⟨_, _, J7, q6⟩
              | ret u => obtain ⟨v6, σ6, H6, S6, r6, q6⟩ := sp; exact off S6 fun z7 J7 => ⟨_, _, _, J7, r6, q6⟩
    exact along cls_ w
  · cases fl with
    | next => obtain ⟨σ2, H2, J2, q⟩ := hsp; exact wpAny_execs_nil ⟨σ2, H2, J2.ofTry ok0, q⟩
    | brk => obtain ⟨σ2, H2, J2, q⟩ := hsp; exact ⟨σ2, H2, J2.ofTry ok0, q⟩
    | cont => obtain ⟨σ2, H2, J2, q⟩ := hsp; exact ⟨σ2, H2, J2.ofTry ok0, q⟩
    | ret u => obtain ⟨v, σ2, H2, J2, r, q⟩ := hsp; exact ⟨v, σ2, H2, J2.ofTry ok0, r, q⟩
end
end DX

/-! What a def promises that is called while an error is handled: its promise is told the error. -/
namespace DH
open PySem PySem.Spec L2
open L2H hiding St
open PyProof.Rows hiding St
set_option autoImplicit false
/-- a def's promise, by the error that is handled -/
abbrev SpP := Addr × Obj → Sp
structure FnP (P : Program) (w : World) (K : PySem.W.Frag) (mg : Str → Option Value) (base : Heap) (CX : CXT) (k : Nat) (f : Addr) (fd : FuncData) (ps : List Str) (sp : SpP) : Prop where
  len : ∀ p vs H Q E, sp p vs H Q E → vs.length = ps.length
  run : ∀ (A : Around) (outer : List Env) (s : Shared) (H : Hp) (args : Args) (us : List Value) (vs : List V) (Q : VK) (E : XK) (p : Addr × Obj), RoomH k A → Hot1 A p → PinOk outer H s p → Env0 P w K mg base A outer s H → BindsTo s fd args (ps.zip us) → Vals vs us → sp p vs H Q E →
    codeAny (model P w) A (.call (.ref f) args) (CR CX outer P w H s Q E) s
theorem FnP.mono {P : Program} {w : World} {K : PySem.W.Frag} {mg : Str → Option Value} {base : Heap} {CX : CXT} {j k : Nat} {f : Addr} {fd : FuncData} {ps : List Str} {sp : SpP} (F : FnP P w K mg base CX j f fd ps sp) (h : j ≤ k) : FnP P w K mg base CX k f fd ps sp :=
  ⟨F.len, fun A outer s H args us vs Q E p hr => F.run A outer s H args us vs Q E p (hr.mono h)⟩
theorem FnP.imp {P : Program} {w : World} {K : PySem.W.Frag} {mg : Str → Option Value} {base : Heap} {CX : CXT} {k : Nat} {f : Addr} {fd : FuncData} {ps : List Str} {sp sp' : SpP} (F : FnP P w K mg base CX k f fd ps sp) (h : ∀ p vs H Q E, sp' p vs H Q E → sp p vs H Q E) : FnP P w K mg base CX k f fd ps sp' :=
  ⟨fun p vs H Q E q => F.len p vs H Q E (h p vs H Q E q), fun A outer s H args us vs Q E p a b c d e g q => F.run A outer s H args us vs Q E p a b c d e g (h p vs H Q E q)⟩
end DH

/-! Expressions over data, one construct a lemma. -/
namespace DL
open PySem PySem.Spec L2
set_option autoImplicit false

/-! ### what an expression's form settles -/
def plainE : Expr → Bool
  | .Starred .. => false
  | .Set .. => false
  | .Slice .. => false
  | _ => true
theorem star_cons {e : Expr} (h : plainE e = true) (es : List Expr) (env : PySem.Env) : starEach (e :: es) env = (false, eval e env) :: starEach es env := by
  cases e <;> first | rfl | (simp [plainE] at h)
theorem nobeh {e : Expr} (h : plainE e = true) (o : CmpOp) : behindInMarks o e = false := by
  cases e <;> first | rfl | (simp [plainE] at h)
theorem plainix {e : Expr} (h : plainE e = true) : PlainIx e := by
  intro o i
  cases e <;> first | rfl | (simp [plainE] at h)
theorem plains (env : PySem.Env) (pos : Pos) : ∀ es : List Expr, es.all plainE = true → (backTo pos (starEach es env)).any (·.1) = false
  | [], _ => rfl
  | e :: es, h => by
    rw [List.all_cons, Bool.and_eq_true] at h
    rw [star_cons h.1]
    show (false || (backTo pos (starEach es env)).any (·.1)) = false
    rw [plains env pos es h.2]
    rfl
theorem foldset {e : Expr} (h : plainE e = true) (env : PySem.Env) (x : Value) : foldedSetIterable e env x = pure x := by
  cases e <;> first | rfl | (simp [plainE] at h)
/-- no test of its own form -/
def valE : Expr → Bool
  | .UnaryOp .Not _ _ => false
  | .BoolOp .. => false
  | .IfExp .. => false
  | .Compare .. => false
  | _ => true
theorem istrue {e : Expr} (h : valE e = true) (env : PySem.Env) : ∀ whole, isTrue e env whole = (do let v ← whole; standAt e.pos; holding [v] (truthy v)) := by
  intro wh
  cases e with
  | UnaryOp o a p => cases o <;> first | rfl | (simp [valE] at h)
  | _ => first | rfl | (simp [valE] at h)
/-! ### the context -/
/-- a def of the text: of a class, or of the module -/
structure Fe where
  cls : Option Nat
  name : Str
  deriving DecidableEq
/-- names by their numbers -/
structure Tb where
  fns : List Fe
  cons : List (Option Str)
  cls : List Str
  free : List Str
  flds : List Str
  props : List (Str × Nat)
  tups : List Str := []
  xcs : List (Option Str) := []
  xs0 : List (Nat × Str) := []
  xs1 : List (Nat × Str × List Str) := []
  xfs : List (Nat × Str) := []
  hfs : List (Nat × Str) := []
  xb : Option Str := none
  kis : List (Nat × Str) := []
  kve : Bool := false
  xfe : List Str := []
  hot : Bool := false
/-- .. where an error is handled -/
abbrev Tb.heat (t : Tb) : Tb := { t with fns := [], props := [], hot := true }
class Cold (tb : Tb) : Prop where
  c : tb.hot = false
/-- the constant v is a tuple of the module -/
def TupK (G : Gx) (v : V) : Prop := ∃ a o, v = .ref a ∧ G.K.lookup a = some o ∧ o.cls = .type "tuple" ∧ o.dict = none
/-- the class at C, whose __init__ keeps its parameters as fields -/
def XmOk (K : PySem.W.Frag) (P : Program) (C : Addr) (fs : List Str) : Prop := ∃ (fI : Addr) (name qual : Str) (params : Arguments) (scope : Scope) (tx : DX.XTx) (ft : List DX.FTx), DX.XmF K P C fI name qual params scope tx ft ∧ ft.map DX.FTx.f = fs ∧
  ((∃ f, ft = [f] ∧ f.f ≠ "self") ∨ ∃ f f2, ft = [f, f2] ∧ f.f ≠ "self" ∧ f2.f ≠ "self" ∧ f2.f ≠ f.f)
/-- what a def promises, by m -/
def spU (G : Gx) (m : List U → Store → M U) : Sp := fun vs H Q E => ∃ F r S us, Rp G F r S H ∧ Paired (IsU G F r) vs us ∧ Post G (fun c d _ H' => E c d H') [] (IsU G) F r (m us S) Q
/-- the caught errors' classes, by the class that catches all, by isinstance, by fields -/
structure XkOk (G : Gx) (tb : Tb) (mg : Str → Option Value) : Prop where
  er : tb.hot = false → G.er = none
  xb : ∀ x, tb.xb = some x → ∃ a, mg x = some (.ref a) ∧ ∀ n < 8, PySem.W.exmOne G.K (.ref (G.xc n)) (.ref a) = some true
  xe : tb.xb.isSome = true → ∀ n < 8, ExcC G.K (G.xc n)
  ki : ∀ (k : Nat) (x : Str), (k, x) ∈ tb.kis → mg x = some (.ref (G.xc k)) ∧ ∀ n < 8, PySem.W.kitOne G.K (.ref (G.xc n)) (.ref (G.xc k)) = some (decide (n = k))
  kv : tb.kve = true → ∀ n < 8, PySem.W.kitOne G.K (.ref (G.xc n)) (.type "ValueError") = some true
  xf : ∀ f ∈ tb.xfe, ∀ n < 8, XfC G.K (G.xc n) ∧ PySem.W.findIn G.K (.ref (G.xc n)) f = some none
/-- the world around a body: its callees keep their promises at level j -/
structure Wd (G : Gx) (Γ : Ev) (tb : Tb) (P : Program) (mg : Str → Option Value) (base : Heap) (j : Nat) : Prop where
  fn : ∀ (f : Nat) (x : Str), tb.fns[f]? = some ⟨none, x⟩ → ∃ a fd ps, mg x = some (.ref a) ∧ PySem.W.keepIn G.K (.ref a) = true ∧ Binds G.K fd ps [] ∧ FnOk P G.w G.K mg base (L2N.CX P G.w) j a fd ps (spU G (Γ.fn f))
  mt : ∀ (f c : Nat) (x : Str), tb.fns[f]? = some ⟨some c, x⟩ → c < tb.cls.length → ∃ a fd ps, PySem.W.findIn G.K (.ref (G.cd c)) x = some (some (.ref a)) ∧ PySem.W.isFn G.K (.ref a) = true ∧ PySem.W.keepIn G.K (.ref a) = true ∧ Binds G.K fd ps [] ∧ FnOk P G.w G.K mg base (L2N.CX P G.w) j a fd ps (spU G (Γ.fn f))
  pr : ∀ (x : Str) (f : Nat), (x, f) ∈ tb.props → ∃ p a fd ps, PropOf G.K (G.cd 0) x p a ∧ Binds G.K fd ps [] ∧ FnOk P G.w G.K mg base (L2N.CX P G.w) j a fd ps (spU G (Γ.fn f))
  cl : ∀ (c : Nat) (x : Str), tb.cls[c]? = some x → mg x = some (.ref (G.cd c)) ∧ Cls G.K (G.cd c) ∧ PySem.W.makesIn G.K (G.cd c) = true ∧ PySem.W.keepIn G.K (.ref (G.cd c)) = true
  nc : Γ.nc = tb.cls.length
  con : ∀ (k : Nat) (x : Str), tb.cons[k]? = some (some x) → ∃ u v, mg x = some u ∧ RelV v u ∧ ∀ F, Is G F v (Γ.con k)
  fr : ∀ x ∈ tb.free, mg x = none
  noat : ∀ c < tb.cls.length, ∀ x ∈ tb.flds, NoAttr G.K (G.cd c) x
  drv : G.dr = true → DrvOk G
  tk : ∀ x ∈ tb.tups, ∀ u v, mg x = some u → RelV v u → TupK G v
  xc : ∀ (k : Nat) (x : Str), tb.xcs[k]? = some (some x) → mg x = some (.ref (G.xc k)) ∧ ∀ n < 8, PySem.W.exmOne G.K (.ref (G.xc n)) (.ref (G.xc k)) = some (decide (n = k))
  x0 : ∀ (k : Nat) (x : Str), (k, x) ∈ tb.xs0 → mg x = some (.ref (G.xc k)) ∧ PySem.W.excIn G.K (G.xc k) He.veBase "ValueError.__new__" = true ∧ PySem.W.keepIn G.K (.ref (G.xc k)) = true ∧ PySem.W.subIn G.K (.ref (G.xc k)) (.type "BaseException") = some true ∧ PySem.W.typeIn G.K (.ref (G.xc k)) = some (.type "type")
  x1 : ∀ (k : Nat) (x : Str) (fs : List Str), (k, x, fs) ∈ tb.xs1 → mg x = some (.ref (G.xc k)) ∧ mg "super" = none ∧ XmOk G.K P (G.xc k) fs
  xf : ∀ (k : Nat) (f : Str), (k, f) ∈ tb.xfs → XfC G.K (G.xc k) ∧ PySem.W.findIn G.K (.ref (G.xc k)) f = some none
  hfn : ∀ (f : Nat) (x : Str), (f, x) ∈ tb.hfs → ∃ a fd ps, mg x = some (.ref a) ∧ PySem.W.keepIn G.K (.ref a) = true ∧ Binds G.K fd ps [] ∧ DH.FnP P G.w G.K mg base (L2N.CX P G.w) j a fd ps (fun p => spU (G.hot p) (Γ.fn f))
  xk : XkOk G tb mg
/-- what is known of a place in the text -/
structure Sc where
  N : List Str
  sc : Scope
  top : Bool
theorem passN {X : Cx} : Passes (L2N.CX X.prog X.w) X E0 := fun _ _ _ _ _ _ _ h => by
  obtain ⟨_, _, _, _, _, _, _, _, _, _, _, _, z⟩ := h
  exact z.elim
theorem takes0N {X : Cx} : L2N.Takes X (fun _ _ _ _ => False) := fun u s1 ⟨_, _, _, _, _, _, _, _, _, _, _, _, _, _, _, _, w⟩ => by first | exact w.elim | exact w.2.elim

structure Ct (G : Gx) (Γ : Ev) (tb : Tb) (c : Sc) (X : Cx) (W : WX) (j : Nat) : Prop where
  K : X.K = G.K
  w : X.w = G.w
  N : X.N = c.N
  sc : X.env.scope = c.sc
  nd : X.N.Nodup
  calm0 : tb.hot = false → X.calm = true
  tk : L2N.Takes X W
  top : c.top = true → ∀ x, X.fn x = true
  room0 : tb.hot = false → Room (j + 1) X.A
  roomH : L2H.RoomH (j + 1) X.A
  wd : Wd G Γ tb X.prog X.mg X.base j
section
variable {G : Gx} {Γ : Ev} {tb : Tb} {c : Sc} {X : Cx} {W : WX} {j : Nat}
theorem Ct.room [k : Cold tb] (C : Ct G Γ tb c X W j) : Room (j + 1) X.A := C.room0 k.c
theorem Ct.calm [k : Cold tb] (C : Ct G Γ tb c X W j) : X.calm = true := C.calm0 k.c
theorem Ct.un (C : Ct G Γ tb c X W j) : X.A.units + 65 < cLine := by have := C.roomH.un; omega
theorem Ct.nox (C : Ct G Γ tb c X W j) : Ct G Γ tb c X.nox (fun _ _ _ _ => False) j :=
  ⟨C.K, C.w, C.N, C.sc, C.nd, C.calm0, takes0N, C.top, C.room0, C.roomH, C.wd⟩

def isVisB (c : Sc) (i : Nat) (x : Str) : Bool := decide (c.N[i]? = some x) && (match c.sc.names.lookup x with
  | some .local => true | some .cell => true | some .free => true | _ => false) && !(x == ("__debug__" : Str)) && !(x == ("__classdict__" : Str))
def isLocB (c : Sc) (i : Nat) (x : Str) : Bool := decide (c.N[i]? = some x) && (match c.sc.names.lookup x with
  | some .local => true | some .cell => c.top | _ => false)
def isGlB (c : Sc) (x : Str) : Bool := decide (c.sc.names.lookup x = some .globalImplicit) && !(x == ("__debug__" : Str))
theorem gl_of (C : Ct G Γ tb c X W j) {x : Str} (h : isGlB c x = true) : Gl X x ∧ (x == ("__debug__" : Str)) = false := by
  unfold isGlB at h
  simp only [Bool.and_eq_true, decide_eq_true_eq, Bool.not_eq_true'] at h
  refine ⟨?_, h.2⟩
  show X.env.scope.names.lookup x = _
  rw [C.sc]; exact h.1

/-! ### constants, names -/
variable {pos : Pos}
theorem de_int {i : Int} {k : Nat} : PE X (.Constant (.int i) k pos) (rdE G Γ W (.int i)) := pe_imp pe_int fun σ H Q ⟨F, r, S, e, R, L, p⟩ => Post.done p .refl R (.d (.int i))
theorem de_str {i : Str} {k : Nat} : PE X (.Constant (.str i) k pos) (rdE G Γ W (.str i)) := pe_imp pe_str fun σ H Q ⟨F, r, S, e, R, L, p⟩ => Post.done p .refl R (.d (.str i))
theorem de_bl {i : Bool} {k : Nat} : PE X (.Constant (.bool i) k pos) (rdE G Γ W (.bl i)) := pe_imp pe_bl fun σ H Q ⟨F, r, S, e, R, L, p⟩ => Post.done p .refl R (.d (.bl i))
theorem de_non {k : Nat} : PE X (.Constant .none k pos) (rdE G Γ W .non) := pe_imp pe_non fun σ H Q ⟨F, r, S, e, R, L, p⟩ => Post.done p .refl R (.d .non)
theorem de_var (C : Ct G Γ tb c X W j) {i : Nat} {x : Str} (h : isVisB c i x = true) : PE X (.Name x pos) (rdE G Γ W (.var i)) := by
  unfold isVisB at h
  simp only [Bool.and_eq_true, decide_eq_true_eq, Bool.not_eq_true'] at h
  obtain ⟨⟨⟨h1, h2⟩, h3⟩, h4⟩ := h
  refine pe_imp (pe_var (i := i) (by rw [C.N]; exact h1) ?_ h3 h4) fun σ H Q ⟨F, r, S, e, R, L, p⟩ => ?_
  · unfold Vis
    rw [C.sc]
    split at h2
    · rename_i q; exact .inl q
    · rename_i q; exact .inr (.inl q)
    · rename_i q; exact .inr (.inr q)
    · cases h2
  · unfold evE at p
    split at p
    · rename_i u hu
      obtain ⟨v, a, b⟩ := L.at_ i u hu
      exact ⟨v, a, Post.done p .refl R b⟩
    · exact p.elim
theorem de_con (C : Ct G Γ tb c X W j) {k : Nat} {x : Str} (h : isGlB c x = true) (hk : tb.cons[k]? = some (some x)) : PE X (.Name x pos) (rdE G Γ W (.con k)) := by
  obtain ⟨g1, g2⟩ := gl_of C h
  obtain ⟨u, v, a, b, d⟩ := C.wd.con k x hk
  exact pe_imp (pe_glob g1 a b g2) fun σ H Q ⟨F, r, S, e, R, L, p⟩ => Post.done p .refl R (.d (d F))

/-! ### operators -/
/-- tuple * n that gives the tuple itself -/
theorem tuple_mulSame (l : Addr) (items : Array Value) (n : Nat) (dd : Option Addr) (sl : Array (Option Value)) (x : Int) (u : Tok) (c0 : (decide (x < -(2 ^ 63)) || decide (x ≥ 2 ^ 63)) = false) (c1 : (items.isEmpty || x == 1) = true) :
    Meets (Builtin.«tuple.__mul__» ⟨[.ref l, .int x u], []⟩) (fun _ R s => s.heap.get? l = some { cls := .type "tuple", dict := dd, data := .seq items n, slots := sl } ∧
      R (.ok (.ret (Value.ref l))) s) :=
  .of_wp fun prog w A R s h => by
    obtain ⟨hp, g, d, tk, os⟩ := s
    obtain ⟨hl, h⟩ := h
    have f1 := AutoSeq1.idx_int
    wp_walk using wpAny_loadPart' hl
    repeat (first
      | (refine wpAny_ite_false (decide_eq_false (by rw [c0]; exact Bool.false_ne_true)) ?_; wp_walk using wpAny_loadPart' hl)
      | (refine wpAny_ite_true (decide_eq_true c1) ?_; wp_walk using wpAny_loadPart' hl))
    exact ⟨_, rfl, h⟩
def rRepT1 (K : PySem.W.Frag) : R2 := fun x y H Q => ∃ l k xs, x = .ref l ∧ y = .int k ∧ SqT K H l xs ∧ (xs = [] ∨ k = 1) ∧ -1000000 ≤ k ∧ k ≤ 1000000 ∧ Q (.ref l) H
section
variable {X : Cx} {G : Gx}
theorem op_repT1 : OpR X (binaryOp .Mult) (rRepT1 X.K) := by
  intro pins s σ H x y v u Q I rx ry h
  obtain ⟨l, k, xs, rfl, rfl, hT, h1, h2, h3, q⟩ := h
  cases rx
  obtain ⟨t, rfl⟩ := ry
  obtain ⟨its, r, ⟨⟨cls, dd, data, sl⟩, ho, hc, n, hd⟩, hs⟩ := I.tuple hT
  simp only at hc hd
  subst hc hd
  have hle : its.length = xs.length := r.length.symm
  have c0 : (decide (k < -(2 ^ 63)) || decide (k ≥ 2 ^ 63)) = false := by
    rw [decide_eq_false (by omega), decide_eq_false (by omega)] <;> rfl
  have c1 : (its.toArray.isEmpty || k == 1) = true := by
    rcases h1 with h1 | h1
    · subst h1
      have : its = [] := List.eq_nil_of_length_eq_zero hle
      subst this
      rfl
    · subst h1
      simp
  refine wpAny_binaryOp_repeat_ref (T := "tuple") (U := "int") (by decide) ⟨_, ho, rfl⟩ (fun s' => typeIs_int s' k t) noFill_tuple_mul F.fills_int_mul F.slot_int_rmul repeat_tuple F.slot_int_index.lookup
    (call_meets F.slot_int_rmul (typeIs_int s k t) F.entry_int_rmul (F.args_int_rmul_2 _ _) (int_rmul_tuple k t l its.toArray n dd sl)
      ⟨ho, rfl, ⟨_, ho, rfl⟩, call_meets F.slot_tuple_mul ⟨_, ho, rfl⟩ F.entry_tuple_mul (F.args_tuple_mul_2 _ _) (tuple_mulSame l its.toArray n dd sl k t c0 c1) ⟨ho, ?_⟩⟩)
  exact ⟨.ref l, H, I, rfl, q⟩
theorem str_flat (z : Str) : ∀ k : Nat, (List.replicate k z.cps).foldl (· ++ ·) #[] = ((List.replicate k z.cps.toList).flatten).toArray := by
  have h : ∀ (k : Nat) (acc : Array Nat), (List.replicate k z.cps).foldl (· ++ ·) acc = (acc.toList ++ (List.replicate k z.cps.toList).flatten).toArray := by
    intro k
    induction k with
    | zero => intro acc; simp
    | succ k ih =>
      intro acc
      rw [List.replicate_succ, List.foldl_cons, ih, List.replicate_succ, List.flatten_cons]
      simp
  intro k
  rw [h k #[]]
  simp
theorem op_mulStr : OpR X (binaryOp .Mult) (fun x y H Q => ∃ (z : Str) (k : Int), x = .str z ∧ y = .int k ∧ 1 ≤ k ∧ k ≤ 1000 ∧ z.length ≤ 1000 ∧ Q (.str ⟨(repl z.cps.toList k).toArray⟩) H) := by
  intro pins s σ H x y v u Q I rx ry h
  obtain ⟨z, k, rfl, rfl, h1, h2, h3, q⟩ := h
  obtain ⟨t, rfl⟩ := rx
  obtain ⟨t2, rfl⟩ := ry
  have lm : z.length * k.toNat ≤ 1000000 := by
    have a1 : z.length * k.toNat ≤ 1000 * 1000 := Nat.mul_le_mul h3 (by omega)
    omega
  have ho : ∀ w : Str, w = ⟨(repl z.cps.toList k).toArray⟩ → Q (.str w) H := fun w e => by rw [e]; exact q
  refine PySem.P.mul_str (by rw [decide_eq_false (by omega), decide_eq_false (by omega)] <;> rfl) (fun _ _ => ?_) (fun _ _ => ?_) ?_
  · have d1 : (2 ^ 63 - 1) / (1000 : Int) ≤ (2 ^ 63 - 1) / k := by
      refine Int.le_ediv_of_mul_le (by omega) ?_
      have : (2 ^ 63 - 1 : Int) / 1000 * k ≤ (2 ^ 63 - 1 : Int) / 1000 * 1000 := Int.mul_le_mul_of_nonneg_left h2 (by decide)
      refine Int.le_trans this (by decide)
    have d2 : (1000 : Int) ≤ (2 ^ 63 - 1) / (1000 : Int) := by decide
    omega
  · unfold Builtin.Str.tooLong
    rw [sizeLine_eq]
    exact decide_eq_false (by omega)
  · rw [if_neg (by omega)]
    by_cases hk : (k == 1 || z.length == 0) = true
    · rw [if_pos hk]
      refine ⟨.str z, H, I, ⟨t, rfl⟩, ho z ?_⟩
      rw [Bool.or_eq_true] at hk
      rcases hk with hk | hk
      · have : k = 1 := by simpa using hk
        subst this
        unfold repl
        simp
      · have : z.cps.toList = [] := by
          have : z.cps.size = 0 := by simpa [Str.length] using hk
          exact List.eq_nil_of_length_eq_zero (by simpa using this)
        unfold repl
        rw [this]
        have e : z.cps = #[] := Array.toList_inj.mp this
        have f : (List.replicate k.toNat ([] : List Nat)).flatten = [] := by simp
        rw [f]
        cases z
        simp only at e
        rw [e]
    · rw [if_neg hk]
      have e := str_flat z k.toNat
      refine ⟨?_, .str _, H, I.tok _, ⟨_, rfl⟩, ho _ (by unfold repl; rw [e])⟩
      rw [e, sizeLine_eq]
      show (List.toArray _).size ≤ 16777216
      rw [List.size_toArray, PyProof.Rows.lm_len_rep_flat]
      have : z.cps.toList.length = z.length := by simp [Str.length]
      rw [this, Nat.mul_comm]
      omega
end
theorem or_mul (hK : X.K = G.K) : OpR X (binaryOp .Mult) (rD2 G (bopD .mul)) := by
  refine opr_imp (OpR.or (OpR.or op_mul (OpR.or op_rep op_repT)) (OpR.or op_repT1 op_mulStr)) fun x y H Q h => ?_
  obtain ⟨F, r, S, d1, d2, d, R, h1, h2, hg, q⟩ := h
  unfold bopD at hg
  split at hg
  all_goals first | contradiction | skip
  · split at hg
    · rename_i hl
      cases hg; cases h1; cases h2
      refine .inl (.inl ⟨_, _, rfl, rfl, ?_, q F _ H (Same.refl F) R (.int _)⟩)
      rw [Bool.or_eq_true] at hl
      rcases hl with hl | hl
      · exact .inl (small64_of hl)
      · exact .inr (small64_of hl)
    · cases hg
  · split at hg
    · rename_i l k _ hl
      obtain ⟨hne, k0, k1, k2⟩ := hl
      cases hg; cases h2
      obtain ⟨a, xs, rfl, ha, t⟩ := rp_tups R h1
      refine .inl (.inr (.inr ⟨a, k, xs, rfl, rfl, by rw [hK]; exact ha, ?_, k0, k1, by rw [t.length]; exact k2, fun p hp => ?_⟩))
      · intro e
        subst e
        cases t
        exact hne rfl
      · obtain ⟨R1, s1, i1⟩ := new_tup R hp (t.flat k.toNat)
        exact q _ _ _ s1 R1 i1
    · split at hg
      · rename_i l k _ _ hl
        obtain ⟨h3, k0, k1⟩ := hl
        cases hg; cases h2
        obtain ⟨a, xs, rfl, ha, t⟩ := rp_tups R h1
        refine .inr (.inl ⟨a, k, xs, rfl, rfl, by rw [hK]; exact ha, h3.imp (fun e => ?_) id, k0, k1, q F _ H (Same.refl F) R h1⟩)
        subst e
        cases t
        rfl
      · cases hg
  · split at hg
    · rename_i z k _ hl
      obtain ⟨k0, k1, k2⟩ := hl
      cases hg; cases h1; cases h2
      exact .inr (.inr ⟨z, k, rfl, rfl, k0, k1, k2, q F _ H (Same.refl F) R (.str _)⟩)
    · cases hg
  · split at hg
    · rename_i l k _ hl
      obtain ⟨k0, k1, k2⟩ := hl
      cases hg; cases h2
      obtain ⟨a, xs, rfl, ha, t⟩ := rp_lists R h1
      refine .inl (.inr (.inl ⟨a, k, xs, rfl, rfl, ha, by omega, by omega, ?_, fun p hp => ?_⟩))
      · rw [t.length, sizeLine_eq]
        have hk : k.toNat ≤ 1000 := by omega
        have := Nat.mul_le_mul k2 hk
        omega
      · obtain ⟨R1, s1, i1⟩ := new_lst R hp (t.flat k.toNat)
        exact q _ _ _ s1 R1 i1
    · cases hg
def opB : Bop → Operator
  | .add => .Add | .sub => .Sub | .mul => .Mult | .fdiv => .FloorDiv | .mod => .Mod | .pow => .Pow
theorem or_bop (hK : X.K = G.K) : ∀ o : Bop, OpR X (binaryOp (opB o)) (rD2 G (bopD o))
  | .add => or_add hK
  | .sub => or_sub
  | .mul => or_mul hK
  | .fdiv => or_fdiv
  | .mod => or_mod
  | .pow => or_pow
theorem de_bop (C : Ct G Γ tb c X W j) {a b : E} {ea eb : Expr} {o : Bop} (ha : PE X ea (rdE G Γ W a)) (hb : PE X eb (rdE G Γ W b)) : PE X (.BinOp ea (opB o) eb pos) (rdE G Γ W (.bop o a b)) :=
  pe_imp (pe_op (or_bop C.K o) ha hb) fun σ H Q ⟨F, r, S, e, R, L, p⟩ => two R L (by unfold evE at p; exact p)
theorem de_neg {a : E} {ea : Expr} (ha : PE X ea (rdE G Γ W a)) : PE X (.UnaryOp .USub ea pos) (rdE G Γ W (.neg a)) :=
  pe_imp (pe_un un_neg ha) fun σ H Q ⟨F, r, S, e, R, L, p⟩ => by unfold evE at p; exact ⟨F, r, S, e, R, L, Post.imp (Post.bnD p) fun x H1 ⟨F1, r1, S1, d1, e1, R1, q1, p1⟩ => by
    cases d1 <;> first | exact p1.elim | skip
    cases q1
    exact ⟨_, rfl, Post.done p1 .refl R1 (.d (.int _))⟩⟩
theorem de_cmp (C : Ct G Γ tb c X W j) {a b : E} {ea eb : Expr} {o : Cop} (ha : PE X ea (rdE G Γ W a)) (hb : PE X eb (rdE G Γ W b)) (hp : plainE eb = true) : PE X (.Compare ea [opC o] [eb] pos) (rdE G Γ W (.cmp o a b)) :=
  pe_imp (pe_cmpR (or_cmp C.K C.w (by have := C.un; omega) o) ha hb (nobeh hp _)) fun σ H Q ⟨F, r, S, e, R, L, p⟩ => two R L (by unfold evE at p; exact p)
theorem dt_cmp (C : Ct G Γ tb c X W j) {a b : E} {ea eb : Expr} {o : Cop} (ha : PE X ea (rdE G Γ W a)) (hb : PE X eb (rdE G Γ W b)) (hp : plainE eb = true) : PT X (.Compare ea [opC o] [eb] pos) (rdT G Γ W (.cmp o a b)) :=
  pt_imp (pt_cmpR (or_cmp C.K C.w (by have := C.un; omega) o) ha hb (nobeh hp _)) fun σ H Q ⟨F, r, S, e, R, L, p⟩ => by
    unfold evT at p
    refine ⟨F, r, S, e, R, L, Post.imp (Post.bnD p) fun x H1 ⟨F1, r1, S1, d1, e1, R1, q1, p1⟩ => ?_⟩
    refine ⟨F1, r1, S1, e, R1, L.mono e1, Post.imp (Post.bnD p1) fun y H2 ⟨F2, r2, S2, d2, e2, R2, q2, p2⟩ => ?_⟩
    cases q : cmpD o d1 d2 with
    | none => rw [q] at p2; exact p2.elim
    | some k =>
      rw [q] at p2
      refine ⟨F2, r2, S2, d1, d2, .bl k, R2, q1.mono e2.sub, q2, by simp only [q]; rfl, fun F' v H' s' R' i => ?_⟩
      cases i
      exact ⟨k, rfl, Post.done p2 (.cells s') R' rfl⟩
theorem de_chain (C : Ct G Γ tb c X W j) {a b d : E} {ea eb ed : Expr} {o o' : Cop} (ha : PE X ea (rdE G Γ W a)) (hb : PE X eb (rdE G Γ W b)) (hd : PE X ed (rdE G Γ W d)) (hp : plainE ed = true) :
    PE X (.Compare ea [opC o, opC o'] [eb, ed] pos) (rdE G Γ W (.chain o o' a b d)) := by
  have hu : X.A.units + 64 < cLine := by have := C.un; omega
  refine pe_imp (pe_chain (or_cmp C.K C.w hu o) (or_cmp C.K C.w hu o') ha hb hd (by show behindInMarks (opC o') ed = false; exact nobeh hp _)) fun σ H Q ⟨F, r, S, e, R, L, p⟩ => ?_
  unfold evE at p
  refine ⟨F, r, S, e, R, L, Post.imp (Post.bnD p) fun x H1 ⟨F1, r1, S1, d1, e1, R1, q1, p1⟩ => ?_⟩
  refine ⟨F1, r1, S1, e, R1, L.mono e1, Post.imp (Post.bnD p1) fun y H2 ⟨F2, r2, S2, d2, e2, R2, q2, p2⟩ => ?_⟩
  cases q : cmpD o d1 d2 with
  | none => rw [q] at p2; exact p2.elim
  | some k =>
    rw [q] at p2
    refine ⟨F2, r2, S2, d1, d2, .bl k, R2, q1.mono e2.sub, q2, by simp only [q]; rfl, fun F' v H' s' R' i => ?_⟩
    cases i
    refine ⟨k, rfl, ?_⟩
    cases k with
    | false => exact iteF (Post.done p2 (.cells s') R' (.d (.bl false)))
    | true =>
      refine iteT ⟨F', r2, S2, e, R', (L.mono e1).mono (e2.trans (.cells s')), Post.imp (Post.bnD (p2.mono (.cells s'))) fun z H3 ⟨F3, r3, S3, d3, e3, R3, q3, p3⟩ => ?_⟩
      obtain ⟨dd, h1, h2⟩ := Post.giv p3
      exact ⟨F3, r3, S3, d2, d3, dd, R3, (q2.mono s').mono e3.sub, q3, h1, h2⟩
theorem de_not {a : E} {ea : Expr} (ha : PE X ea (rdE G Γ W a)) : PE X (.UnaryOp .Not ea pos) (rdE G Γ W (.not a)) :=
  pe_imp (pe_not ha) fun σ H Q ⟨F, r, S, e, R, L, p⟩ => by unfold evE at p; exact ⟨F, r, S, e, R, L, Post.imp (Post.bnD p) fun x H1 ⟨F1, r1, S1, d1, e1, R1, q1, p1⟩ => by
    cases d1 <;> first | exact p1.elim | skip
    cases q1
    exact ⟨_, rfl, Post.done p1 .refl R1 (.d (.bl _))⟩⟩
theorem de_and {a b : E} {ea eb : Expr} {rest : List Expr} (ha : PE X ea (rdE G Γ W a)) (hb : PE X (.BoolOp .And (eb :: rest) pos) (rdE G Γ W b)) : PE X (.BoolOp .And (ea :: eb :: rest) pos) (rdE G Γ W (.and a b)) :=
  pe_imp (pe_and ha hb) fun σ H Q ⟨F, r, S, e, R, L, p⟩ => by unfold evE at p; exact ⟨F, r, S, e, R, L, Post.imp (Post.bnD p) fun x H1 ⟨F1, r1, S1, d1, e1, R1, q1, p1⟩ => by
    cases d1 <;> first | exact p1.elim | skip
    rename_i k
    cases q1
    refine ⟨k, rfl, ?_⟩
    cases k with
    | true => exact iteT ⟨F1, r1, S1, e, R1, L.mono e1, p1⟩
    | false => exact iteF (Post.done p1 .refl R1 (.d (.bl false)))⟩
theorem de_or {a b : E} {ea eb : Expr} {rest : List Expr} (ha : PE X ea (rdE G Γ W a)) (hb : PE X (.BoolOp .Or (eb :: rest) pos) (rdE G Γ W b)) : PE X (.BoolOp .Or (ea :: eb :: rest) pos) (rdE G Γ W (.or a b)) :=
  pe_imp (pe_or ha hb) fun σ H Q ⟨F, r, S, e, R, L, p⟩ => by unfold evE at p; exact ⟨F, r, S, e, R, L, Post.imp (Post.bnD p) fun x H1 ⟨F1, r1, S1, d1, e1, R1, q1, p1⟩ => by
    cases d1 <;> first | exact p1.elim | skip
    rename_i k
    cases q1
    refine ⟨k, rfl, ?_⟩
    cases k with
    | true => exact iteT (Post.done p1 .refl R1 (.d (.bl true)))
    | false => exact iteF ⟨F1, r1, S1, e, R1, L.mono e1, p1⟩⟩
theorem de_ite {t a b : E} {et ea eb : Expr} (ht : PT X et (rdT G Γ W t)) (ha : PE X ea (rdE G Γ W a)) (hb : PE X eb (rdE G Γ W b)) : PE X (.IfExp et ea eb pos) (rdE G Γ W (.ite t a b)) :=
  pe_imp (pe_ifExp ht ha hb) fun σ H Q ⟨F, r, S, e, R, L, p⟩ => by unfold evE at p; exact ⟨F, r, S, e, R, L, Post.imp (Post.bnd (Rel := fun _ _ (b : Bool) c => b = c) p) fun k H1 ⟨F1, r1, S1, k', e1, R1, q1, p1⟩ => by
    subst q1
    cases k with
    | true => exact iteT ⟨F1, r1, S1, e, R1, L.mono e1, p1⟩
    | false => exact iteF ⟨F1, r1, S1, e, R1, L.mono e1, p1⟩⟩

/-! ### tests -/
theorem dt_not {a : E} {ea : Expr} (ha : PT X ea (rdT G Γ W a)) : PT X (.UnaryOp .Not ea pos) (rdT G Γ W (.not a)) :=
  pt_imp (pt_not ha) fun σ H Q ⟨F, r, S, e, R, L, p⟩ => by unfold evT at p; exact ⟨F, r, S, e, R, L, Post.imp (Post.bnd (Rel := fun _ _ (b : Bool) c => b = c) p) fun k H1 ⟨F1, r1, S1, k', e1, R1, q1, p1⟩ => by
    subst q1
    exact Post.done p1 .refl R1 rfl⟩
theorem dt_and {a b : E} {ea eb : Expr} {rest : List Expr} (ha : PT X ea (rdT G Γ W a)) (hb : PW X (.BoolOp .And (eb :: rest) pos) (rdT G Γ W b)) : PW X (.BoolOp .And (ea :: eb :: rest) pos) (rdT G Γ W (.and a b)) :=
  pw_imp (pw_and ha hb) fun σ H Q ⟨F, r, S, e, R, L, p⟩ => by unfold evT at p; exact ⟨F, r, S, e, R, L, Post.imp (Post.bnd (Rel := fun _ _ (b : Bool) c => b = c) p) fun k H1 ⟨F1, r1, S1, k', e1, R1, q1, p1⟩ => by
    subst q1
    cases k with
    | true => exact iteT ⟨F1, r1, S1, e, R1, L.mono e1, p1⟩
    | false => exact iteF (Post.done p1 .refl R1 rfl)⟩
theorem dt_or {a b : E} {ea eb : Expr} {rest : List Expr} (ha : PT X ea (rdT G Γ W a)) (hb : PW X (.BoolOp .Or (eb :: rest) pos) (rdT G Γ W b)) : PW X (.BoolOp .Or (ea :: eb :: rest) pos) (rdT G Γ W (.or a b)) :=
  pw_imp (pw_or ha hb) fun σ H Q ⟨F, r, S, e, R, L, p⟩ => by unfold evT at p; exact ⟨F, r, S, e, R, L, Post.imp (Post.bnd (Rel := fun _ _ (b : Bool) c => b = c) p) fun k H1 ⟨F1, r1, S1, k', e1, R1, q1, p1⟩ => by
    subst q1
    cases k with
    | true => exact iteT (Post.done p1 .refl R1 rfl)
    | false => exact iteF ⟨F1, r1, S1, e, R1, L.mono e1, p1⟩⟩
/-- a test by its value, a bool -/
theorem dt_val {a : E} {ea : Expr} (ha : PE X ea (rdE G Γ W a)) (hv : valE ea = true) (he : ∀ e S, evT Γ a e S = bnD (evE Γ a e S) fun d S1 => match d with | .bl k => some (.ok k S1) | _ => none) : PT X ea (rdT G Γ W a) :=
  pt_imp (pt_val ha (istrue hv _)) fun σ H Q ⟨F, r, S, e, R, L, p⟩ => by rw [he] at p; exact ⟨F, r, S, e, R, L, Post.imp (Post.bnD p) fun x H1 ⟨F1, r1, S1, d1, e1, R1, q1, p1⟩ => by
    cases d1 <;> first | exact p1.elim | skip
    cases q1
    exact ⟨_, rfl, Post.done p1 .refl R1 rfl⟩⟩
/-- a if t else b, as a test -/
theorem dt_ite {t a b : E} {et ea eb : Expr} (ht : PT X et (rdT G Γ W t)) (ha : PT X ea (rdT G Γ W a)) (hb : PT X eb (rdT G Γ W b)) : PT X (.IfExp et ea eb pos) (rdT G Γ W (.ite t a b)) := by
  refine ⟨fun pins s σ H Q I ⟨F, r, S, e, R, L, p⟩ => ?_⟩
  show wpAny _ _ (isTrue et X.env (eval et X.env) >>= fun k => if k = true then isTrue ea X.env (eval ea X.env) else isTrue eb X.env (eval eb X.env)) _ _ _
  unfold evT at p
  refine wpAny_bind (thn (ht.run pins s σ H (fun k H1 => ∃ F1 r1 S1, Rp G F1 r1 S1 H1 ∧ Lo G F1 r1 σ e ∧ Post G W σ (fun _ _ (b : Bool) c => b = c) F1 r1 (if k = true then evT Γ a e S1 else evT Γ b e S1) Q) I
    ⟨F, r, S, e, R, L, Post.imp (Post.bnd (Rel := fun _ _ (b : Bool) c => b = c) p) fun k H1 ⟨F1, r1, S1, k', e1, R1, q1, p1⟩ => by subst q1; exact ⟨F1, r1, S1, R1, L.mono e1, p1⟩⟩) fun k s1 ⟨H1, I1, F1, r1, S1, R1, L1, p1⟩ => ?_)
  cases k with
  | true => rw [if_pos rfl] at p1; rw [if_pos rfl]; exact ha.run pins s1 σ H1 Q I1 ⟨F1, r1, S1, e, R1, L1, p1⟩
  | false => rw [if_neg Bool.false_ne_true] at p1; rw [if_neg Bool.false_ne_true]; exact hb.run pins s1 σ H1 Q I1 ⟨F1, r1, S1, e, R1, L1, p1⟩
end
end DL

/-! Expressions over data: subscripts, displays, calls. -/
namespace DL
open PySem PySem.Spec L2
set_option autoImplicit false
section
variable {G : Gx} {Γ : Ev} {tb : Tb} {c : Sc} {X : Cx} {W : WX} {j : Nat} {pos : Pos}

/-! ### subscripts -/
theorem de_ix (C : Ct G Γ tb c X W j) {a i : E} {ea ei : Expr} (ha : PE X ea (rdE G Γ W a)) (hi : PE X ei (rdE G Γ W i)) (hp : plainE ei = true) : PE X (.Subscript ea ei pos) (rdE G Γ W (.ix a i)) :=
  pe_imp (pe_ix (IxR.or (or_ix C.K C.w (by have := C.un; omega)) ix_list) ha hi (plainix hp)) fun σ H Q ⟨F, r, S, e, R, L, p⟩ => by
    unfold evE at p
    refine ⟨F, r, S, e, R, L, Post.imp (Post.bnd (Rel := IsU G) p) fun x H1 ⟨F1, r1, S1, u, e1, R1, q1, p1⟩ => ?_⟩
    refine ⟨F1, r1, S1, e, R1, L.mono e1, Post.imp (Post.bnD p1) fun y H2 ⟨F2, r2, S2, d2, e2, R2, q2, p2⟩ => ?_⟩
    cases q1 with
    | d q1 =>
      obtain ⟨d, h1, h2⟩ := Post.giv p2
      exact .inl ⟨F2, r2, S2, _, d2, d, R2, q1.mono e2.sub, q2, h1, h2⟩
    | err _ _ _ => exact p2.elim
    | loc q1 =>
      simp only at p2
      split at p2
      · rename_i l k hl
        cases q2
        obtain ⟨d, h1, h2⟩ := Post.giv p2
        obtain ⟨t', h3⟩ := e2.pre _ _ _ q1
        obtain ⟨xs, h4, h5⟩ := R2.list h3 hl
        obtain ⟨v, h6, h7⟩ := at_is h5 h1
        exact .inr ⟨_, xs, _, v, rfl, rfl, SqL.of h4, h6, h2 F2 v H2 (Same.refl _) R2 h7⟩
      · exact p2.elim
theorem do_nil : PO X none (rdP G Γ W .nil) := po_imp po_none fun σ H Q ⟨F, r, S, e, R, L, p⟩ => Post.done p .refl R rfl
theorem do_some {a t : E} {ea : Expr} (ha : PE X ea (rdE G Γ W a)) : PO X (some ea) (rdP G Γ W (.cons a t)) := po_imp (po_some ha) fun σ H Q ⟨F, r, S, e, R, L, p⟩ => by
  unfold evP at p
  exact ⟨F, r, S, e, R, L, Post.imp (Post.bnD p) fun x H1 ⟨F1, r1, S1, d1, e1, R1, q1, p1⟩ => by
    cases d1 <;> first | exact p1.elim | skip
    cases q1
    exact ⟨_, rfl, Post.done p1 .refl R1 rfl⟩⟩
theorem de_sl (C : Ct G Γ tb c X W j) {a lo hi : E} {ea : Expr} {el eh : Option Expr} {p2 : Pos} (ha : PE X ea (rdE G Γ W a)) (hl : PO X el (rdP G Γ W lo)) (hh : PO X eh (rdP G Γ W hi)) : PE X (.Subscript ea (.Slice el eh none p2) pos) (rdE G Γ W (.sl a lo hi)) :=
  pe_imp (pe_slice (or_sl C.K) ha hl hh) fun σ H Q ⟨F, r, S, e, R, L, p⟩ => by
    unfold evE at p
    refine ⟨F, r, S, e, R, L, Post.imp (Post.bnD p) fun x H1 ⟨F1, r1, S1, d1, e1, R1, q1, p1⟩ => ?_⟩
    refine ⟨F1, r1, S1, e, R1, L.mono e1, Post.imp (Post.bnd (Rel := fun _ _ (b : Option Int) c => b = c) p1) fun l H2 ⟨F2, r2, S2, l', e2, R2, q2, p2⟩ => ?_⟩
    refine ⟨F2, r2, S2, e, R2, (L.mono e1).mono e2, Post.imp (Post.bnd (Rel := fun _ _ (b : Option Int) c => b = c) p2) fun h H3 ⟨F3, r3, S3, h', e3, R3, q3, p3⟩ => ?_⟩
    subst q2 q3
    obtain ⟨d, h1, h2⟩ := Post.giv p3
    exact ⟨F3, r3, S3, d1, d, R3, (q1.mono e2.sub).mono e3.sub, h1, h2⟩

/-! ### argument lists -/
theorem paired_mono {F F' : Hp} {r r' : Pl} (e : Ext F F' r r') {vs : List V} {us : List U} (h : Paired (IsU G F r) vs us) : Paired (IsU G F' r') vs us := by
  induction h with
  | nil => exact .nil
  | cons h _ ih => exact .cons (h.mono e) ih
theorem da_nil : PA X [] (rdL G Γ W .nil) := pa_imp pa_nil fun σ H Q ⟨F, r, S, e, R, L, p⟩ => Post.done p .refl R .nil
theorem da_cons {a t : E} {ea : Expr} {es : List Expr} (ha : PE X ea (rdE G Γ W a)) (ht : PA X es (rdL G Γ W t)) (hp : plainE ea = true) : PA X (ea :: es) (rdL G Γ W (.cons a t)) :=
  pa_imp (pa_cons ha ht (star_cons hp _ _)) fun σ H Q ⟨F, r, S, e, R, L, p⟩ => by
    unfold evL at p
    refine ⟨F, r, S, e, R, L, Post.imp (Post.bnd (Rel := IsU G) p) fun x H1 ⟨F1, r1, S1, u, e1, R1, q1, p1⟩ => ?_⟩
    refine ⟨F1, r1, S1, e, R1, L.mono e1, Post.imp (Post.bnd (Rel := fun F r => Paired (IsU G F r)) p1) fun xs H2 ⟨F2, r2, S2, us, e2, R2, q2, p2⟩ => ?_⟩
    exact Post.done p2 .refl R2 (.cons (q1.mono e2) q2)
theorem paired_d {F : Hp} {r : Pl} : ∀ {vs : List V} {l : List D}, IsL G F vs l → Paired (IsU G F r) vs (l.map U.d)
  | _, [], .nil => .nil
  | _, x :: l, .cons h t => .cons (.d h) (paired_d t)
theorem paired_app {F : Hp} {r : Pl} : ∀ {vs ws : List V} {us ts : List U}, Paired (IsU G F r) vs us → Paired (IsU G F r) ws ts → Paired (IsU G F r) (vs ++ ws) (us ++ ts)
  | _, _, _, _, .nil, h => h
  | _, _, _, _, .cons h t, q => .cons h (paired_app t q)
theorem da_star (C : Ct G Γ tb c X W j) {a t : E} {ea : Expr} {es : List Expr} {p1 : Pos} (ha : PE X ea (rdE G Γ W a)) (ht : PA X es (rdL G Γ W t)) : PA X (.Starred ea p1 :: es) (rdL G Γ W (.star a t)) :=
  pa_imp (StX.pa_star ha ht) fun σ H Q ⟨F, r, S, e, R, L, p⟩ => by
    unfold evL at p
    refine ⟨F, r, S, e, R, L, Post.imp (Post.bnD p) fun x H1 ⟨F1, r1, S1, d1, e1, R1, q1, p1⟩ => ?_⟩
    cases d1 <;> first | exact p1.elim | skip
    · obtain ⟨a', xs, rfl, h1, h2⟩ := rp_tups R1 q1
      refine ⟨a', xs, rfl, .inl (by rw [C.K]; exact h1), F1, r1, S1, e, R1, L.mono e1, Post.imp (Post.bnd (Rel := fun F r => Paired (IsU G F r)) p1) fun ys H2 ⟨F2, r2, S2, us, e2, R2, q2, p2⟩ => ?_⟩
      exact Post.done p2 .refl R2 (paired_app (paired_d (h2.mono e2.sub)) q2)
    · obtain ⟨a', xs, rfl, h1, h2⟩ := rp_lists R1 q1
      refine ⟨a', xs, rfl, .inr (SqL.of h1), F1, r1, S1, e, R1, L.mono e1, Post.imp (Post.bnd (Rel := fun F r => Paired (IsU G F r)) p1) fun ys H2 ⟨F2, r2, S2, us, e2, R2, q2, p2⟩ => ?_⟩
      exact Post.done p2 .refl R2 (paired_app (paired_d (h2.mono e2.sub)) q2)
    · cases q1 with
      | scr h1 h2 =>
        refine ⟨_, _, rfl, .inr (by rw [C.K]; exact R1.sub.seq h1), F1, r1, S1, e, R1, L.mono e1, Post.imp (Post.bnd (Rel := fun F r => Paired (IsU G F r)) p1) fun ys H2 ⟨F2, r2, S2, us, e2, R2, q2, p2⟩ => ?_⟩
        exact Post.done p2 .refl R2 (paired_app (paired_d (h2.mono e2.sub)) q2)

/-! ### displays -/
theorem de_tup {es : E} {l : List Expr} {k : Nat} (hs : PA X l (rdL G Γ W es)) : PE X (.Tuple l k pos) (rdE G Γ W (.tup es)) :=
  pe_imp (pe_tup hs) fun σ H Q ⟨F, r, S, e, R, L, p⟩ => by
    unfold evE at p
    refine ⟨F, r, S, e, R, L, Post.imp (Post.bnd (Rel := fun F r => Paired (IsU G F r)) p) fun xs H1 ⟨F1, r1, S1, us, e1, R1, q1, p1⟩ => ?_⟩
    cases q : lst1 us with
    | none => rw [q] at p1; exact p1.elim
    | some m =>
      rw [q] at p1
      have i := lst1_is q1 q
      simp only at p1
      split at p1
      · rename_i hl
        refine ⟨by rw [i.length, sizeLine_eq]; exact hl, fun a ha => ?_⟩
        obtain ⟨R2, s2, i2⟩ := new_tup R1 ha i
        exact Post.done p1 (.cells s2) R2 (.d i2)
      · exact p1.elim
theorem de_lst {es : E} {l : List Expr} (hs : PA X l (rdL G Γ W es)) : PE X (.List l pos) (rdE G Γ W (.lst es)) :=
  pe_imp (pe_lst hs) fun σ H Q ⟨F, r, S, e, R, L, p⟩ => by
    unfold evE at p
    refine ⟨F, r, S, e, R, L, Post.imp (Post.bnd (Rel := fun F r => Paired (IsU G F r)) p) fun xs H1 ⟨F1, r1, S1, us, e1, R1, q1, p1⟩ => ?_⟩
    cases q : lst1 us with
    | none => rw [q] at p1; exact p1.elim
    | some m =>
      rw [q] at p1
      have i := lst1_is q1 q
      simp only at p1
      split at p1
      · rename_i hl
        refine ⟨by rw [i.length, sizeLine_eq]; exact hl, fun a ha => ?_⟩
        obtain ⟨R2, s2, i2⟩ := new_lst R1 ha i
        exact Post.done p1 (.cells s2) R2 (.d i2)
      · exact p1.elim
/-- a new list's cell -/
theorem new_cell {F : Hp} {r : Pl} {S : Store} {H : Hp} {a : Addr} {xs : List V} {l : List D} (R : Rp G F r S H) (ha : H a = none) (i : IsL G F xs l) :
    Rp G F (r ++ [[a]]) (S ++ [.lst l]) (upd H a (.lst xs)) ∧ Ext F F r (r ++ [[a]]) ∧ IsU G F (r ++ [[a]]) (.ref a) (.loc S.length) := by
  obtain ⟨R1, e1⟩ := R.cell (H' := upd H a (.lst xs)) (l := [a]) (c := .lst l) (fun b hb => by rw [show b = a by simpa using hb]; exact ha) (by simp) (fun b hb o q => by rw [upd_ne (by simpa using hb)]; exact q) ⟨a, xs, rfl, upd_same, i⟩
  refine ⟨R1, e1, .loc (t := []) ?_⟩
  rw [← R.len, List.getElem?_append_right (Nat.le_refl _)]
  simp
theorem de_cel {es : E} {l : List Expr} (hs : PA X l (rdL G Γ W es)) : PE X (.List l pos) (rdE G Γ W (.cel es)) :=
  pe_imp (pe_lst hs) fun σ H Q ⟨F, r, S, e, R, L, p⟩ => by
    unfold evE at p
    refine ⟨F, r, S, e, R, L, Post.imp (Post.bnd (Rel := fun F r => Paired (IsU G F r)) p) fun xs H1 ⟨F1, r1, S1, us, e1, R1, q1, p1⟩ => ?_⟩
    cases q : lst1 us with
    | none => rw [q] at p1; exact p1.elim
    | some m =>
      rw [q] at p1
      have i := lst1_is q1 q
      simp only at p1
      split at p1
      · rename_i hl
        refine ⟨by rw [i.length, sizeLine_eq]; exact hl, fun a ha => ?_⟩
        obtain ⟨R2, e2, i2⟩ := new_cell R1 ha i
        exact Post.done p1 e2 R2 i2
      · exact p1.elim
theorem de_catc {a b : E} {ea eb : Expr} (ha : PE X ea (rdE G Γ W a)) (hb : PE X eb (rdE G Γ W b)) : PE X (.BinOp ea .Add eb pos) (rdE G Γ W (.catc a b)) :=
  pe_imp (pe_op op_cat ha hb) fun σ H Q ⟨F, r, S, e, R, L, p⟩ => by
    unfold evE at p
    refine ⟨F, r, S, e, R, L, Post.imp (Post.bnD p) fun x H1 ⟨F1, r1, S1, d1, e1, R1, q1, p1⟩ => ?_⟩
    refine ⟨F1, r1, S1, e, R1, L.mono e1, Post.imp (Post.bnD p1) fun y H2 ⟨F2, r2, S2, d2, e2, R2, q2, p2⟩ => ?_⟩
    cases d1 <;> cases d2 <;> first | exact p2.elim | skip
    simp only at p2
    split at p2
    · rename_i hl
      obtain ⟨a1, xs, rfl, h1, t1⟩ := rp_lists R2 (q1.mono e2.sub)
      obtain ⟨a2, ys, rfl, h2, t2⟩ := rp_lists R2 q2
      refine ⟨a1, a2, xs, ys, rfl, rfl, h1, h2, by rw [t1.length, t2.length, sizeLine_eq]; exact hl, fun a ha => ?_⟩
      obtain ⟨R3, e3, i3⟩ := new_cell R2 ha (t1.app t2)
      exact Post.done p2 e3 R3 i3
    · exact p2.elim

/-! ### calls -/
/-- a callee's promise at its arguments -/
theorem sp_of {m : List U → Store → M U} {vs : List V} {us : List U} {F : Hp} {r : Pl} {S : Store} {H : Hp} {Q : VK} {σ : St} (R : Rp G F r S H) (h : Paired (IsU G F r) vs us) (p : Post G W σ (IsU G) F r (m us S) Q) :
    spU G m vs H Q (WE W σ) := by
  refine ⟨F, r, S, us, R, h, ?_⟩
  cases q : m us S with
  | none => rw [q] at p; exact p
  | some z =>
    rw [q] at p
    cases z with
    | ok u S' => exact p
    | ex x S' => exact p
theorem de_call [Cold tb] (C : Ct G Γ tb c X W j) {f : Nat} {x : Str} {es : E} {ea : Expr} {l : List Expr} {px : Pos} (hf : tb.fns[f]? = some ⟨none, x⟩) (hg : isGlB c x = true) (hs : PA X (ea :: l) (rdL G Γ W es)) (hp : (ea :: l).all plainE = true) :
    PE X (.Call (.Name x px) (ea :: l) [] pos) (rdE G Γ W (.call f es)) := by
  obtain ⟨g1, g2⟩ := gl_of C hg
  obtain ⟨a, fd, ps, h1, h2, h3, h4⟩ := C.wd.fn f x hf
  rw [List.all_cons, Bool.and_eq_true] at hp
  refine pe_imp (pe_callS (CX := L2N.CX X.prog X.w) (by rw [C.K, C.w]; exact h4) (C.room.mono (Nat.le_succ _)) g1 h1 (by rw [C.K]; exact h2) (by rw [C.K]; exact h3) (fun σ => L2N.passAt C.tk σ) hs g2 (star_cons hp.1 _ _) (plains _ _ _ hp.2)) fun σ H Q ⟨F, r, S, e, R, L, p⟩ => ?_
  unfold evE at p
  exact ⟨F, r, S, e, R, L, Post.imp (Post.bnd (Rel := fun F r => Paired (IsU G F r)) p) fun vs H1 ⟨F1, r1, S1, us, e1, R1, q1, p1⟩ => sp_of R1 q1 p1⟩
/-- f() -/
theorem pe_callS0 {k : Nat} {f : Addr} {fd : FuncData} {ps : List Str} {sp : Sp} {E : St → XK} {x : Str} {p : Pos} (F : FnOk X.prog X.w X.K X.mg X.base (L2N.CX X.prog X.w) k f fd ps sp) (hr : Room k X.A) (hg : Gl X x) (hm : X.mg x = some (.ref f)) (hk : PySem.W.keepIn X.K (.ref f) = true)
    (hb : Binds X.K fd ps []) (hx : ∀ σ, PassesAt (L2N.CX X.prog X.w) X σ (E σ)) (hdb : (x == ("__debug__" : Str)) = false) : PE X (.Call (.Name x p) [] [] pos) (fun σ H Q => sp [] H Q (E σ)) := by
  refine ⟨fun pins s σ H Q I h => ?_⟩
  refine wpAny_Call_Name_kw (ld_glob I hg hm ?_ hdb)
  exact PySem.W.callWith_K0 I.kIn hk (run_fnS (us := []) F hr hb (hx σ) I .nil h)
theorem de_call0 [Cold tb] (C : Ct G Γ tb c X W j) {f : Nat} {x : Str} {px : Pos} (hf : tb.fns[f]? = some ⟨none, x⟩) (hg : isGlB c x = true) : PE X (.Call (.Name x px) [] [] pos) (rdE G Γ W (.call f .nil)) := by
  obtain ⟨g1, g2⟩ := gl_of C hg
  obtain ⟨a, fd, ps, h1, h2, h3, h4⟩ := C.wd.fn f x hf
  refine pe_imp (pe_callS0 (by rw [C.K, C.w]; exact h4) (C.room.mono (Nat.le_succ _)) g1 h1 (by rw [C.K]; exact h2) (by rw [C.K]; exact h3) (fun σ => L2N.passAt C.tk σ) g2) fun σ H Q ⟨F, r, S, e, R, L, p⟩ => ?_
  unfold evE evL at p
  exact sp_of R .nil p

/-! ### instances -/
/-- C(e, ..), what is raised wished for at the slots -/
theorem run_makeS {pins : List (Addr × Obj)} {σ : St} {H : Hp} {s : Shared} {Q : VK} {us : List Value} {vs : List V} {CX : CXT} {k : Nat} {f Ca : Addr} {fd : FuncData} {ps : List Str} {sp : Sp} {E : XK} (M : Mk X.K Ca f) (F : FnOk X.prog X.w X.K X.mg X.base CX k f fd ps sp) (hr : Room (k + 1) X.A)
    (hb : Binds X.K fd ps []) (hx : PassesAt CX X σ E) (I : L2.Inv X pins σ H s) (r : Vals vs us)
    (h : ∀ x dx, H x = none → H dx = none → dx ≠ x → sp (.ref x :: vs) (upd (upd H dx (.own x)) x (.ins Ca dx [])) (fun v H2 => v = .non ∧ Q (.ref x) H2) E) :
    wpAny (model X.prog X.w) X.A (call (.ref Ca) us) (EP X pins σ Q) X.xe s := by
  have hq := h (s.heap.objs.size + 1) s.heap.objs.size (I.hok.fresh (Nat.le_succ _)) (I.hok.fresh (Nat.le_refl _)) (Nat.ne_of_lt (Nat.lt_succ_self _))
  have I2 := Inv.made (C := Ca) I
  have r2 : Vals (V.ref (s.heap.objs.size + 1) :: vs) (Value.ref (s.heap.objs.size + 1) :: us) := .cons rfl r
  have hl : (Value.ref (s.heap.objs.size + 1) :: us).length = ps.length := by
    have e := r2.length
    rw [F.len _ _ _ _ hq] at e
    exact e.symm
  have bb := hb { s with heap := (s.heap.push PySem.W.emptyDict).push (PySem.W.instObj Ca s.heap.objs.size) } (Value.ref (s.heap.objs.size + 1) :: us) I2.kIn (by rw [List.append_nil]; exact hl)
  rw [List.append_nil] at bb
  refine wpAny_call (make_map (f := f) I.kIn M.makes M.init (beq_iff_eq.mp M.fn) (codeAny_mono (F.run _ X.stack _ _ ⟨Value.ref (s.heap.objs.size + 1) :: us, []⟩ _ _ _ E (hr.make Ca us []) (I2.env0.make Ca us []) bb r2 hq) fun r s' hq' => ?_))
  cases r with
  | error e => exact hx pins _ _ e s' I2 hq'
  | ok fl =>
    cases fl with
    | ret u =>
      obtain ⟨v, H', I3, rv, ev, q3⟩ := I2.after hq'
      subst ev
      exact ⟨rv, ⟨V.ref (s.heap.objs.size + 1), H', I3, rfl, q3⟩⟩
    | next => exact False.elim hq'
    | brk => exact False.elim hq'
    | cont => exact False.elim hq'
theorem pe_makeS {CX : CXT} {k : Nat} {f Ca : Addr} {fd : FuncData} {ps : List Str} {sp : Sp} {E : St → XK} {x : Str} {p : Pos} {ea : Expr} {l : List Expr} {t : TA} (M : Mk X.K Ca f) (F : FnOk X.prog X.w X.K X.mg X.base CX k f fd ps sp) (hr : Room (k + 1) X.A) (hg : Gl X x) (hm : X.mg x = some (.ref Ca))
    (hb : Binds X.K fd ps []) (hx : ∀ σ, PassesAt CX X σ (E σ)) (ha : PA X (ea :: l) t) (hdb : (x == ("__debug__" : Str)) = false) (he : starEach (ea :: l) X.env = (false, eval ea X.env) :: starEach l X.env) (hpl : (backTo pos (starEach l X.env)).any (·.1) = false) :
    PE X (.Call (.Name x p) (ea :: l) [] pos) (fun σ H Q => t σ H fun vs H1 => ∀ x dx, H1 x = none → H1 dx = none → dx ≠ x → sp (.ref x :: vs) (upd (upd H1 dx (.own x)) x (.ins Ca dx [])) (fun v H2 => v = .non ∧ Q (.ref x) H2) (E σ)) := by
  refine ⟨fun pins s σ H Q I h => ?_⟩
  refine wpAny_Call_Name_kw (ld_glob I hg hm ?_ hdb)
  refine PySem.W.callWith_K (h₀ := X.base) I.ok.mod.kin M.kp (thn (ha.run pos pins s σ H _ I h) fun us s1 ⟨vs, H1, I1, r, q⟩ => ⟨I1.kIn, ?_⟩) he hpl
  exact run_makeS M F hr hb (hx σ) I1 r q
/-- a new instance's cell -/
theorem new_ins {F : Hp} {r : Pl} {S : Store} {H : Hp} {x dx : Addr} {k : Nat} (R : Rp G F r S H) (hx : H x = none) (hd : H dx = none) (ne : dx ≠ x) :
    Rp G F (r ++ [[x]]) (S ++ [.ins k []]) (upd (upd H dx (.own x)) x (.ins (G.cd k) dx [])) ∧ Ext F F r (r ++ [[x]]) ∧ (r ++ [[x]])[S.length]? = some [x] := by
  obtain ⟨R1, e1⟩ := R.cell (H' := upd (upd H dx (.own x)) x (.ins (G.cd k) dx [])) (l := [x]) (c := .ins k []) (fun b hb => by rw [show b = x by simpa using hb]; exact hx) (by simp)
    (fun b hb o q => by rw [upd_ne (by simpa using hb), upd_ne (ne_of_none q hd)]; exact q) ⟨x, [], dx, [], rfl, upd_same, .nil⟩
  refine ⟨R1, e1, ?_⟩
  rw [← R.len, List.getElem?_append_right (Nat.le_refl _)]
  simp
theorem de_mkc [Cold tb] (C : Ct G Γ tb c X W j) {k f : Nat} {x : Str} {es : E} {ea : Expr} {l : List Expr} {px : Pos} (hk : tb.cls[k]? = some x) (hf : tb.fns[f]? = some ⟨some k, "__init__"⟩) (hg : isGlB c x = true) (hs : PA X (ea :: l) (rdL G Γ W es)) (hp : (ea :: l).all plainE = true) :
    PE X (.Call (.Name x px) (ea :: l) [] pos) (rdE G Γ W (.mkc k f es)) := by
  obtain ⟨g1, g2⟩ := gl_of C hg
  obtain ⟨a, fd, ps, h1, h2, h3, h4, h5⟩ := C.wd.mt f k _ hf (List.getElem?_eq_some_iff.mp hk).1
  obtain ⟨c1, c2, c3, c4⟩ := C.wd.cl k x hk
  rw [List.all_cons, Bool.and_eq_true] at hp
  refine pe_imp (pe_makeS (CX := L2N.CX X.prog X.w) (Ca := G.cd k) (f := a) ⟨by rw [C.K]; exact c3, by rw [C.K]; exact h1, by rw [C.K]; exact h2, by rw [C.K]; exact c4⟩ (by rw [C.K, C.w]; exact h5) C.room g1 c1 (by rw [C.K]; exact h4) (fun σ => L2N.passAt C.tk σ) hs g2 (star_cons hp.1 _ _) (plains _ _ _ hp.2)) fun σ H Q ⟨F, r, S, e, R, L, p⟩ => ?_
  unfold evE at p
  refine ⟨F, r, S, e, R, L, Post.imp (Post.bnd (Rel := fun F r => Paired (IsU G F r)) p) fun vs H1 ⟨F1, r1, S1, us, e1, R1, q1, p1⟩ y dy hy hd ne => ?_⟩
  obtain ⟨R2, e2, at2⟩ := new_ins (k := k) R1 hy hd ne
  refine sp_of (us := .loc S1.length :: us) R2 (.cons (.loc at2) (paired_mono e2 q1)) ?_
  cases q : Γ.fn f (.loc S1.length :: us) (S1 ++ [.ins k []]) with
  | none => rw [q] at p1; exact p1
  | some z =>
    rw [q] at p1
    cases z with
    | ex xx S2 =>
      intro F3 r3 cc dd H3 e3 R3 x3
      have R4 := R3.take S1.length
      exact p1 F3 (r3.take S1.length) cc dd H3 ((e2.trans e3).take _ (by rw [R1.len]; exact Nat.le_refl _)) R4 x3
    | ok u S2 =>
      cases u with
      | loc n => exact p1.elim
      | err _ => exact p1.elim
      | d d =>
        cases d <;> first | exact p1.elim | skip
        intro F3 r3 b H3 e3 R3 i3
        cases i3 with
        | d i3 =>
          cases i3
          refine ⟨rfl, p1 F3 r3 _ H3 (e2.trans e3) R3 ?_⟩
          obtain ⟨t, h⟩ := e3.pre _ _ _ at2
          exact .loc h
end
end DL

/-! Expressions over data: methods, fields, built-ins. -/
namespace DL
open PySem PySem.Spec L2
set_option autoImplicit false
section
variable {G : Gx} {Γ : Ev} {tb : Tb} {c : Sc} {X : Cx} {W : WX} {j : Nat} {pos : Pos}

/-! ### methods -/
theorem pe_methS {CX : CXT} {k : Nat} {f Ca : Addr} {fd : FuncData} {ps : List Str} {sp : Sp} {E : St → XK} {m : Str} {o ea : Expr} {l : List Expr} {ta : TE} {t : TA} {apos : Pos} {pl : Sem Bool} (he : PE X o ta) (cl : Cls X.K Ca) (hm : Meth X.K Ca m f)
    (F : FnOk X.prog X.w X.K X.mg X.base CX k f fd ps sp) (hr : Room k X.A) (hb : Binds X.K fd ps []) (hx : ∀ σ, PassesAt CX X σ (E σ)) (ha : PA X (ea :: l) t)
    (hst : starEach (ea :: l) X.env = (false, eval ea X.env) :: starEach l X.env) (hpl : (backTo pos (starEach l X.env)).any (·.1) = false)
    (ht : eval (.Call (.Attribute o m apos) (ea :: l) [] pos) X.env = (do
      let ov ← eval o X.env
      standAt apos.atName
      let (f, first) ← holding [ov] (getMethod ov m pl)
      callWith pos f first (backTo pos (starEach (ea :: l) X.env)) (backToKw pos (keywordEach [] X.env)))) :
    PE X (.Call (.Attribute o m apos) (ea :: l) [] pos) (fun σ H Q => ta σ H fun x H1 => ∃ a dx fs, x = .ref a ∧ H1 a = some (.ins Ca dx fs) ∧ fs.lookup m = none ∧ t σ H1 fun vs H2 => sp (x :: vs) H2 Q (E σ)) := by
  refine ⟨fun pins s σ H Q I h => ?_⟩
  refine PySem.W.methodCall_KW (pl := pl) (thn (he.run pins s σ H _ I h) fun u s1 ⟨x, H1, I1, rx, a, dx, fs, ex, ea, l, q⟩ => ?_) ht
  subst ex
  obtain rfl : u = Value.ref a := rx
  refine getmeth_ok I1 ea cl hm l ?_
  refine PySem.W.callWith_K (first := [.ref a]) (h₀ := X.base) I.ok.mod.kin hm.kp (thn (ha.run pos pins s1 σ H1 _ I1 q) fun us s2 ⟨vs, H2, I2, r, q2⟩ => ⟨I2.kIn, ?_⟩) hst hpl
  exact run_fnS (us := .ref a :: us) (vs := .ref a :: vs) F hr hb (hx σ) I2 (.cons rfl r) q2
theorem pe_methS0 {CX : CXT} {k : Nat} {f Ca : Addr} {fd : FuncData} {ps : List Str} {sp : Sp} {E : St → XK} {m : Str} {o : Expr} {ta : TE} {apos : Pos} {pl : Sem Bool} (he : PE X o ta) (cl : Cls X.K Ca) (hm : Meth X.K Ca m f)
    (F : FnOk X.prog X.w X.K X.mg X.base CX k f fd ps sp) (hr : Room k X.A) (hb : Binds X.K fd ps []) (hx : ∀ σ, PassesAt CX X σ (E σ))
    (ht : eval (.Call (.Attribute o m apos) [] [] pos) X.env = (do
      let ov ← eval o X.env
      standAt apos.atName
      let (f, first) ← holding [ov] (getMethod ov m pl)
      callWith pos f first (backTo pos (starEach [] X.env)) (backToKw pos (keywordEach [] X.env)))) :
    PE X (.Call (.Attribute o m apos) [] [] pos) (fun σ H Q => ta σ H fun x H1 => ∃ a dx fs, x = .ref a ∧ H1 a = some (.ins Ca dx fs) ∧ fs.lookup m = none ∧ sp [x] H1 Q (E σ)) := by
  refine ⟨fun pins s σ H Q I h => ?_⟩
  refine PySem.W.methodCall_KW (pl := pl) (thn (he.run pins s σ H _ I h) fun u s1 ⟨x, H1, I1, rx, a, dx, fs, ex, ea, l, q⟩ => ?_) ht
  subst ex
  obtain rfl : u = Value.ref a := rx
  refine getmeth_ok I1 ea cl hm l ?_
  exact PySem.W.callWith_K0 (first := [.ref a]) I1.kIn hm.kp (run_fnS (us := [.ref a]) (vs := [.ref a]) F hr hb (hx σ) I1 (.cons rfl .nil) q)
/-- an instance as the heap has it -/
theorem ins_at {k : Nat} {m : Str} {u : U} {S : Store} {F : Hp} {r : Pl} {H : Hp} {x : V} (R : Rp G F r S H) (i : IsU G F r x u) (h : insOk k m u S = true) : ∃ a dx fs, x = .ref a ∧ H a = some (.ins (G.cd k) dx fs) ∧ fs.lookup m = none := by
  unfold insOk at h
  cases i with
  | d i =>
    cases i <;> first | (simp at h; done) | skip
    rename_i h1 h2
    simp only [Bool.and_eq_true, decide_eq_true_eq, Bool.not_eq_true', decide_eq_false_iff_not] at h
    obtain ⟨rfl, hm⟩ := h
    refine ⟨_, _, _, rfl, R.sub _ _ h1, ?_⟩
    rw [List.lookup_cons]
    have q : (m == ("told" : Str)) = false := by simpa using hm
    rw [q]; rfl
  | err _ _ _ => cases h
  | loc i =>
    simp only at h
    split at h
    · rename_i c' fs hc
      simp only [Bool.and_eq_true, decide_eq_true_eq, Option.isNone_iff_eq_none] at h
      obtain ⟨rfl, hm⟩ := h
      obtain ⟨⟨a, bs, dx, vs, e, h1, h2⟩, _, _⟩ := R.cel _ _ _ i hc (fun z => by cases z)
      cases e
      exact ⟨_, dx, vs, rfl, h1, h2.none hm⟩
    · cases h
theorem de_meth [Cold tb] (C : Ct G Γ tb c X W j) {k f : Nat} {x m : Str} {a es : E} {eo ea : Expr} {l : List Expr} {apos : Pos} {pl : Sem Bool} (hk : tb.cls[k]? = some x) (hf : tb.fns[f]? = some ⟨some k, m⟩) (ho : PE X eo (rdE G Γ W a)) (hs : PA X (ea :: l) (rdL G Γ W es)) (hp : (ea :: l).all plainE = true)
    (ht : eval (.Call (.Attribute eo m apos) (ea :: l) [] pos) X.env = (do
      let ov ← eval eo X.env
      standAt apos.atName
      let (f, first) ← holding [ov] (getMethod ov m pl)
      callWith pos f first (backTo pos (starEach (ea :: l) X.env)) (backToKw pos (keywordEach [] X.env)))) :
    PE X (.Call (.Attribute eo m apos) (ea :: l) [] pos) (rdE G Γ W (.meth k f m a es)) := by
  obtain ⟨ad, fd, ps, h1, h2, h3, h4, h5⟩ := C.wd.mt f k _ hf (List.getElem?_eq_some_iff.mp hk).1
  obtain ⟨c1, c2, c3, c4⟩ := C.wd.cl k x hk
  rw [List.all_cons, Bool.and_eq_true] at hp
  refine pe_imp (pe_methS (CX := L2N.CX X.prog X.w) (Ca := G.cd k) ho (by rw [C.K]; exact c2) ⟨by rw [C.K]; exact h1, by rw [C.K]; exact h2, by rw [C.K]; exact h3⟩ (by rw [C.K, C.w]; exact h5) (C.room.mono (Nat.le_succ _)) (by rw [C.K]; exact h4) (fun σ => L2N.passAt C.tk σ) hs (star_cons hp.1 _ _) (plains _ _ _ hp.2) ht) fun σ H Q ⟨F, r, S, e, R, L, p⟩ => ?_
  unfold evE at p
  refine ⟨F, r, S, e, R, L, Post.imp (Post.bnd (Rel := IsU G) p) fun y H1 ⟨F1, r1, S1, u, e1, R1, q1, p1⟩ => ?_⟩
  cases hi : insOk k m u S1 with
  | false => rw [hi] at p1; exact p1.elim
  | true =>
    rw [hi] at p1
    simp only [if_true] at p1
    obtain ⟨a', dx, fs, rfl, g1, g2⟩ := ins_at R1 q1 hi
    refine ⟨a', dx, fs, rfl, g1, g2, F1, r1, S1, e, R1, L.mono e1, Post.imp (Post.bnd (Rel := fun F r => Paired (IsU G F r)) p1) fun vs H2 ⟨F2, r2, S2, us, e2, R2, q2, p2⟩ => ?_⟩
    exact sp_of R2 (.cons (q1.mono e2) q2) p2
theorem de_meth0 [Cold tb] (C : Ct G Γ tb c X W j) {k f : Nat} {x m : Str} {a : E} {eo : Expr} {apos : Pos} {pl : Sem Bool} (hk : tb.cls[k]? = some x) (hf : tb.fns[f]? = some ⟨some k, m⟩) (ho : PE X eo (rdE G Γ W a))
    (ht : eval (.Call (.Attribute eo m apos) [] [] pos) X.env = (do
      let ov ← eval eo X.env
      standAt apos.atName
      let (f, first) ← holding [ov] (getMethod ov m pl)
      callWith pos f first (backTo pos (starEach [] X.env)) (backToKw pos (keywordEach [] X.env)))) :
    PE X (.Call (.Attribute eo m apos) [] [] pos) (rdE G Γ W (.meth k f m a .nil)) := by
  obtain ⟨ad, fd, ps, h1, h2, h3, h4, h5⟩ := C.wd.mt f k _ hf (List.getElem?_eq_some_iff.mp hk).1
  obtain ⟨c1, c2, c3, c4⟩ := C.wd.cl k x hk
  refine pe_imp (pe_methS0 (CX := L2N.CX X.prog X.w) (Ca := G.cd k) ho (by rw [C.K]; exact c2) ⟨by rw [C.K]; exact h1, by rw [C.K]; exact h2, by rw [C.K]; exact h3⟩ (by rw [C.K, C.w]; exact h5) (C.room.mono (Nat.le_succ _)) (by rw [C.K]; exact h4) (fun σ => L2N.passAt C.tk σ) ht) fun σ H Q ⟨F, r, S, e, R, L, p⟩ => ?_
  unfold evE at p
  refine ⟨F, r, S, e, R, L, Post.imp (Post.bnd (Rel := IsU G) p) fun y H1 ⟨F1, r1, S1, u, e1, R1, q1, p1⟩ => ?_⟩
  cases hi : insOk k m u S1 with
  | false => rw [hi] at p1; exact p1.elim
  | true =>
    rw [hi] at p1
    simp only [if_true] at p1
    obtain ⟨a', dx, fs, rfl, g1, g2⟩ := ins_at R1 q1 hi
    unfold evL at p1
    exact ⟨a', dx, fs, rfl, g1, g2, sp_of R1 (.cons q1 .nil) p1⟩

/-! ### properties, fields -/
theorem de_prop [Cold tb] (C : Ct G Γ tb c X W j) {f : Nat} {x : Str} {a : E} {ea : Expr} (h0 : 0 < tb.cls.length) (hf : (x, f) ∈ tb.props) (ha : PE X ea (rdE G Γ W a)) (hb : attributeBase ea x X.env (eval ea X.env) = eval ea X.env) :
    PE X (.Attribute ea x pos) (rdE G Γ W (.prop f a)) := by
  obtain ⟨pa, g, fd, ps, h1, h2, h3⟩ := C.wd.pr x f hf
  obtain ⟨c1, c2, c3, c4⟩ := C.wd.cl 0 (tb.cls[0]) (List.getElem?_eq_getElem h0)
  refine pe_imp (pe_prop (CX := L2N.CX X.prog X.w) (E := E0) (C := G.cd 0) ha (by rw [C.K]; exact c2) (by rw [C.K]; exact h1) (by rw [C.K, C.w]; exact h3) C.room (by rw [C.K]; exact h2) .nil passN hb) fun σ H Q ⟨F, r, S, e, R, L, p⟩ => ?_
  unfold evE at p
  refine ⟨F, r, S, e, R, L, Post.imp (Post.bnD p) fun y H1 ⟨F1, r1, S1, d, e1, R1, q1, p1⟩ => ?_⟩
  cases d <;> first | exact p1.elim | skip
  rename_i t
  cases q1 with
  | drv g0 g1 g2 =>
    refine ⟨_, _, _, rfl, R1.sub _ _ g1, ?_⟩
    simp only at p1
    have q := sp_of (G := G) (σ := σ) (W := fun _ _ _ _ => False) (m := Γ.fn f) (us := [.d (.drv t)]) (vs := [.ref _]) (Q := Q) R1 (.cons (.d (.drv g0 g1 g2)) .nil) (by
      cases z : Γ.fn f [.d (.drv t)] S1 with
      | none => rw [z] at p1; exact p1
      | some m =>
        rw [z] at p1
        cases m with
        | ok u S2 => exact p1
        | ex xx S2 => exact p1.elim)
    exact q
theorem de_fld (C : Ct G Γ tb c X W j) {x : Str} {a : E} {ea : Expr} (hx : x ∈ tb.flds) (ha : PE X ea (rdE G Γ W a)) (hb : attributeBase ea x X.env (eval ea X.env) = eval ea X.env) :
    PE X (.Attribute ea x pos) (rdE G Γ W (.fld a x)) := by
  refine pe_imp (pe_fld ha hb) fun σ H Q ⟨F, r, S, e, R, L, p⟩ => ?_
  unfold evE at p
  refine ⟨F, r, S, e, R, L, Post.imp (Post.bnd (Rel := IsU G) p) fun y H1 ⟨F1, r1, S1, u, e1, R1, q1, p1⟩ => ?_⟩
  have facts : ∀ k, k < Γ.nc → Cls X.K (G.cd k) ∧ NoAttr X.K (G.cd k) x := fun k hk => by
    rw [C.wd.nc] at hk
    rw [C.K]
    exact ⟨(C.wd.cl k _ (List.getElem?_eq_getElem hk)).2.1, C.wd.noat k hk x hx⟩
  cases q1 with
  | d q1 =>
    cases q1 with
    | drv g0 g1 g2 =>
      simp only at p1
      split at p1
      · rename_i hh
        obtain ⟨rfl, hk⟩ := hh
        obtain ⟨f1, f2⟩ := facts 0 hk
        exact ⟨_, _, _, _, _, rfl, R1.sub _ _ g1, f1, f2, by simp [List.lookup], Post.done p1 .refl R1 (.d g2)⟩
      · exact p1.elim
    | _ => exact p1.elim
  | err _ _ _ => exact p1.elim
  | loc q1 =>
    simp only at p1
    split at p1
    · rename_i k fs hc
      split at p1
      · rename_i d hd
        split at p1
        · rename_i hk
          obtain ⟨f1, f2⟩ := facts k hk
          obtain ⟨⟨a', bs, dx, vs, e4, g1, g2⟩, _, _⟩ := R1.cel _ _ _ q1 hc (fun z => by cases z)
          cases e4
          obtain ⟨v, g3, g4⟩ := g2.look hd
          exact ⟨_, _, _, _, v, rfl, g1, f1, f2, g3, Post.done p1 .refl R1 (.d g4)⟩
        · exact p1.elim
      · exact p1.elim
    · exact p1.elim

/-! ### built-ins -/
def biN : Bi → String
  | .len => "len" | .abs => "abs" | .int => "int" | .str => "str" | .tuple => "tuple" | .list => "list" | .sum => "sum" | .any => "any" | .all => "all" | .max => "max" | .min => "min"
/-- the built-in's value -/
def biV : Bi → Value
  | .int => .type "int" | .str => .type "str" | .tuple => .type "tuple" | .list => .type "list"
  | b => .builtin (biN b)
theorem readI_is {x : Str} {n : Int} (h : readI x = some n) : PySem.intText? x = some n ∧ x.length ≤ 640 := by
  unfold readI at h
  have h1 := List.find?_some h
  have h2 := List.mem_of_find?_eq_some h
  have e : numS n = x := of_decide_eq_true h1
  subst e
  simp only [List.mem_cons, List.not_mem_nil, or_false] at h2
  rcases h2 with rfl | rfl | rfl | rfl | rfl | rfl | rfl | rfl | rfl | rfl | rfl | rfl | rfl | rfl | rfl | rfl | rfl | rfl | rfl <;> exact ⟨by decide +kernel, by decide +kernel⟩
theorem cr_int : CallR X (.type "int") (rBi G (biU .int)) := by
  refine callr_imp (CallR.or call_int1 call_int_str) fun xs H Q h => ?_
  obtain ⟨F, r, S, us, d, R, hp, hg, q⟩ := h
  obtain ⟨l, hl, e⟩ := biU_no (by decide) (by decide) R hp hg
  unfold biD at e
  split at e <;> first | contradiction | skip
  · cases e
    cases hl with
    | cons h t =>
      cases t
      cases h
      exact .inl (.inl ⟨_, rfl, q F _ H (Same.refl F) R (.int _)⟩)
  · cases e
    cases hl with
    | cons h t =>
      cases t
      cases h
      exact .inl (.inr ⟨_, rfl, q F _ H (Same.refl F) R (.int _)⟩)
  · rename_i x _
    rw [Option.map_eq_some_iff] at e
    obtain ⟨n, e1, e2⟩ := e
    subst e2
    cases hl with
    | cons h t =>
      cases t
      cases h
      obtain ⟨n1, n2⟩ := readI_is e1
      exact .inr ⟨x, n, rfl, n1, n2, q F _ H (Same.refl F) R (.int _)⟩
theorem cr_str : CallR X (.type "str") (rBi G (biU .str)) := by
  refine callr_imp (CallR.or call_str_int SkE.call_str_str) fun xs H Q h => ?_
  obtain ⟨F, r, S, us, d, R, hp, hg, q⟩ := h
  obtain ⟨l, hl, e⟩ := biU_no (by decide) (by decide) R hp hg
  unfold biD at e
  split at e <;> first | contradiction | skip
  · rename_i i _
    split at e
    · rename_i hz
      cases e
      cases hl with
      | cons h t =>
        cases t
        cases h
        refine .inl ⟨i, rfl, ?_, q F _ H (Same.refl F) R (.str _)⟩
        have h1 : i.natAbs < 2 ^ 20 := by omega
        by_cases h0 : i.natAbs = 0
        · rw [h0]; decide
        · have := (Nat.log2_lt h0).mpr h1
          omega
    · cases e
  · rename_i x _
    cases e
    cases hl with
    | cons h t =>
      cases t
      cases h
      exact .inr ⟨x, rfl, q F _ H (Same.refl F) R (.str _)⟩
theorem cr_bi (hK : X.K = G.K) (hc : X.calm = true) : ∀ b : Bi, CallR X (biV b) (rBi G (biU b))
  | .len => cr_len hK
  | .abs => cr_abs
  | .int => cr_int
  | .str => cr_str
  | .tuple => cr_tuple hK
  | .list => cr_list hK
  | .sum => cr_sumD hK hc
  | .any => cr_anyD hc
  | .all => cr_allD hc
  | .max => cr_maxD hc
  | .min => cr_minD hc
theorem boot_bi : ∀ b : Bi, bootBuiltins (Str.ofString (biN b)) = some (biV b) := by
  intro b; cases b <;> decide +kernel
theorem bi_ne : ∀ b : Bi, Str.ofString (biN b) ≠ ("__name__" : Str) := by
  intro b; cases b <;> decide +kernel
theorem pe_biC {b : Bi} {r : List V → Hp → VK → Prop} {x : Str} {px : Pos} {ea : Expr} {l : List Expr} {t : TA} (hc : CallR X (biV b) r) (hg : Gl X x) (hm : X.mg x = none) (hv : bootBuiltins x = some (biV b)) (ha : PA X (ea :: l) t) (hn : x ≠ "__name__") (hdb : (x == ("__debug__" : Str)) = false)
    (he : starEach (ea :: l) X.env = (false, eval ea X.env) :: starEach l X.env) (hpl : (backTo pos (starEach l X.env)).any (·.1) = false) : PE X (.Call (.Name x px) (ea :: l) [] pos) (tCB r t) := by
  cases b <;> first
    | exact pe_callB hc hg hm hv ha hn hdb he hpl
    | exact pe_callTy hc hg hm hv ha hn hdb he hpl
theorem de_bi [Cold tb] (C : Ct G Γ tb c X W j) {b : Bi} {es : E} {ea : Expr} {l : List Expr} {px : Pos} (hf : Str.ofString (biN b) ∈ tb.free) (hg : isGlB c (Str.ofString (biN b)) = true) (hs : PA X (ea :: l) (rdL G Γ W es)) (hp : (ea :: l).all plainE = true) :
    PE X (.Call (.Name (Str.ofString (biN b)) px) (ea :: l) [] pos) (rdE G Γ W (.bi b es)) := by
  obtain ⟨g1, g2⟩ := gl_of C hg
  rw [List.all_cons, Bool.and_eq_true] at hp
  refine pe_imp (pe_biC (cr_bi C.K C.calm b) g1 (C.wd.fr _ hf) (boot_bi b) hs (bi_ne b) g2 (star_cons hp.1 _ _) (plains _ _ _ hp.2)) fun σ H Q ⟨F, r, S, e, R, L, p⟩ => ?_
  unfold evE at p
  refine ⟨F, r, S, e, R, L, Post.imp (Post.bnd (Rel := fun F r => Paired (IsU G F r)) p) fun vs H1 ⟨F1, r1, S1, us, e1, R1, q1, p1⟩ => ?_⟩
  obtain ⟨d, h1, h2⟩ := Post.giv p1
  exact ⟨F1, r1, S1, us, d, R1, q1, h1, h2⟩

/-! ### isinstance -/
theorem kit_all : ∀ (t : Ty) (n : String), t ≠ .drv → n ∈ ["NoneType", "int", "bool", "str", "tuple", "list", "dict"] → kitB n (tyN t) = some (decide (n = tyN t) || (decide (n = "bool") && decide (t = .int))) := by
  intro t n ht hn
  simp only [List.mem_cons, List.not_mem_nil, or_false] at hn
  rcases hn with rfl | rfl | rfl | rfl | rfl | rfl | rfl <;> cases t <;> first | exact absurd rfl ht | decide +kernel
theorem boot_ty : ∀ t : Ty, t ≠ .drv → bootBuiltins (Str.ofString (tyN t)) = some (.type (tyN t)) := by
  intro t ht; cases t <;> first | exact absurd rfl ht | decide +kernel
theorem ty_ne : ∀ t : Ty, Str.ofString (tyN t) ≠ ("__name__" : Str) := by
  intro b; cases b <;> decide +kernel
theorem ty_db : ∀ t : Ty, (Str.ofString (tyN t) == ("__debug__" : Str)) = false := by
  intro b; cases b <;> decide +kernel
theorem kit_d {t : Ty} {d : D} (dk : ∀ t, d = .drv t → DrvOk G) (ht : t ≠ .drv) : PySem.W.kitOne G.K (ofD G d) (.type (tyN t)) = some (isiD t d) := by
  cases d with
  | drv z =>
    have h := (dk z rfl).to
    cases t <;> first | exact absurd rfl ht | (exact h _ (by decide))
  | _ => first
    | (refine (kit_ty (kit_all t _ ht (by decide))).trans ?_; cases t <;> first | exact absurd rfl ht | rfl)
theorem kit_v (dk : DrvOk G) {d : D} : PySem.W.kitOne G.K (ofD G d) (.ref (G.cd 0)) = some (isiD .drv d) := by
  cases d with
  | drv z => exact dk.self
  | _ => exact dk.off _ (by decide)
theorem de_isi (C : Ct G Γ tb c X W j) {t : Ty} {a : E} {ea : Expr} {px pt : Pos} (ht : t ≠ .drv) (hf : Str.ofString "isinstance" ∈ tb.free) (hg : isGlB c (Str.ofString "isinstance") = true) (hf2 : Str.ofString (tyN t) ∈ tb.free) (hg2 : isGlB c (Str.ofString (tyN t)) = true)
    (ha : PE X ea (rdE G Γ W a)) (hp : plainE ea = true) :
    PE X (.Call (.Name (Str.ofString "isinstance") px) [ea, .Name (Str.ofString (tyN t)) pt] [] pos) (rdE G Γ W (.isi t a)) := by
  obtain ⟨g1, g2⟩ := gl_of C hg
  obtain ⟨g3, g4⟩ := gl_of C hg2
  have pt : PE X (.Name (Str.ofString (tyN t)) pt) (tC (.ty (tyN t))) := pe_bltn g3 (C.wd.fr _ hf2) (boot_ty t ht) rfl (ty_ne t) g4
  refine pe_imp (pe_callB call_isi g1 (C.wd.fr _ hf) (by decide +kernel) (pa_cons ha (pa_cons pt pa_nil) (star_cons hp _ _)) (by decide +kernel) g2 (star_cons hp _ _) rfl) fun σ H Q ⟨F, r, S, e, R, L, p⟩ => ?_
  unfold evE at p
  refine ⟨F, r, S, e, R, L, Post.imp (Post.bnD p) fun x H1 ⟨F1, r1, S1, d, e1, R1, q1, p1⟩ => ?_⟩
  have dk : ∀ t, d = .drv t → DrvOk G := fun _ e => by
    subst e
    cases q1 with
    | drv g _ _ => exact C.wd.drv g
  refine ⟨x, .ty (tyN t), ofD G d, .type (tyN t), isiD t d, rfl, .ty _, ?_, ?_, ?_⟩
  · rw [C.K]; exact ty_of R1.sub dk q1
  · rw [C.K]; exact kit_d dk ht
  · exact Post.done p1 .refl R1 (.d (.bl _))
/-! ### methods of built-in values -/
/-- a tuple of texts of the module, its index -/
theorem idxS_is : ∀ {ys : List Str} {z : Str} {n : Nat}, idxS ys z = some n → ys[n]? = some z ∧ ∀ m, m < n → ys[m]? ≠ some z
  | [], z, n, h => by cases h
  | x :: r, z, n, h => by
    unfold idxS at h
    split at h
    · rename_i e
      cases h
      exact ⟨by rw [e]; rfl, fun m hm => absurd hm (Nat.not_lt_zero _)⟩
    · rename_i e
      rw [Option.map_eq_some_iff] at h
      obtain ⟨k, h1, h2⟩ := h
      subst h2
      obtain ⟨i1, i2⟩ := idxS_is h1
      refine ⟨by simpa using i1, fun m hm q => ?_⟩
      cases m with
      | zero => simp at q; exact e q
      | succ m => exact i2 m (by omega) (by simpa using q)
theorem de_cix (C : Ct G Γ tb c X W j) {k : Nat} {x : Str} {a : E} {ea : Expr} {px apos : Pos} (hg : isGlB c x = true) (hk : tb.cons[k]? = some (some x)) (hT : x ∈ tb.tups) (ha : PE X ea (rdE G Γ W a)) (hp : plainE ea = true) (hline : (apos.endLine == pos.line) = true) :
    PE X (.Call (.Attribute (.Name x px) (Str.ofString "index") apos) [ea] [] pos) (rdE G Γ W (.cix k a)) := by
  obtain ⟨g1, g2⟩ := gl_of C hg
  obtain ⟨u, v, c1, c2, c3⟩ := C.wd.con k x hk
  have ho : PE X (.Name x px) (tC v) := pe_glob g1 c1 c2 g2
  refine pe_imp (pe_bm PySem.F.plainAttrs_tuple PySem.F.slot_tuple_index PySem.F.type_tuple_index mt_tup_index ho (pa_cons ha pa_nil (star_cons hp _ _)) rfl (by rw [star_cons hp]; rfl) hline (star_cons hp _ _) rfl) fun σ H Q ⟨F, r, S, e, R, L, p⟩ => ?_
  obtain ⟨a', o, rfl, t1, t2, t3⟩ := C.wd.tk x hT u v c1 c2
  unfold evE at p
  refine ⟨.inr (.inl ⟨rfl, o, by rw [C.K]; exact t1, t2, t3⟩), F, r, S, e, R, L, Post.imp (Post.bnD p) fun y H1 ⟨F1, r1, S1, d, e1, R1, q1, p1⟩ => ?_⟩
  obtain ⟨dd, h1, h2⟩ := Post.giv p1
  have ic := c3 F1
  unfold cixD at h1
  split at h1 <;> first | cases h1 | skip
  rename_i l z hl
  rw [Option.bind_eq_some_iff] at h1
  obtain ⟨ys, h1, h3⟩ := h1
  rw [Option.map_eq_some_iff] at h3
  obtain ⟨n, h3, h4⟩ := h3
  subst h4
  rw [hl] at ic
  cases ic with
  | tup i1 i2 =>
    have e := strsOf_is i2 h1
    subst e
    cases q1
    obtain ⟨j1, j2⟩ := idxS_is h3
    exact ⟨_, ys, z, n, rfl, rfl, by rw [C.K]; exact same_sqT R1.sub i1, j1, j2, h2 F1 _ H1 (Same.refl _) R1 (.int _)⟩
theorem lst_at {u : U} {S : Store} {F : Hp} {r : Pl} {H : Hp} {x : V} (R : Rp G F r S H) (i : IsU G F r x u) (h : isLst u S = true) : ∃ a xs, x = .ref a ∧ H a = some (.lst xs) := by
  unfold isLst at h
  cases i with
  | d i => cases h
  | err _ _ _ => cases h
  | loc i =>
    simp only at h
    split at h
    · rename_i l hl
      obtain ⟨xs, h1, _⟩ := R.list i hl
      exact ⟨_, xs, rfl, h1⟩
    · cases h
theorem de_app (C : Ct G Γ tb c X W j) {o a : E} {eo ea : Expr} {apos : Pos} (ho : PE X eo (rdE G Γ W o)) (ha : PE X ea (rdE G Γ W a)) (hp : plainE ea = true) (hb : attributeBase eo (Str.ofString "append") X.env (eval eo X.env) = eval eo X.env) (hline : (apos.endLine == pos.line) = true) :
    PE X (.Call (.Attribute eo (Str.ofString "append") apos) [ea] [] pos) (rdE G Γ W (.app o a)) := by
  refine pe_imp (pe_bm PySem.F.plainAttrs_list PySem.F.slot_list_append PySem.F.type_list_append mt_append ho (pa_cons ha pa_nil (star_cons hp _ _)) hb (by rw [star_cons hp]; rfl) hline (star_cons hp _ _) rfl) fun σ H Q ⟨F, r, S, e, R, L, p⟩ => ?_
  unfold evE at p
  refine ⟨F, r, S, e, R, L, Post.imp (Post.bnd (Rel := IsU G) p) fun x H1 ⟨F1, r1, S1, u, e1, R1, q1, p1⟩ => ?_⟩
  cases hi : isLst u S1 with
  | false => rw [hi] at p1; exact p1.elim
  | true =>
    rw [hi] at p1
    simp only [if_true] at p1
    obtain ⟨a', xs, rfl, g1⟩ := lst_at R1 q1 hi
    refine ⟨.inl ⟨rfl, _, SqL.of g1⟩, F1, r1, S1, e, R1, L.mono e1, Post.imp (Post.bnD p1) fun y H2 ⟨F2, r2, S2, d, e2, R2, q2, p2⟩ => ?_⟩
    cases q1.mono e2 with
    | d _ => exact p2.elim
    | err _ _ _ => exact p2.elim
    | loc h =>
      simp only at p2
      split at p2
      · rename_i l hl
        split at p2
        · rename_i hz
          obtain ⟨ys, g2, g3⟩ := R2.list h hl
          refine ⟨_, ys, y, rfl, rfl, g2, by rw [g3.length, sizeLine_eq]; exact hz, ?_⟩
          exact Post.done p2 .refl (R2.wlist h hl (g3.app (.cons q2 .nil))) (.d .non)
        · exact p2.elim
      · exact p2.elim
theorem de_popa (C : Ct G Γ tb c X W j) {o a : E} {eo ea : Expr} {apos : Pos} (ho : PE X eo (rdE G Γ W o)) (ha : PE X ea (rdE G Γ W a)) (hp : plainE ea = true) (hb : attributeBase eo (Str.ofString "pop") X.env (eval eo X.env) = eval eo X.env) (hline : (apos.endLine == pos.line) = true) :
    PE X (.Call (.Attribute eo (Str.ofString "pop") apos) [ea] [] pos) (rdE G Γ W (.popa o a)) := by
  refine pe_imp (pe_bm PySem.F.plainAttrs_list PySem.F.slot_list_pop PySem.F.type_list_pop mt_popAt ho (pa_cons ha pa_nil (star_cons hp _ _)) hb (by rw [star_cons hp]; rfl) hline (star_cons hp _ _) rfl) fun σ H Q ⟨F, r, S, e, R, L, p⟩ => ?_
  unfold evE at p
  refine ⟨F, r, S, e, R, L, Post.imp (Post.bnd (Rel := IsU G) p) fun x H1 ⟨F1, r1, S1, u, e1, R1, q1, p1⟩ => ?_⟩
  cases hi : isLst u S1 with
  | false => rw [hi] at p1; exact p1.elim
  | true =>
    rw [hi] at p1
    simp only [if_true] at p1
    obtain ⟨a', xs, rfl, g1⟩ := lst_at R1 q1 hi
    refine ⟨.inl ⟨rfl, _, SqL.of g1⟩, F1, r1, S1, e, R1, L.mono e1, Post.imp (Post.bnD p1) fun y H2 ⟨F2, r2, S2, d, e2, R2, q2, p2⟩ => ?_⟩
    cases q1.mono e2 with
    | d _ => exact p2.elim
    | err _ _ _ => exact p2.elim
    | loc h =>
      cases d <;> first | exact p2.elim | skip
      rename_i i
      simp only at p2
      split at p2
      · rename_i l hl
        split at p2
        · rename_i k hk
          split at p2
          · rename_i z hz
            split at p2
            · rename_i hs
              obtain ⟨ys, g2, g3⟩ := R2.list h hl
              obtain ⟨v, g4, g5⟩ := g3.get hz
              cases q2
              unfold small62 at hs
              simp only [Bool.and_eq_true, decide_eq_true_eq] at hs
              refine ⟨_, ys, i, k, v, rfl, rfl, g2, by omega, by omega, ?_, g4, ?_⟩
              · rw [g3.length]
                rw [plc_eq] at hk
                exact (ixN_seq hk).1
              · exact Post.done p2 .refl (R2.wlist h hl (g3.eraseIdx k)) (.d g5)
            · exact p2.elim
          · exact p2.elim
        · exact p2.elim
      · exact p2.elim
end
end DL

/-! What is walked. -/
namespace DL
open PySem PySem.Spec L2
set_option autoImplicit false

/-! ### a sequence, list or tuple -/
def SqB (K : PySem.W.Frag) (b : Bool) (H : Hp) (a : Addr) (xs : List V) : Prop := match b with
  | true => SqL K H a xs
  | false => SqT K H a xs
def ItB (b : Bool) (it a : Addr) (i : Nat) (h : Heap) : Prop := match b with
  | true => h.IsListIter it a i
  | false => h.IsTupleIter it a i
def SeqB (b : Bool) (a : Addr) (its : Array Value) (h : Heap) : Prop := match b with
  | true => h.IsList a its
  | false => h.IsTuple a its
def itO (b : Bool) (a : Addr) : Obj := match b with
  | true => { cls := .type "list_iterator", data := .fields #[.ref a, .int 0 0] }
  | false => { cls := .type "tuple_iterator", data := .fields #[.ref a, .int 0 0] }
theorem drawsB {prog : Program} {w : World} {A : Around} (hh : A.handled = none) (b : Bool) (it a : Addr) (hne : a ≠ it) (its : Array Value) :
    Draws prog w A it [it, a] its.size (fun i v => its[i]? = some v) (fun i h => ItB b it a i h ∧ SeqB b a its h) := by
  cases b
  · exact Draws.tuple hh it a hne its
  · exact Draws.list hh it a hne its
theorem beginsB (b : Bool) (a : Addr) (its : Array Value) : Begins (.ref a) (itO b a) (SeqB b a its) := by
  cases b
  · exact begins_tuple a its
  · exact begins_list a its
theorem itB_new {b : Bool} {it a : Addr} {h : Heap} (e : h.get? it = some (itO b a)) : ItB b it a 0 h := by
  cases b <;> exact ⟨_, e, rfl, rfl⟩
theorem itB_at {b : Bool} {it a : Addr} {i : Nat} {h h' : Heap} (x : ItB b it a i h) (k : ∀ o, h.get? it = some o → h'.get? it = some o) : ItB b it a i h' := by
  cases b
  · exact Heap.IsTupleIter.at x k
  · exact Heap.IsListIter.at x k
theorem itB_obj {b : Bool} {it a : Addr} {i : Nat} {h : Heap} (x : ItB b it a i h) : ∃ o, h.get? it = some o ∧ ∀ v, o.data ≠ .cell v := by
  cases b <;> (obtain ⟨o, e, c, d⟩ := x; exact ⟨o, e, fun v z => by rw [d] at z; cases z⟩)
section
variable {X : Cx} {pins : List (Addr × Obj)} {σ : St} {H : Hp} {s : Shared} {b : Bool} {a : Addr} {xs ys : List V}
theorem inv_seqB (I : L2.Inv X pins σ H s) (h : SqB X.K b H a xs) : ∃ its : List Value, Vals xs its ∧ SeqB b a its.toArray s.heap := by
  cases b
  · obtain ⟨its, rv, p, _⟩ := I.tuple h; exact ⟨its, rv, p⟩
  · obtain ⟨its, rv, p, _⟩ := I.list h; exact ⟨its, rv, p.isList⟩
theorem inv_seqB_inj (I : L2.Inv X pins σ H s) (h : SqB X.K b H a xs) (h' : SqB X.K b H a ys) : xs = ys := by
  cases b
  · exact I.tuple_inj h h'
  · exact I.list_inj h h'
theorem seqB_lt {a : Addr} {its : Array Value} {h : Heap} (x : SeqB b a its h) : a < h.objs.size := by
  cases b <;> (obtain ⟨o, e, _⟩ := x; exact Heap.lt_size e)
end

/-! ### plain -/
/-- the items of a sequence, each turn -/
def ItS (K : PySem.W.Frag) (b : Bool) (a : Addr) : It := match b with
  | true => Itl K a
  | false => Itt K a
def iSeq (K : PySem.W.Frag) (tl : TE) : TI := fun σ H R => tl σ H fun x H1 => ∃ a b xs, x = .ref a ∧ SqB K b H1 a xs ∧ R (ItS K b a) H1
theorem pi_seq {X : Cx} {tg l : Expr} {tl : TE} (hl : PE X l tl) : PI X tg l (iSeq X.K tl) := by
  refine ⟨fun pins s σ H R I h => ?_⟩
  refine thn (hl.run pins s σ H _ I h) fun v s1 ⟨x, H1, I1, r1, q1⟩ => ?_
  obtain ⟨a, b, xs, e, hq, q⟩ := q1
  subst e
  cases r1
  obtain ⟨its, rv, p⟩ := inv_seqB I1 hq
  refine (beginsB b a its.toArray).iter _ _ _ _ _ _ p ?_
  have e0 : (s1.heap.push (itO b a)).get? s1.heap.objs.size = some (itO b a) := Heap.get?_push_size _ (beginsB b a its.toArray).free
  have fp : ∀ c ∈ [s1.heap.objs.size], FpOk X pins H1 c := fun c hc => by
    have e : c = s1.heap.objs.size := by simpa using hc
    subst e
    exact I1.fpOk (Nat.le_refl _) (I1.hok.fresh (Nat.le_refl _))
  have I2 : L2.Inv X pins σ H1 { s1 with heap := s1.heap.push (itO b a) } := I1.kept (t' := s1.toks) fun b o e => Heap.get?_push_of_some _ e
  cases b
  · exact ⟨s1.heap.objs.size, [s1.heap.objs.size], _, _, H1, rfl, I2, turn_tuple a _, ⟨_, e0, rfl, rfl⟩, fp, q⟩
  · exact ⟨s1.heap.objs.size, [s1.heap.objs.size], _, _, H1, rfl, I2, turn_list a _, ⟨_, e0, rfl, rfl⟩, fp, q⟩

/-! ### enumerate -/
def IteB (K : PySem.W.Frag) (b : Bool) (a : Addr) : It :=
  ⟨fun i H => ∃ (xs : List V) (x : V), SqB K b H a xs ∧ xs[i]? = some x, fun i H v H' => ∃ T x, v = .ref T ∧ H T = none ∧ H' = upd H T (.tup [.int (i : Nat), x]) ∧ ∀ xs, SqB K b H a xs → xs[i]? = some x, fun i H => ∃ xs : List V, SqB K b H a xs ∧ xs.length = i⟩
theorem turn_enumB {P : Program} {w : World} {K : PySem.W.Frag} {elts : List Expr} {kk : Nat} {tpos : Pos} {b : Bool} {a e it : Addr} (hei : e ≠ it) (hea : e ≠ a) (hai : a ≠ it) :
    Turn P w K (.Tuple elts kk tpos) (IteB K b a) [e, it] e (fun i h => (∃ old, IsEnum h e it ((i : Nat) : Int) old) ∧ ItB b it a i h) where
  mem := by simp
  obj := fun i h st c hc => by
    obtain ⟨⟨old, he⟩, hi⟩ := st
    have e' : c = e ∨ c = it := by simpa using hc
    rcases e' with z | z
    · rw [z]; exact ⟨_, he, fun v q => nomatch q⟩
    · rw [z]; exact itB_obj hi
  keep := fun i h h' st k => let ⟨⟨old, he⟩, hi⟩ := st; ⟨⟨old, k e (by simp) _ he⟩, itB_at hi fun o q => k it (by simp) o q⟩
  item := by
    intro X hP hw hK hc i pins s σ H E I hf st hg
    subst hP hw hK
    obtain ⟨⟨old, he⟩, hit⟩ := st
    obtain ⟨xs, x, hq, hx⟩ := hg
    obtain ⟨its, rv, p⟩ := inv_seqB I hq
    obtain ⟨u, hu, ru⟩ := rv.get hx
    have hel : e < s.heap.objs.size := Heap.lt_size he
    have hil : it < s.heap.objs.size := by obtain ⟨o, q, _⟩ := itB_obj hit; exact Heap.lt_size q
    have D := drawsB (prog := X.prog) (w := X.w) (A := X.A.in1) (show X.A.in1.handled = none from I.ok.hd hc) b it a hai its.toArray
    refine wpAny_pyNext_enum_itemD D he ⟨hit, p⟩ (i := i) (by have := (List.getElem?_eq_some_iff.mp hu).1; simpa using this) hei (by simp [hei, hea]) fun y h' tk hy ho st' hT hsz hk => ?_
    have ey : y = u := by
      have h1 : its.toArray[i]? = some u := by simpa using hu
      rw [h1] at hy; exact (Option.some.inj hy).symm
    subst ey
    refine ⟨_, rfl, wpAny_letOwnedTupleGo_enum (s := { s with heap := h', toks := tk + 1 }) ho fun h'' he' sb => ?_⟩
    have hT2 : h''.get? s.heap.objs.size = some { cls := .type "tuple", data := .seq #[.int i tk, y] } := (sb.2 _ (Nat.ne_of_gt hel)).trans hT
    have new : ObjOk X.prog X.w (upd H s.heap.objs.size (.tup [.int (i : Nat), x])) h'' s.heap.objs.size (.tup [.int (i : Nat), x]) :=
      ⟨by show 2 ≤ sizeLine; decide, [.int i tk, y], .cons ⟨_, rfl⟩ (.cons ru .nil), ⟨_, hT2, rfl, _, rfl⟩⟩
    have I1 : L2.Inv X pins σ (upd H s.heap.objs.size (.tup [.int (i : Nat), x])) { s with heap := h'', toks := tk + 1 } :=
      I.turnedNew (ch := [e, it]) (fun b ob hb q => (sb.2 b (fun z => hb (by simp [z]))).trans (hk b ob (fun z => hb (by simp [z])) (fun z => hb (by simp [z])) q)) hf (Nat.le_refl _) new
    refine ⟨.ref s.heap.objs.size, _, I1, rfl, ⟨_, x, rfl, I.hok.fresh (Nat.le_refl _), rfl, fun ys hy => by rw [inv_seqB_inj I hy hq]; exact hx⟩, ⟨⟨y, ?_⟩, itB_at st'.1 fun o q => (sb.2 it (Ne.symm hei)).trans q⟩, fun b hb => ?_⟩
    · have e1 : ((i + 1 : Nat) : Int) = (i : Int) + 1 := by omega
      rw [e1]; exact he'
    · have hb' : b < s.heap.objs.size := by
        have e' : b = e ∨ b = it := by simpa using hb
        rcases e' with z | z
        · rw [z]; exact hel
        · rw [z]; exact hil
      rw [upd_ne (Nat.ne_of_lt hb')]
      exact (hf b hb).1
  done := by
    intro X hP hw hK hc i pins s σ H E I hf st hg
    subst hP hw hK
    obtain ⟨⟨old, he⟩, hit⟩ := st
    obtain ⟨xs, hq, hx⟩ := hg
    obtain ⟨its, rv, p⟩ := inv_seqB I hq
    obtain ⟨f0, f1, f2, f3, f4, f5⟩ := hf it (by simp)
    have D := drawsB (prog := X.prog) (w := X.w) (A := X.A.in1) (show X.A.in1.handled = none from I.ok.hd hc) b it a hai its.toArray
    have e0 : i = its.toArray.size := by rw [← hx, rv.length]; simp
    subst e0
    exact wpAny_pyNext_enum_endD D he ⟨hit, p⟩ fun h' eb => ⟨rfl, I.turned (t' := s.toks) (fun b o hb q => eb b o hb q) f0 f1 f3 f4 f5⟩
  self := fun A i s Q E st h => let ⟨⟨_, he⟩, _⟩ := st; wpAny_pyIter_enum he h

theorem meets_enum1 {v : Value} {o : Obj} {T : Heap → Prop} (B : Begins v o T) :
    Meets (Builtin.«enumerate.__new__» ⟨[.type "enumerate", v], []⟩) (fun _ R s => T s.heap ∧
      R (.ok (.ret (.ref (s.heap.push o).objs.size))) { s with heap := (s.heap.push o).push { cls := .type "enumerate", data := .fields #[.none, .bool false, .ref s.heap.objs.size, rawInt 0, .none, .none] } }) :=
  .of_wp fun prog w A R s h => by
    obtain ⟨hp, g, d, tk, os⟩ := s; obtain ⟨h1, h⟩ := h
    have hsub := sub_enumerate
    have q1 : ∀ {A' : Around} {E : Value → Shared → Prop} {Q : Value → Shared → Prop}, Q (.ref hp.objs.size) ⟨hp.push o, g, d, tk, os⟩ → wpAny (model prog w) A' (pyIter v) Q E ⟨hp, g, d, tk, os⟩ :=
      fun q => B.iter prog w _ _ ⟨hp, g, d, tk, os⟩ _ h1 q
    wp_walk using q1
    refine wpAny_stack_any fun st => wpAny_pure ?_
    split
    · rename_i c _ _ _ _ _
      cases (c == Value.type "enumerate")
      · wp_walk using q1
        exact ⟨_, rfl, h⟩
      · wp_walk using q1
        exact ⟨_, rfl, h⟩
    · wp_walk using q1
      exact ⟨_, rfl, h⟩
theorem enum_begins1 {prog : Program} {w : World} {A : Around} {E : Value → Shared → Prop} {s : Shared} {v : Value} {o : Obj} {T : Heap → Prop} {Q : Value → Shared → Prop} (B : Begins v o T) (h1 : T s.heap)
    (h : ∀ h', IsEnum h' (s.heap.objs.size + 1) s.heap.objs.size 0 .none → h'.get? s.heap.objs.size = some o → h'.objs.size = s.heap.objs.size + 2 →
      (∀ b o, s.heap.get? b = some o → h'.get? b = some o) → Q (.ref (s.heap.objs.size + 1)) { s with heap := h' }) :
    wpAny (model prog w) A (call (.type "enumerate") [v]) Q E s := by
  refine callType_new F.called_enumerate (by decide) (F.typeCall_enumerate_1 _) (F.newCall_enumerate_1 _) (fun obj => F.args_object_init_2 obj _) F.entry_enumerate_new
    (meets_enum1 B) ⟨h1, ?_⟩
  have hz : (s.heap.push o).objs.size = s.heap.objs.size + 1 := Heap.size_push ..
  show _ ∧ _
  rw [hz]
  have he : IsEnum ((s.heap.push o).push { cls := .type "enumerate", data := .fields #[.none, .bool false, .ref s.heap.objs.size, rawInt 0, .none, .none] }) (s.heap.objs.size + 1) s.heap.objs.size 0 .none := by
    have := Heap.get?_push_size (s.heap.push o) (o := { cls := .type "enumerate", data := .fields #[.none, .bool false, .ref s.heap.objs.size, rawInt 0, .none, .none] }) rfl
    rw [hz] at this; exact this
  exact ⟨⟨_, he, rfl⟩, h _ he (Heap.get?_push_of_some _ (Heap.get?_push_size _ B.free)) (by rw [Heap.size_push, hz]) fun b o x => Heap.get?_push_of_some _ (Heap.get?_push_of_some _ x)⟩
def iEnumB (K : PySem.W.Frag) (ta : TA) : TI := fun σ H R => ta σ H fun vs H1 => ∃ a b xs, vs = [.ref a] ∧ SqB K b H1 a xs ∧ R (IteB K b a) H1
theorem pi_enumB {X : Cx} {e : Expr} {ta : TA} {p pos tpos : Pos} {elts : List Expr} {kk : Nat} (hg : Gl X "enumerate") (hm : X.mg "enumerate" = none) (ha : PA X [e] ta) (hs : starEach [e] X.env = [(false, eval e X.env)]) :
    PI X (.Tuple elts kk tpos) (.Call (.Name "enumerate" p) [e] [] pos) (iEnumB X.K ta) := by
  refine ⟨fun pins s σ H R I h => ?_⟩
  refine PyProof.Rows.Call_ (ld_blt I hg hm PyProof.Rows.boot_enumerate (PyProof.Rows.callWith_type1 (thn (ha.run pos pins s σ H _ I h) fun us s1 ⟨vs, H1, I1, r1, q1⟩ => ?_) hs rfl))
  obtain ⟨a, b, xs, ex, hq, q⟩ := q1
  subst ex
  cases r1 with
  | cons r rr =>
    cases rr
    cases r
    obtain ⟨its, rv, p'⟩ := inv_seqB I1 hq
    have hlt := seqB_lt p'
    refine enum_begins1 (beginsB b a its.toArray) p' fun h' he hit hsz hk => wpAny_pyIter_enum he ?_
    have I2 : L2.Inv X pins σ H1 { s1 with heap := h' } := I1.kept (t' := s1.toks) hk
    refine ⟨s1.heap.objs.size + 1, [s1.heap.objs.size + 1, s1.heap.objs.size], _, _, H1, rfl, I2, turn_enumB (b := b) (a := a) (e := s1.heap.objs.size + 1) (it := s1.heap.objs.size) (Nat.succ_ne_self _) (Nat.ne_of_gt (Nat.lt_succ_of_lt hlt)) (Nat.ne_of_lt hlt), ⟨⟨.none, he⟩, itB_new hit⟩, fun b hb => ?_, q⟩
    have e' : b = s1.heap.objs.size + 1 ∨ b = s1.heap.objs.size := by simpa using hb
    have hle : s1.heap.objs.size ≤ b := by
      rcases e' with z | z
      · rw [z]; exact Nat.le_add_right _ _
      · rw [z]; exact Nat.le_refl _
    exact I1.fpOk hle (I1.hok.fresh hle)

/-! ### zip -/
def ItzB (K : PySem.W.Frag) (b1 b2 : Bool) (a1 a2 : Addr) : It :=
  ⟨fun i H => ∃ (xs ys : List V) (x y : V), SqB K b1 H a1 xs ∧ SqB K b2 H a2 ys ∧ xs[i]? = some x ∧ ys[i]? = some y,
    fun i H v H' => ∃ T x y, v = .ref T ∧ H T = none ∧ H' = upd H T (.tup [x, y]) ∧ (∀ xs, SqB K b1 H a1 xs → xs[i]? = some x) ∧ ∀ ys, SqB K b2 H a2 ys → ys[i]? = some y,
    fun i H => ∃ xs ys : List V, SqB K b1 H a1 xs ∧ SqB K b2 H a2 ys ∧ i = min xs.length ys.length⟩
theorem turn_zipB {P : Program} {w : World} {K : PySem.W.Frag} {elts : List Expr} {kk : Nat} {tpos : Pos} {b1 b2 : Bool} {a1 a2 z TI TO i1 i2 : Addr} (D : ZipSep2 z TI TO i1 i2 [i1, a1] [i2, a2]) (n1 : a1 ≠ i1) (n2 : a2 ≠ i2) :
    Turn P w K (.Tuple elts kk tpos) (ItzB K b1 b2 a1 a2) [z, TI, TO, i1, i2] z (fun i h => IsZip h z TI TO .none ∧ IsTupOf2 h TI (.ref i1) (.ref i2) ∧ (∃ x y, IsTupOf2 h TO x y) ∧ ItB b1 i1 a1 i h ∧ ItB b2 i2 a2 i h) where
  mem := by simp
  obj := fun i h st c hc => by
    obtain ⟨hz, hTI, ⟨x, y, hTO⟩, h1, h2⟩ := st
    have e' : c = z ∨ c = TI ∨ c = TO ∨ c = i1 ∨ c = i2 := by simpa using hc
    rcases e' with q | q | q | q | q
    · rw [q]; exact ⟨_, hz, fun v q => nomatch q⟩
    · rw [q]; exact ⟨_, hTI, fun v q => nomatch q⟩
    · rw [q]; exact ⟨_, hTO, fun v q => nomatch q⟩
    · rw [q]; exact itB_obj h1
    · rw [q]; exact itB_obj h2
  keep := fun i h h' st k => by
    obtain ⟨hz, hTI, ⟨x, y, hTO⟩, h1, h2⟩ := st
    exact ⟨k z (by simp) _ hz, k TI (by simp) _ hTI, ⟨x, y, k TO (by simp) _ hTO⟩, itB_at h1 fun o q => k i1 (by simp) o q, itB_at h2 fun o q => k i2 (by simp) o q⟩
  item := by
    intro X hP hw hK hc i pins s σ H E I hf st hg
    subst hP hw hK
    obtain ⟨hz, hTI, ⟨x0, y0, hTO⟩, h1, h2⟩ := st
    obtain ⟨xs, ys, x, y, hqx, hqy, hx, hy⟩ := hg
    obtain ⟨its, rv, p⟩ := inv_seqB I hqx
    obtain ⟨its2, rv2, p2⟩ := inv_seqB I hqy
    obtain ⟨u, hu, ru⟩ := rv.get hx
    obtain ⟨u2, hu2, ru2⟩ := rv2.get hy
    have hzl : z < s.heap.objs.size := Heap.lt_size hz
    have D1 := drawsB (prog := X.prog) (w := X.w) (A := X.A.in1) (show X.A.in1.handled = none from I.ok.hd hc) b1 i1 a1 n1 its.toArray
    have D2 := drawsB (prog := X.prog) (w := X.w) (A := X.A.in1) (show X.A.in1.handled = none from I.ok.hd hc) b2 i2 a2 n2 its2.toArray
    refine wpAny_pyNext_zipD2_item (i := i) D D1 D2 hz hTI hTO ⟨h1, p⟩ ⟨h2, p2⟩ (by have := (List.getElem?_eq_some_iff.mp hu).1; simpa using this) (by have := (List.getElem?_eq_some_iff.mp hu2).1; simpa using this) fun v1 v2 h' tk e1 e2 z' TO' h1' h2' hT hsz hk => ?_
    have ev1 : v1 = u := by
      have h1 : its.toArray[i]? = some u := by simpa using hu
      rw [h1] at e1; exact (Option.some.inj e1).symm
    have ev2 : v2 = u2 := by
      have h1 : its2.toArray[i]? = some u2 := by simpa using hu2
      rw [h1] at e2; exact (Option.some.inj e2).symm
    subst ev1 ev2
    refine ⟨_, rfl, wpAny_letOwnedTupleGo_zip (s := { s with heap := h', toks := tk }) z' fun h'' z'' sb => ?_⟩
    have hT2 : h''.get? s.heap.objs.size = some { cls := .type "tuple", data := .seq #[v1, v2] } := (sb.2 _ (Nat.ne_of_gt hzl)).trans hT
    have new : ObjOk X.prog X.w (upd H s.heap.objs.size (.tup [x, y])) h'' s.heap.objs.size (.tup [x, y]) :=
      ⟨by show 2 ≤ sizeLine; decide, [v1, v2], .cons ru (.cons ru2 .nil), ⟨_, hT2, rfl, _, rfl⟩⟩
    have I1 : L2.Inv X pins σ (upd H s.heap.objs.size (.tup [x, y])) { s with heap := h'', toks := tk } :=
      I.turnedNew (t' := tk) (ch := [z, TI, TO, i1, i2]) (fun c o hb q => (sb.2 c (fun q' => hb (by simp [q']))).trans (hk c o (fun q' => hb (by simp [q'])) (fun q' => hb (by simp [q'])) (fun q' => hb (by simp [q'])) (fun q' => hb (by simp [q'])) q)) hf (Nat.le_refl _) new
    have i1z : i1 ≠ z := Ne.symm D.zi1
    have i2z : i2 ≠ z := Ne.symm D.zi2
    refine ⟨.ref s.heap.objs.size, _, I1, rfl, ⟨_, x, y, rfl, I.hok.fresh (Nat.le_refl _), rfl, fun l hl => by rw [inv_seqB_inj I hl hqx]; exact hx, fun l hl => by rw [inv_seqB_inj I hl hqy]; exact hy⟩, ⟨z'', ?_, ⟨v1, v2, ?_⟩, ?_, ?_⟩, fun c hcm => ?_⟩
    · exact (sb.2 _ D.TIz).trans (hk _ _ D.TIz D.TITO D.TIi1 D.TIi2 hTI)
    · exact (sb.2 _ D.TOz).trans TO'
    · exact itB_at h1'.1 fun o q => (sb.2 _ i1z).trans q
    · exact itB_at h2'.1 fun o q => (sb.2 _ i2z).trans q
    · have hlt : c < s.heap.objs.size := by
        have e' : c = z ∨ c = TI ∨ c = TO ∨ c = i1 ∨ c = i2 := by simpa using hcm
        rcases e' with q | q | q | q | q
        · rw [q]; exact hzl
        · rw [q]; exact Heap.lt_size hTI
        · rw [q]; exact Heap.lt_size hTO
        · rw [q]; obtain ⟨_, e1, _⟩ := itB_obj h1; exact Heap.lt_size e1
        · rw [q]; obtain ⟨_, e2, _⟩ := itB_obj h2; exact Heap.lt_size e2
      rw [upd_ne (Nat.ne_of_lt hlt)]
      exact (hf c hcm).1
  done := by
    intro X hP hw hK hc i pins s σ H E I hf st hg
    subst hP hw hK
    obtain ⟨hz, hTI, ⟨x0, y0, hTO⟩, h1, h2⟩ := st
    obtain ⟨xs, ys, hqx, hqy, hend⟩ := hg
    obtain ⟨its, rv, p⟩ := inv_seqB I hqx
    obtain ⟨its2, rv2, p2⟩ := inv_seqB I hqy
    have l1 : xs.length = its.toArray.size := by rw [rv.length]; simp
    have l2 : ys.length = its2.toArray.size := by rw [rv2.length]; simp
    have D1 := drawsB (prog := X.prog) (w := X.w) (A := X.A.in1) (show X.A.in1.handled = none from I.ok.hd hc) b1 i1 a1 n1 its.toArray
    have D2 := drawsB (prog := X.prog) (w := X.w) (A := X.A.in1) (show X.A.in1.handled = none from I.ok.hd hc) b2 i2 a2 n2 its2.toArray
    exact wpAny_pyNext_zipD2_end (i := i) D D1 D2 hz hTI hTO ⟨h1, p⟩ ⟨h2, p2⟩ (by omega) (by omega) (by omega) fun h' tk hk => ⟨rfl, I.turnedL (t' := tk) (ch := [z, TI, TO, i1, i2]) (fun c o hb q =>
      hk c o (fun q' => hb (by simp [q'])) (fun q' => hb (by simp [q'])) (fun q' => hb (by simp [q'])) (fun q' => hb (by simp [q'])) q) hf⟩
  self := fun A i s Q E st h => wpAny_pyIter_zip st.1 h
def iZipB (K : PySem.W.Frag) (ta : TA) : TI := fun σ H R => ta σ H fun vs H1 => ∃ a1 a2 b1 b2 xs ys, vs = [.ref a1, .ref a2] ∧ SqB K b1 H1 a1 xs ∧ SqB K b2 H1 a2 ys ∧ R (ItzB K b1 b2 a1 a2) H1
theorem pi_zipB {X : Cx} {e e2 : Expr} {ta : TA} {p pos tpos : Pos} {elts : List Expr} {kk : Nat} (hg : Gl X "zip") (hm : X.mg "zip" = none) (ha : PA X [e, e2] ta)
    (hs : starEach [e, e2] X.env = (false, eval e X.env) :: starEach [e2] X.env) (hpl : (backTo pos (starEach [e2] X.env)).any (·.1) = false) :
    PI X (.Tuple elts kk tpos) (.Call (.Name "zip" p) [e, e2] [] pos) (iZipB X.K ta) := by
  refine ⟨fun pins s σ H R I h => ?_⟩
  refine PyProof.Rows.Call_ (ld_blt I hg hm PyProof.Rows.boot_zip (PyProof.Rows.callWith_type1 (thn (ha.run pos pins s σ H _ I h) fun us s1 ⟨vs, H1, I1, r1, q1⟩ => ?_) hs hpl))
  obtain ⟨a1, a2, b1, b2, xs, ys, ex, hqx, hqy, q⟩ := q1
  subst ex
  cases r1 with
  | cons r rr =>
    cases rr with
    | cons r' rr =>
      cases rr
      cases r
      cases r'
      obtain ⟨its, rv, p1⟩ := inv_seqB I1 hqx
      obtain ⟨its2, rv2, p2⟩ := inv_seqB I1 hqy
      have la := seqB_lt p1
      have lb := seqB_lt p2
      refine zip_begins2 (beginsB b1 a1 its.toArray) (beginsB b2 a2 its2.toArray) p1 p2 fun h' hz hTI hTO h1 h2 hsz hk => wpAny_pyIter_zip hz ?_
      have I2 : L2.Inv X pins σ H1 { s1 with heap := h' } := I1.kept (t' := s1.toks) hk
      refine ⟨s1.heap.objs.size + 4, [s1.heap.objs.size + 4, s1.heap.objs.size + 2, s1.heap.objs.size + 3, s1.heap.objs.size, s1.heap.objs.size + 1], _, _, H1, rfl, I2, turn_zipB (b1 := b1) (b2 := b2) (a1 := a1) (a2 := a2) (z := s1.heap.objs.size + 4) (TI := s1.heap.objs.size + 2) (TO := s1.heap.objs.size + 3) (i1 := s1.heap.objs.size) (i2 := s1.heap.objs.size + 1) ?_ (Nat.ne_of_lt la) (Nat.ne_of_lt (Nat.lt_succ_of_lt lb)), ⟨hz, hTI, ⟨_, _, hTO⟩, itB_new h1, itB_new h2⟩, fun c hcm => ?_, q⟩
      · have la' : a1 < s1.heap.objs.size := la
        have lb' : a2 < s1.heap.objs.size := lb
        generalize s1.heap.objs.size = n at la' lb'
        refine ⟨?_, ?_, ?_, ?_, ?_, ?_, ?_, ?_, ?_, ?_, ?_, ?_, ?_⟩ <;> first | exact List.mem_cons_self | (intro q; simp at q; done) | (intro q; simp at q; subst q; first | exact absurd la' (Nat.not_lt.mpr (Nat.le_add_right _ _)) | exact absurd lb' (Nat.not_lt.mpr (Nat.le_add_right _ _)) | exact absurd la' (Nat.lt_irrefl _) | exact absurd lb' (Nat.lt_irrefl _))
      · have e' : c = s1.heap.objs.size + 4 ∨ c = s1.heap.objs.size + 2 ∨ c = s1.heap.objs.size + 3 ∨ c = s1.heap.objs.size ∨ c = s1.heap.objs.size + 1 := by simpa using hcm
        have hle : s1.heap.objs.size ≤ c := by
          rcases e' with z | z | z | z | z
          · rw [z]; exact Nat.le_add_right _ _
          · rw [z]; exact Nat.le_add_right _ _
          · rw [z]; exact Nat.le_add_right _ _
          · rw [z]; exact Nat.le_refl _
          · rw [z]; exact Nat.le_add_right _ _
        exact I1.fpOk hle (I1.hok.fresh hle)
end DL

/-! A comprehension whose new list stands apart while its items are made: its records are pinned, not tracked. -/
namespace DL
open PySem PySem.Spec L2
open PyProof.Rows hiding St
set_option autoImplicit false

/-- the records at D are tracked from here on -/
theorem un_track {fs ex : List Addr} {H H' : Hp} {h h' : Heap} {D : Addr} {o : HO} (u : Un fs ex H H' h h') (hx : D ∈ ex) (hn : H D = none) : Un fs ex H (upd H' D o) h h' where
  keep := u.keep
  slot := u.slot
  free := fun b ob q n hb => by rw [upd_ne (by intro z; subst z; exact hb hx)]; exact u.free b ob q n hb
  there := u.there
  tups := fun b xs q => by rw [upd_ne (ne_of_none q hn)]; exact u.tups b xs q
  frzs := fun b ob xs q => by rw [upd_ne (ne_of_none q hn)]; exact u.frzs b ob xs q
  tbls := fun b ps q => by obtain ⟨m, e⟩ := u.tbls b ps q; exact ⟨m, by rw [upd_ne (ne_of_none q hn)]; exact e⟩
theorem hok_track {P : Program} {w : World} {H : Hp} {h : Heap} {D : Addr} {o : HO} (x : HOk P w H h) (hn : H D = none) (new : ObjOk P w (upd H D o) h D o) : HOk P w (upd H D o) h := fun b u e => by
  by_cases hb : b = D
  · subst hb; rw [upd_same] at e; cases e; exact new
  · rw [upd_ne hb] at e
    exact (x b u e).stay (fun c v _ q => q) (fun c q => by rw [upd_ne (ne_of_none q hn)]; exact q) fun c xs q => by rw [upd_ne (ne_of_none q hn)]; exact q
section
variable {X : Cx}
/-- [elt for target in iter if ..]: W by the turn, a measure, the items so far -/
def tLcP (wi : TI) (g : TG) (tt : TT) (te : TE) (vs : List Nat) : TE := fun σ H Q => wi σ H fun J H1 => ∃ W : Nat → Nat → List V → Hp → Prop, (∃ m, W 0 m [] H1) ∧ ∀ i m acc H, W i m acc H →
  (J.stop i H ∧ ∀ D, H D = none → Q (.ref D) (upd H D (.lst acc))) ∨ (J.go i H ∧ ∃ Nx : List V → Hp → Prop, (∀ acc' H', Nx acc' H' → acc'.length ≤ sizeLine ∧ ∃ m', m' < m ∧ W (i + 1) m' acc' H') ∧ ∀ x H', J.yld i H x H' → g x (wipe σ vs) H' fun σ2 H2 => wipe σ2 vs = wipe σ vs ∧ tt σ2 H2 fun b H3 =>
    if b = true then te σ2 H3 fun y H4 => Nx (acc ++ [y]) H4 else Nx acc H3)
theorem lcP_core {pins : List (Addr × Obj)} {s : Shared} {σ : St} {H : Hp} {Q : VK} {elt tg iter : Expr} {ifs : List Expr} {scope : Scope} {own : List (Str × Nat)} {pos pos' : Pos} {wi : TI} {g : TG} {tt : TT} {te : TE} {use : Option (Value → Sem Unit)} {Qf : Value → Shared → Prop}
    (hc : X.calm = true) (hN : X.N.Nodup) (I : Inv X pins σ H s) (hi : PI X tg iter wi) (ok : BlkOk X.N X.env.scope scope own)
    (hg : ∀ (s : Shared) (H : Hp) (C : Addr) (cl : List (Str × Addr)) (fp : List Addr), PG (X.blk s H scope (compEnvC scope cl C X.env) fp) tg g) (ht : ∀ (s : Shared) (H : Hp) (C : Addr) (cl : List (Str × Addr)) (fp : List Addr), PTs (X.blk s H scope (compEnvC scope cl C X.env) fp) ifs tt)
    (he : ∀ (s : Shared) (H : Hp) (C : Addr) (cl : List (Str × Addr)) (fp : List Addr), PE (X.blk s H scope (compEnvC scope cl C X.env) fp) elt te) (hs : ∀ x, foldedSetIterable iter X.env x = pure x)
    (h : tLcP wi g tt te (own.map (·.2)) σ H Q)
    (hRR : ∀ D C s' m H', Inv X pins σ H' s' → Q (.ref D) H' → s'.heap.Ns C m → FpOk X pins H' C → compPost (model X.prog X.w) X.A X.xe use Qf (.ref D) C (.ok .next) s') :
    wpAny (model X.prog X.w) X.A (comprehension (.ListComp elt [⟨tg, iter, ifs, 0⟩] scope pos) scope X.env pos' (newList []) false (eval iter X.env) use) Qf X.xe s := by
  have hfree : ∀ y ∈ scope.names, y.2 = .free → ∃ c, X.env.cells.lookup y.1 = some c := fun y hy e => by
    rcases ok.free y hy e with k | k
    · exact I.ok.has _ (.inl k)
    · exact I.ok.has _ (.inr k)
  refine wpAny_comprehension_free (use := use) rfl hs (closure_ok hfree) ok.kind (fun y hy e => by rw [ok.uniq y hy, e])
    (thn (hi.run pins s σ H _ I h) fun xv s1 hx => thn hx fun itv s2 h2 => ?_)
  obtain ⟨it, fp, tn, J, H2, e, I2, T, st2, f2, q⟩ := h2
  subst e
  refine wpAny_newObj_type (newEnv_comp ?_) (by show 0 ≤ sizeLine; decide)
  generalize hD : s2.heap.objs.size = D
  have hDn : H2 D = none := I2.hok.fresh (Nat.le_of_eq hD)
  obtain ⟨W, ⟨m0, w0⟩, turn⟩ := q
  generalize hs3 : ({ s2 with heap := s2.heap.push { cls := .type "list", data := .seq ([] : List Value).toArray } } : Shared) = s3
  have I3 : Inv X pins σ H2 s3 := by
    rw [← hs3]
    exact I2.kept (t' := s2.toks) (fun b o e => Heap.get?_push_of_some _ e)
  have h3 : s3.heap = s2.heap.push { cls := .type "list", data := .seq ([] : List Value).toArray } := by rw [← hs3]
  have D3 : s3.heap.get? D = some { cls := .type "list", data := .seq ([] : List Value).toArray } := by
    rw [h3, ← hD]; exact Heap.get?_push_size _ rfl
  have sz : ∀ b ∈ fp, b < s2.heap.objs.size := fun b hb => by
    obtain ⟨o, e, _⟩ := T.obj _ _ st2 b hb
    exact Heap.lt_size e
  have Dfp : D ∉ fp := fun m => by have := sz D m; rw [hD] at this; exact Nat.lt_irrefl _ this
  have fD : FpOk X pins H2 D := I2.fpOk (Nat.le_of_eq hD) hDn
  have f3 : ∀ b ∈ D :: fp, FpOk X pins H2 b ∧ b < s3.heap.objs.size := fun b hb => by
    rcases List.mem_cons.mp hb with e | hb
    · rw [e]; exact ⟨fD, Heap.lt_size D3⟩
    · exact ⟨f2 b hb, by rw [h3, Heap.size_push]; exact Nat.lt_succ_of_lt (sz b hb)⟩
  have st3 : tn 0 s3.heap := T.keep _ _ _ st2 fun b _ o e => by rw [h3]; exact Heap.get?_push_of_some _ e
  have I4 := block_start I3 ok hN f3
  have pg := hg s3 H2 s3.heap.objs.size (cellsFrom (s3.heap.objs.size + 1) scope.names (cloFrom X.env.cells scope.names [])) (D :: fp)
  have pt := ht s3 H2 s3.heap.objs.size (cellsFrom (s3.heap.objs.size + 1) scope.names (cloFrom X.env.cells scope.names [])) (D :: fp)
  have pe := he s3 H2 s3.heap.objs.size (cellsFrom (s3.heap.objs.size + 1) scope.names (cloFrom X.env.cells scope.names [])) (D :: fp)
  show codeAny _ _ (.compStart (.ListComp elt [⟨tg, iter, ifs, 0⟩] scope pos) 0 (.ref it) (.ref D) (compEnvC scope (cellsFrom (s3.heap.objs.size + 1) scope.names (cloFrom X.env.cells scope.names [])) s3.heap.objs.size X.env)) (compPost (model X.prog X.w) X.A X.xe use Qf (.ref D) s3.heap.objs.size) { s3 with heap := pushCells (s3.heap.push { cls := .type "dict", data := .dict #[] }) scope.names }
  have nfp : ∀ b ∈ D :: fp, H2 b = none := fun b hb => (f3 b hb).1.1
  generalize hce : compEnvC scope (cellsFrom (s3.heap.objs.size + 1) scope.names (cloFrom X.env.cells scope.names [])) s3.heap.objs.size X.env = ce at I4 pg pt pe ⊢
  have cL : ce.locals = s3.heap.objs.size := by subst hce; rfl
  generalize hs4 : ({ s3 with heap := pushCells (s3.heap.push { cls := .type "dict", data := .dict #[] }) scope.names } : Shared) = s4 at I4 ⊢
  have k34 : ∀ b o, s3.heap.get? b = some o → s4.heap.get? b = some o := fun b o e => by rw [← hs4]; exact pushCells_keeps _ _ _ _ (Heap.get?_push_of_some _ e)
  have st4 : tn 0 s4.heap := T.keep _ _ _ st3 fun b _ o e => k34 b o e
  have stat : ∀ {σ' : St} {H' : Hp} {s' : Shared}, Inv (X.blk s3 H2 scope ce (D :: fp)) [] σ' H' s' → (∀ b ∈ D :: fp, H' b = none) → ∀ b ∈ D :: fp, FpOk (X.blk s3 H2 scope ce (D :: fp)) [] H' b := fun {σ' H' s'} I' hn b hb =>
    ⟨hn b hb, (I'.ok.exf b hb).1, I'.ok.exfs b hb, .inl hb, fun x c e => (I'.ok.exf b hb).2 x c e, fun p hp => absurd (show p ∈ ([] : List (Addr × Obj)) ++ [] from hp) (by simp)⟩
  have loop : codeAny (model X.prog X.w) X.A (.compLoop (.ListComp elt [⟨tg, iter, ifs, 0⟩] scope pos) 0 (.ref it) (.ref D) ce) (compPost (model X.prog X.w) X.A X.xe use Qf (.ref D) s3.heap.objs.size) s4 := by
    refine compLoop_any (fun n s' => ∃ i acc H', Inv (X.blk s3 H2 scope ce (D :: fp)) [] (wipe σ (own.map (·.2))) H' s' ∧ tn i s'.heap ∧ (∀ b ∈ D :: fp, H' b = none) ∧ (∃ (its : List Value) (k : Nat), Vals acc its ∧ s'.heap.get? D = some { cls := .type "list", data := .seq its.toArray k }) ∧ acc.length ≤ sizeLine ∧ W i n acc H') ?_ m0 ⟨0, [], H2, I4, st4, nfp, ⟨[], 0, .nil, k34 _ _ D3⟩, Nat.zero_le _, w0⟩
    rintro n s5 ⟨i, acc, H5, I5, st5, n5, ⟨its, kk, rv, oD⟩, la, w5⟩
    have n5' : ∀ b ∈ fp, H5 b = none := fun b hb => n5 b (List.mem_cons_of_mem _ hb)
    have stat5 := stat I5 n5
    rcases turn i n acc H5 w5 with ⟨stop, qq⟩ | ⟨go, Nx, hNx, step⟩
    · have td := T.done (X.blk s3 H2 scope ce (D :: fp)) rfl rfl rfl hc i ([] ++ pinsAt [D] s5.heap) s5 _ H5 (fun _ _ => False) (I5.pinned (pins := []) (fp := [D]) (fun b hb => stat5 b (by rw [show b = D by simpa using hb]; exact List.mem_cons_self)) (fun b hb => by rw [show b = D by simpa using hb]; exact ⟨_, oD, fun v z => nomatch z⟩)) (fun b hb => by
        obtain ⟨a1, a2, a3, a4, a5, a6⟩ := stat5 b (List.mem_cons_of_mem _ hb)
        refine ⟨a1, a2, a3, a4, a5, fun p hp z => ?_⟩
        rcases List.mem_append.mp hp with hp | hp
        · exact absurd hp (by simp)
        · obtain ⟨e1, _⟩ := of_pinsAt hp
          rw [show p.1 = D by simpa using e1] at z
          rw [← z] at hb
          exact Dfp hb) st5 stop
      refine thnF td fun r s6 ⟨hr, I6⟩ => ?_
      subst hr
      have o6 := I6.pin (D, _) (List.mem_append_right _ (mem_pinsAt (fp := [D]) (by simp) oD))
      have o6' : s6.heap.get? D = some _ := o6.1
      have nD : H5 D = none := n5 D List.mem_cons_self
      have new : ObjOk X.prog X.w (upd H5 D (.lst acc)) s6.heap D (.lst acc) := ⟨la, its, kk, rv, o6'⟩
      have I7 : Inv X pins σ (upd H5 D (.lst acc)) s6 := I3.call' (ch := D :: fp) I6.os (un_track I6.base List.mem_cons_self hDn) (hok_track I6.hok nD new) I6.bare fun b hb => ⟨(f3 b hb).1.2.2.2.1, (f3 b hb).1.2.1, (f3 b hb).1.2.2.2.2.1, (f3 b hb).1.2.2.2.2.2⟩
      have nC : (upd H5 D (.lst acc)) s3.heap.objs.size = none := by
        have z : H5 ce.locals = none := I6.free
        rw [cL] at z
        rw [upd_ne (Nat.ne_of_gt (Heap.lt_size D3))]
        exact z
      obtain ⟨m, hn, _⟩ := I6.loc
      have hn : s6.heap.Ns ce.locals m := hn
      rw [cL] at hn
      exact hRR D s3.heap.objs.size s6 m _ I7 (qq D nD) hn (I3.fpOk (Nat.le_refl _) nC)
    · have ti := T.item (X.blk s3 H2 scope ce (D :: fp)) rfl rfl rfl hc i ([] ++ pinsAt [D] s5.heap) s5 _ H5 (fun _ _ => False) (I5.pinned (pins := []) (fp := [D]) (fun b hb => stat5 b (by rw [show b = D by simpa using hb]; exact List.mem_cons_self)) (fun b hb => by rw [show b = D by simpa using hb]; exact ⟨_, oD, fun v z => nomatch z⟩)) (fun b hb => by
        obtain ⟨a1, a2, a3, a4, a5, a6⟩ := stat5 b (List.mem_cons_of_mem _ hb)
        refine ⟨a1, a2, a3, a4, a5, fun p hp z => ?_⟩
        rcases List.mem_append.mp hp with hp | hp
        · exact absurd hp (by simp)
        · obtain ⟨e1, _⟩ := of_pinsAt hp
          rw [show p.1 = D by simpa using e1] at z
          rw [← z] at hb
          exact Dfp hb) st5 go
      refine thnF ti fun r s6 ⟨u, hr, h6⟩ => ?_
      subst hr
      refine thnF h6 fun _ s7 ⟨x, H7, I7, r7, y7, st7, n7⟩ => ?_
      have o7 := I7.pin (D, _) (List.mem_append_right _ (mem_pinsAt (fp := [D]) (by simp) oD))
      have oD7 : s7.heap.get? D = some _ := o7.1
      have nD7 : H7 D = none := o7.2.1
      have n7' : ∀ b ∈ D :: fp, H7 b = none := fun b hb => by
        rcases List.mem_cons.mp hb with e | hb
        · rw [e]; exact nD7
        · exact n7 b hb
      have I7u : Inv (X.blk s3 H2 scope ce (D :: fp)) [] (wipe σ (own.map (·.2))) H7 s7 := I7.unpinned (pins := [])
      have I7' := I7u.pinned (stat I7u n7') (fun b hb => by
        rcases List.mem_cons.mp hb with e | hb
        · rw [e]; exact ⟨_, oD7, fun v z => nomatch z⟩
        · exact T.obj _ _ st7 b hb)
      refine thnF (pg.run _ s7 _ H7 x u _ I7' r7 (step x H7 y7)) fun _ s8 ⟨σ8, H8, I8, hw8, q8⟩ => ?_
      refine thnF (pt.run _ s8 σ8 H8 _ I8 q8) fun b s9 ⟨H9, I9, q9⟩ => ?_
      have pin' : ∀ {s' : Shared} {H' : Hp}, Inv (X.blk s3 H2 scope ce (D :: fp)) ([] ++ pinsAt (D :: fp) s7.heap) σ8 H' s' → ∀ b ∈ D :: fp, ∀ o, s7.heap.get? b = some o → s'.heap.get? b = some o ∧ H' b = none := fun {s' H'} I' b hb o e =>
        let z := I'.pin (b, o) (List.mem_append_right _ (List.mem_append_right _ (mem_pinsAt hb e)))
        ⟨z.1, z.2.1⟩
      have hl : (wipe σ (own.map (·.2))).length = σ8.length := by rw [← hw8, wipe_length]
      have weak : ∀ {s' : Shared} {H' : Hp}, Inv (X.blk s3 H2 scope ce (D :: fp)) [] σ8 H' s' → Inv (X.blk s3 H2 scope ce (D :: fp)) [] (wipe σ (own.map (·.2))) H' s' := fun {s' H'} I' => I'.weak hl (fun j v e => by
        rw [← hw8] at e
        exact (wipe_some e).1)
      cases b with
      | false =>
        simp only [Bool.false_eq_true, if_false] at q9 ⊢
        obtain ⟨la', m', hm, w'⟩ := hNx acc H9 q9
        refine ⟨m', hm, i + 1, acc, H9, weak (I9.unpinned (pins := [])), T.keep _ _ _ st7 fun b hb o e => (pin' I9 b (List.mem_cons_of_mem _ hb) o e).1, fun b hb => ?_, ⟨its, kk, rv, (pin' I9 D List.mem_cons_self _ oD7).1⟩, la', w'⟩
        rcases List.mem_cons.mp hb with e | hb'
        · rw [e]; exact (pin' I9 D List.mem_cons_self _ oD7).2
        · obtain ⟨o, e, _⟩ := T.obj _ _ st7 b hb'
          exact (pin' I9 b hb o e).2
      | true =>
        simp only [if_true] at q9 ⊢
        refine thnF (pe.run _ s9 σ8 H9 _ I9 q9) fun z s10 ⟨yv, H10, I10, r10, nx⟩ => ?_
        obtain ⟨la', m', hm, w'⟩ := hNx _ H10 nx
        have oD10 := pin' I10 D List.mem_cons_self _ oD7
        have n10 : ∀ b ∈ D :: fp, H10 b = none := fun b hb => by
          rcases List.mem_cons.mp hb with e | hb'
          · rw [e]; exact oD10.2
          · obtain ⟨o, e, _⟩ := T.obj _ _ st7 b hb'
            exact (pin' I10 b hb o e).2
        have I10u : Inv (X.blk s3 H2 scope ce (D :: fp)) [] σ8 H10 s10 := I10.unpinned (pins := [])
        have hlen : its.length < sizeLine := by
          rw [List.length_append] at la'
          have := rv.length
          simp at la'
          omega
        refine append_at (hsz := by rw [List.size_toArray]; omega) oD10.1 fun h' sb ho' => ?_
        obtain ⟨g1, g2, g3, g4, g5, g6⟩ := stat I10u n10 D List.mem_cons_self
        have I11 : Inv (X.blk s3 H2 scope ce (D :: fp)) [] σ8 H10 { s10 with heap := h' } := I10u.turned (t' := s10.toks) (fun b o hb e => (sb.2 b hb).trans e) g1 g2 g4 g5 g6
        refine ⟨m', hm, i + 1, acc ++ [yv], H10, weak I11, T.keep _ _ _ st7 fun b hb o e => ?_, n10, ⟨its ++ [z], kk + 1, rv.append (.cons r10 .nil), ?_⟩, la', w'⟩
        · exact (sb.2 b (fun z => Dfp (by rw [← z]; exact hb))).trans (pin' I10 b (List.mem_cons_of_mem _ hb) o e).1
        · show h'.get? D = _
          rw [ho']
          simp
  exact codeAny_compStart_list loop (T.self X.A 0 _ _ _ st4 loop)
/-- as a value -/
theorem pe_lcP {elt tg iter : Expr} {ifs : List Expr} {scope : Scope} {own : List (Str × Nat)} {pos : Pos} {wi : TI} {g : TG} {tt : TT} {te : TE} (hc : X.calm = true) (hN : X.N.Nodup) (hi : PI X tg iter wi) (ok : BlkOk X.N X.env.scope scope own)
    (hg : ∀ (s : Shared) (H : Hp) (C : Addr) (cl : List (Str × Addr)) (fp : List Addr), PG (X.blk s H scope (compEnvC scope cl C X.env) fp) tg g) (ht : ∀ (s : Shared) (H : Hp) (C : Addr) (cl : List (Str × Addr)) (fp : List Addr), PTs (X.blk s H scope (compEnvC scope cl C X.env) fp) ifs tt)
    (he : ∀ (s : Shared) (H : Hp) (C : Addr) (cl : List (Str × Addr)) (fp : List Addr), PE (X.blk s H scope (compEnvC scope cl C X.env) fp) elt te) (hs : ∀ x, foldedSetIterable iter X.env x = pure x) :
    PE X (.ListComp elt [⟨tg, iter, ifs, 0⟩] scope pos) (tLcP wi g tt te (own.map (·.2))) := by
  refine ⟨fun pins s σ H Q I h => ?_⟩
  rw [eval_ListComp]
  refine lcP_core hc hN I hi ok hg ht he hs h fun D C s' m H' I' q hn f => ⟨m, hn, fun h'' sb => ?_⟩
  obtain ⟨f0, f1, f2, f3, f4, f5⟩ := f
  exact ⟨.ref D, H', I'.turned (t' := s'.toks) (fun b o hb e => (sb.2 b hb).trans e) f0 f1 f3 f4 f5, rfl, q⟩
/-- name = [..], the name a local -/
theorem ps_setLcP {i : Nat} {y : Str} {py : Pos} {elt tg iter : Expr} {ifs : List Expr} {scope : Scope} {own : List (Str × Nat)} {pos spos : Pos} {wi : TI} {g : TG} {tt : TT} {te : TE} (hc : X.calm = true) (hN : X.N.Nodup) (hy : X.N[i]? = some y) (hyl : X.env.scope.names.lookup y = some .local)
    (hsw : swapsWith (.ListComp elt [⟨tg, iter, ifs, 0⟩] scope pos) (some (.Name y py)) spos.line X.env = pure true) (hi : PI X tg iter wi) (ok : BlkOk X.N X.env.scope scope own)
    (hg : ∀ (s : Shared) (H : Hp) (C : Addr) (cl : List (Str × Addr)) (fp : List Addr), PG (X.blk s H scope (compEnvC scope cl C X.env) fp) tg g) (ht : ∀ (s : Shared) (H : Hp) (C : Addr) (cl : List (Str × Addr)) (fp : List Addr), PTs (X.blk s H scope (compEnvC scope cl C X.env) fp) ifs tt)
    (he : ∀ (s : Shared) (H : Hp) (C : Addr) (cl : List (Str × Addr)) (fp : List Addr), PE (X.blk s H scope (compEnvC scope cl C X.env) fp) elt te) (hs : ∀ x, foldedSetIterable iter X.env x = pure x) :
    PS X (.Assign [.Name y py] (.ListComp elt [⟨tg, iter, ifs, 0⟩] scope pos) spos) (tAsg (tLcP wi g tt te (own.map (·.2))) (gName i)) := by
  refine ⟨fun pins s σ H D I h => ?_⟩
  rw [exec_Assign_Name_used _ _ _ _ hsw]
  refine wpAny_bind (wpAny_standAt (wpAny_bind ?_))
  show wpAny _ X.A (do let _ ← comprehension (.ListComp elt [⟨tg, iter, ifs, 0⟩] scope pos) scope X.env (firstIterPos [⟨tg, iter, ifs, 0⟩] pos) (newList []) false (eval iter X.env) (some (assign (.Name y py) X.env))) _ _ s
  have h : tLcP wi g tt te (own.map (·.2)) σ H (fun x H1 => gName i x σ H1 D.nx) := h
  refine wpAny_bind (thn (lcP_core (Qf := fun _ s' => SP X pins D .next s') hc hN I hi ok hg ht he hs h fun L C s' m H' I' q hn f => ?_) fun _ s' hq => wpAny_pure (wpAny_pure hq))
  show wpAny _ _ (assign (.Name y py) X.env (.ref L)) _ _ _
  refine wpAny_assign_Name (store_ok2 (v := V.ref L) I' hN hy (.inl hyl) rfl (fun s2 I2 ⟨a, sb, ha⟩ => ?_) (.inr hyl))
  obtain ⟨f0, f1, f2, f3, f4, f5⟩ := f
  have haC : C ≠ a := by
    rcases ha with z | z
    · rw [z]; exact f1
    · exact fun e => f4 y a z e.symm
  refine ⟨m, hn.sameBut sb haC, fun h3 sb3 => ?_⟩
  exact ⟨_, H', I2.turned (t' := s2.toks) (fun b o hb e => (sb3.2 b hb).trans e) f0 f1 f3 f4 f5, q⟩
end
end DL

/-! Walks and comprehensions over data. -/
namespace DL
open PySem PySem.Spec L2
set_option autoImplicit false

/-- the iterator gives l's items -/
def ItOk (G : Gx) (F : Hp) (J : It) (l : List D) : Prop := ∀ (i : Nat) (F1 : Hp) (r : Pl) (S : Store) (H : Hp), Same F F1 → Rp G F1 r S H →
  (i < l.length → J.go i H ∧ ∀ x H', J.yld i H x H' → ∃ F2 d, Same F1 F2 ∧ Rp G F2 r S H' ∧ l[i]? = some d ∧ Is G F2 x d) ∧ (i = l.length → J.stop i H)
theorem ItOk.mono {G : Gx} {F F' : Hp} {J : It} {l : List D} (h : ItOk G F J l) (s : Same F F') : ItOk G F' J l := fun i F1 r S H s1 R => h i F1 r S H (s.trans s1) R
def rdI (G : Gx) (Γ : Ev) (W : WX) (a : E) : TI := fun σ H Q => ∃ F r S e, Rp G F r S H ∧ Lo G F r σ e ∧ Post G W σ (fun F _ J l => ItOk G F J l) F r (evI Γ a e S) Q
theorem pi_imp {X : Cx} {tg e : Expr} {t t' : TI} (h : PI X tg e t) (k : ∀ σ H Q, t' σ H Q → t σ H Q) : PI X tg e t' := ⟨fun pins s σ H Q I q => h.run pins s σ H Q I (k σ H Q q)⟩
section
variable {G : Gx} {Γ : Ev} {tb : Tb} {c : Sc} {X : Cx} {W : WX} {j : Nat} {pos : Pos} {tg : Expr}

theorem seq_of {F : Hp} {x : V} {d : D} {l : List D} (h : Is G F x d) (e : seqOf d = some l) : ∃ a b xs, x = .ref a ∧ (∀ H', Same F H' → SqB G.K b H' a xs) ∧ IsL G F xs l := by
  cases d <;> first | (simp [seqOf] at e; done) | skip
  · cases e
    cases h with | tup h t => exact ⟨_, false, _, rfl, fun H' s => same_sqT s h, t⟩
  · cases e
    cases h with | lst h t => exact ⟨_, true, _, rfl, fun H' s => SqL.of (s _ _ h), t⟩
  · cases e
    cases h with | scr h t => exact ⟨_, true, _, rfl, fun H' s => s.seq h, t⟩
theorem it_seq {F : Hp} {a : Addr} {b : Bool} {xs : List V} {l : List D} (h : ∀ H', Same F H' → SqB G.K b H' a xs) (t : IsL G F xs l) : ItOk G F (ItS G.K b a) l := fun i F1 r S H s R => by
  have q := h H (s.trans R.sub)
  refine ⟨fun hi => ?_, fun hi => ?_⟩
  · obtain ⟨v, e, iv⟩ := t.get (List.getElem?_eq_getElem hi)
    have yl : ∀ x H', (ItS G.K b a).yld i H x H' → H' = H ∧ x = v := fun x H' y => by
      cases b
      · exact ⟨y.1, Option.some.inj ((y.2 xs q).symm.trans e)⟩
      · exact ⟨y.1, Option.some.inj ((y.2 xs q).symm.trans e)⟩
    refine ⟨?_, fun x H' y => ?_⟩
    · cases b <;> exact ⟨xs, v, q, e⟩
    · obtain ⟨rfl, rfl⟩ := yl x H' y
      exact ⟨F1, _, Same.refl _, R, List.getElem?_eq_getElem hi, iv.mono s⟩
  · cases b <;> exact ⟨xs, q, by rw [t.length, hi]; exact Nat.le_refl _⟩
theorem di_seq (C : Ct G Γ tb c X W j) {a : E} {ea : Expr} (ha : PE X ea (rdE G Γ W a)) : PI X tg ea (rdI G Γ W (.cons a .nil)) :=
  pi_imp (pi_seq ha) fun σ H Q ⟨F, r, S, e, R, L, p⟩ => by
    unfold evI at p
    refine ⟨F, r, S, e, R, L, Post.imp (Post.bnD p) fun x H1 ⟨F1, r1, S1, d1, e1, R1, q1, p1⟩ => ?_⟩
    cases q : seqOf d1 with
    | none => rw [q] at p1; exact p1.elim
    | some l =>
      rw [q] at p1
      obtain ⟨a, b, xs, rfl, h1, h2⟩ := seq_of q1 q
      exact ⟨a, b, xs, rfl, by rw [C.K]; exact h1 _ R1.sub, Post.done p1 .refl R1 (by rw [C.K]; exact it_seq h1 h2)⟩
theorem it_rng {F : Hp} {lo : Int} {n : Nat} : ItOk G F (Itr lo n) ((List.range n).map fun (i : Nat) => D.int (lo + i)) := fun i F1 r S H s R => by
  refine ⟨fun hi => ⟨by show i < n; simpa using hi, fun x H' y => ?_⟩, fun hi => by show n ≤ i; simp at hi; omega⟩
  obtain ⟨rfl, rfl⟩ := y
  have hi' : i < n := by simpa using hi
  exact ⟨F1, .int (lo + i), Same.refl _, R, by simp [hi'], .int _⟩
theorem di_rng1 (C : Ct G Γ tb c X W j) {a : E} {ea : Expr} {px : Pos} (hf : Str.ofString "range" ∈ tb.free) (hg : isGlB c (Str.ofString "range") = true) (ha : PE X ea (rdE G Γ W a)) (hp : plainE ea = true) :
    PI X tg (.Call (.Name "range" px) [ea] [] pos) (rdI G Γ W (.rng1 a)) := by
  obtain ⟨g1, g2⟩ := gl_of C hg
  refine pi_imp (pi_range1 g1 (C.wd.fr _ hf) (pa_cons ha pa_nil (star_cons hp _ _)) (star_cons hp _ _)) fun σ H Q ⟨F, r, S, e, R, L, p⟩ => ?_
  unfold evI at p
  refine ⟨F, r, S, e, R, L, Post.imp (Post.bnD p) fun x H1 ⟨F1, r1, S1, d1, e1, R1, q1, p1⟩ => ?_⟩
  cases d1 <;> first | exact p1.elim | skip
  rename_i i
  simp only at p1
  split at p1
  · rename_i hs
    unfold small62 at hs
    simp only [Bool.and_eq_true, decide_eq_true_eq] at hs
    cases q1
    refine ⟨i, rfl, hs.1, hs.2, Post.done p1 .refl R1 ?_⟩
    have := it_rng (G := G) (F := F1) (lo := 0) (n := i.toNat)
    unfold rngL
    rw [Int.sub_zero]
    exact this
  · exact p1.elim
theorem di_rng2 (C : Ct G Γ tb c X W j) {a b : E} {ea eb : Expr} {px : Pos} (hf : Str.ofString "range" ∈ tb.free) (hg : isGlB c (Str.ofString "range") = true) (ha : PE X ea (rdE G Γ W a)) (hp : plainE ea = true) (hb : PE X eb (rdE G Γ W b)) (hp' : plainE eb = true) :
    PI X tg (.Call (.Name "range" px) [ea, eb] [] pos) (rdI G Γ W (.rng2 a b)) := by
  obtain ⟨g1, g2⟩ := gl_of C hg
  refine pi_imp (pi_range2 g1 (C.wd.fr _ hf) (pa_cons ha (pa_cons hb pa_nil (star_cons hp' _ _)) (star_cons hp _ _)) (by rw [star_cons hp, star_cons hp']; rfl) (star_cons hp' _ _)) fun σ H Q ⟨F, r, S, e, R, L, p⟩ => ?_
  unfold evI at p
  refine ⟨F, r, S, e, R, L, Post.imp (Post.bnD p) fun x H1 ⟨F1, r1, S1, d1, e1, R1, q1, p1⟩ => ?_⟩
  refine ⟨F1, r1, S1, e, R1, L.mono e1, Post.imp (Post.bnD p1) fun y H2 ⟨F2, r2, S2, d2, e2, R2, q2, p2⟩ => ?_⟩
  cases d1 <;> cases d2 <;> first | exact p2.elim | skip
  simp only at p2
  split at p2
  · rename_i hs
    unfold small62 at hs
    simp only [Bool.and_eq_true, decide_eq_true_eq] at hs
    cases q1
    cases q2
    exact ⟨_, _, rfl, ⟨hs.1.1, hs.1.2, hs.2.1, hs.2.2⟩, Post.done p2 .refl R2 (by unfold rngL; exact it_rng)⟩
  · exact p2.elim
theorem enum_at : ∀ {l : List D} {n i : Nat}, (enumL n l)[i]? = (l[i]?).map fun d => D.tup [.int ((n + i : Nat) : Int), d]
  | [], n, i => by simp [enumL]
  | x :: r, n, 0 => by simp [enumL]
  | x :: r, n, i + 1 => by
    have := enum_at (l := r) (n := n + 1) (i := i)
    simp only [enumL, List.getElem?_cons_succ]
    rw [this, show n + 1 + i = n + (i + 1) by omega]
theorem enum_len : ∀ {l : List D} {n : Nat}, (enumL n l).length = l.length
  | [], n => rfl
  | x :: r, n => by simp [enumL, enum_len (l := r)]
theorem it_enum {F : Hp} {a : Addr} {b : Bool} {xs : List V} {l : List D} (h : ∀ H', Same F H' → SqB G.K b H' a xs) (t : IsL G F xs l) : ItOk G F (IteB G.K b a) (enumL 0 l) := fun i F1 r S H s R => by
  have q := h H (s.trans R.sub)
  refine ⟨fun hi => ?_, fun hi => ⟨xs, q, by rw [t.length, hi, enum_len]⟩⟩
  rw [enum_len] at hi
  obtain ⟨v, e, iv⟩ := t.get (List.getElem?_eq_getElem hi)
  refine ⟨⟨xs, v, q, e⟩, fun x H' y => ?_⟩
  obtain ⟨T, w, rfl, hT, rfl, y⟩ := y
  have ew : w = v := Option.some.inj ((y xs q).symm.trans e)
  subst ew
  obtain ⟨R2, s2, i2⟩ := new_tup (l := [.int (i : Nat), l[i]]) R hT (.cons (.int _) (.cons (iv.mono s) .nil))
  exact ⟨_, _, s2, R2, by rw [enum_at, List.getElem?_eq_getElem hi]; simp, i2⟩
theorem di_enum (C : Ct G Γ tb c X W j) {a : E} {ea : Expr} {px tpos : Pos} {elts : List Expr} {kk : Nat} (hf : Str.ofString "enumerate" ∈ tb.free) (hg : isGlB c (Str.ofString "enumerate") = true) (ha : PE X ea (rdE G Γ W a)) (hp : plainE ea = true) :
    PI X (.Tuple elts kk tpos) (.Call (.Name "enumerate" px) [ea] [] pos) (rdI G Γ W (.enum a)) := by
  obtain ⟨g1, g2⟩ := gl_of C hg
  refine pi_imp (pi_enumB g1 (C.wd.fr _ hf) (pa_cons ha pa_nil (star_cons hp _ _)) (star_cons hp _ _)) fun σ H Q ⟨F, r, S, e, R, L, p⟩ => ?_
  unfold evI at p
  refine ⟨F, r, S, e, R, L, Post.imp (Post.bnD p) fun x H1 ⟨F1, r1, S1, d1, e1, R1, q1, p1⟩ => ?_⟩
  cases q : seqOf d1 with
  | none => rw [q] at p1; exact p1.elim
  | some l =>
    rw [q] at p1
    obtain ⟨a, b, xs, rfl, h1, h2⟩ := seq_of q1 q
    exact ⟨a, b, xs, rfl, by rw [C.K]; exact h1 _ R1.sub, Post.done p1 .refl R1 (by rw [C.K]; exact it_enum h1 h2)⟩
theorem zip_at : ∀ {l m : List D} {i : Nat} {x y : D}, l[i]? = some x → m[i]? = some y → (zipL l m)[i]? = some (.tup [x, y])
  | x :: r, y :: s, 0, _, _, h1, h2 => by simp at h1 h2; subst h1 h2; rfl
  | x :: r, y :: s, i + 1, _, _, h1, h2 => by simp only [zipL, List.getElem?_cons_succ]; exact zip_at (by simpa using h1) (by simpa using h2)
  | [], _, _, _, _, h1, _ => by simp at h1
  | _ :: _, [], _, _, _, _, h2 => by simp at h2
theorem zip_len : ∀ {l m : List D}, (zipL l m).length = min l.length m.length
  | [], m => by simp [zipL]
  | _ :: _, [] => by simp [zipL]
  | x :: r, y :: s => by simp [zipL, zip_len (l := r) (m := s)]
theorem it_zip {F : Hp} {a1 a2 : Addr} {b1 b2 : Bool} {xs ys : List V} {l m : List D} (h : ∀ H', Same F H' → SqB G.K b1 H' a1 xs) (t : IsL G F xs l) (h' : ∀ H', Same F H' → SqB G.K b2 H' a2 ys) (t' : IsL G F ys m) : ItOk G F (ItzB G.K b1 b2 a1 a2) (zipL l m) := fun i F1 r S H s R => by
  have q := h H (s.trans R.sub)
  have q' := h' H (s.trans R.sub)
  refine ⟨fun hi => ?_, fun hi => ⟨xs, ys, q, q', by rw [t.length, t'.length, hi, zip_len]⟩⟩
  rw [zip_len] at hi
  have hi1 : i < l.length := by omega
  have hi2 : i < m.length := by omega
  obtain ⟨v, e, iv⟩ := t.get (List.getElem?_eq_getElem hi1)
  obtain ⟨v', e', iv'⟩ := t'.get (List.getElem?_eq_getElem hi2)
  refine ⟨⟨xs, ys, v, v', q, q', e, e'⟩, fun x H' y => ?_⟩
  obtain ⟨T, w, w', rfl, hT, rfl, y1, y2⟩ := y
  have ew : w = v := Option.some.inj ((y1 xs q).symm.trans e)
  have ew' : w' = v' := Option.some.inj ((y2 ys q').symm.trans e')
  subst ew ew'
  obtain ⟨R2, s2, i2⟩ := new_tup (l := [l[i], m[i]]) R hT (.cons (iv.mono s) (.cons (iv'.mono s) .nil))
  exact ⟨_, _, s2, R2, zip_at (List.getElem?_eq_getElem hi1) (List.getElem?_eq_getElem hi2), i2⟩
theorem di_zip (C : Ct G Γ tb c X W j) {a b : E} {ea eb : Expr} {px tpos : Pos} {elts : List Expr} {kk : Nat} (hf : Str.ofString "zip" ∈ tb.free) (hg : isGlB c (Str.ofString "zip") = true) (ha : PE X ea (rdE G Γ W a)) (hp : plainE ea = true) (hb : PE X eb (rdE G Γ W b)) (hp' : plainE eb = true) :
    PI X (.Tuple elts kk tpos) (.Call (.Name "zip" px) [ea, eb] [] pos) (rdI G Γ W (.zip a b)) := by
  obtain ⟨g1, g2⟩ := gl_of C hg
  refine pi_imp (pi_zipB g1 (C.wd.fr _ hf) (pa_cons ha (pa_cons hb pa_nil (star_cons hp' _ _)) (star_cons hp _ _)) (star_cons hp _ _) (by rw [star_cons hp']; rfl)) fun σ H Q ⟨F, r, S, e, R, L, p⟩ => ?_
  unfold evI at p
  refine ⟨F, r, S, e, R, L, Post.imp (Post.bnD p) fun x H1 ⟨F1, r1, S1, d1, e1, R1, q1, p1⟩ => ?_⟩
  refine ⟨F1, r1, S1, e, R1, L.mono e1, Post.imp (Post.bnD p1) fun y H2 ⟨F2, r2, S2, d2, e2, R2, q2, p2⟩ => ?_⟩
  split at p2
  · rename_i l m e3 e4
    obtain ⟨a1, b1, xs, rfl, h1, h2⟩ := seq_of (q1.mono e2.sub) e3
    obtain ⟨a2, b2, ys, rfl, h3, h4⟩ := seq_of q2 e4
    exact ⟨a1, a2, b1, b2, xs, ys, rfl, by rw [C.K]; exact h1 _ R2.sub, by rw [C.K]; exact h3 _ R2.sub, Post.done p2 .refl R2 (by rw [C.K]; exact it_zip h1 h2 h3 h4)⟩
  · exact p2.elim

/-! ### targets -/
def rdG (G : Gx) (g : List Nat) : TG := fun v σ H Q => ∃ F r S e u e1, Rp G F r S H ∧ Lo G F r σ e ∧ IsU G F r v u ∧ bindU g u e = some e1 ∧ ∀ σ', Lo G F r σ' e1 → (∀ vs : List Nat, (∀ i ∈ g, i ∈ vs) → L2.wipe σ' vs = L2.wipe σ vs) → Q σ' H
def rdGs (G : Gx) (g : List Nat) : TGs := fun xs σ H Q => ∃ F r S e us e1, Rp G F r S H ∧ Lo G F r σ e ∧ Paired (IsU G F r) xs us ∧ setAll g us e = some e1 ∧ ∀ σ', Lo G F r σ' e1 → (∀ vs : List Nat, (∀ i ∈ g, i ∈ vs) → L2.wipe σ' vs = L2.wipe σ vs) → Q σ' H
theorem wipe_set {σ : L2.St} {i : Nat} {x : Option V} : ∀ {vs : List Nat}, i ∈ vs → L2.wipe (σ.set i x) vs = L2.wipe σ vs
  | [], h => by simp at h
  | v :: vs, h => by
    unfold L2.wipe
    by_cases hv : i ∈ vs
    · rw [wipe_set hv]
    · have e : i = v := by rcases List.mem_cons.mp h with e | e; exact e; exact absurd e hv
      subst e
      have : ∀ {vs : List Nat} {σ : L2.St}, i ∉ vs → L2.wipe (σ.set i x) vs = (L2.wipe σ vs).set i x := by
        intro vs
        induction vs with
        | nil => intro σ _; rfl
        | cons w vs ih =>
          intro σ hh
          unfold L2.wipe
          rw [ih (fun z => hh (List.mem_cons_of_mem _ z)), List.set_comm _ _ (by intro z; subst z; exact hh List.mem_cons_self)]
      rw [this hv, List.set_set]
theorem loc_of (C : Ct G Γ tb c X W j) {i : Nat} {x : Str} (h : isLocB c i x = true) : X.N[i]? = some x ∧ L2.Loc X.env.scope x ∧ (X.fn x = true ∨ X.env.scope.names.lookup x = some .local) := by
  unfold isLocB at h
  simp only [Bool.and_eq_true, decide_eq_true_eq] at h
  obtain ⟨h1, h2⟩ := h
  unfold L2.Loc
  rw [C.N, C.sc]
  refine ⟨h1, ?_⟩
  split at h2
  · rename_i q; exact ⟨.inl q, .inr q⟩
  · rename_i q; exact ⟨.inr q, .inl (C.top h2 x)⟩
  · cases h2
theorem dg_name (C : Ct G Γ tb c X W j) {i : Nat} {x : Str} (h : isLocB c i x = true) : PG X (.Name x pos) (rdG G [i]) := by
  obtain ⟨h1, h2, h3⟩ := loc_of C h
  have p := pg_name (pos := pos) C.nd h1 h2 h3
  refine ⟨fun pins s σ H v u Q I r ⟨F, rr, S, e, w, e1, R, L, iw, hb, k⟩ => p.run pins s σ H v u Q I r ?_⟩
  cases hb
  exact k _ (L.set i iw) fun vs hv => wipe_set (hv i List.mem_cons_self)
theorem dgs_nil : PGs X [] (rdGs G []) := by
  refine ⟨fun pins s σ H vs us Q I r ⟨F, rr, S, e, ws, e1, R, L, iw, hb, k⟩ => pgs_nil.run pins s σ H vs us Q I r ?_⟩
  cases ws with
  | nil => cases iw; cases hb; exact ⟨rfl, k _ L fun _ _ => rfl⟩
  | cons w ws => cases hb
theorem dgs_cons (C : Ct G Γ tb c X W j) {i : Nat} {x : Str} {is : List Nat} {es : List Expr} (h : isLocB c i x = true) (ht : PGs X es (rdGs G is)) : PGs X (.Name x pos :: es) (rdGs G (i :: is)) := by
  refine ⟨fun pins s σ H vs us Q I r ⟨F, rr, S, e, ws, e1, R, L, iw, hb, k⟩ => (pgs_cons (dg_name C h) ht rfl).run pins s σ H vs us Q I r ?_⟩
  cases ws with
  | nil => cases hb
  | cons w ws =>
    cases iw with
    | cons iw it =>
      refine ⟨_, _, rfl, F, rr, S, e, w, _, R, L, iw, rfl, fun σ1 L1 w1 => ?_⟩
      exact ⟨F, rr, S, _, ws, e1, R, L1, it, hb, fun σ2 L2' w2 => k σ2 L2' fun vs hv => (w2 vs fun j hj => hv j (List.mem_cons_of_mem _ hj)).trans (w1 vs fun j hj => hv j (by rw [show j = i by simpa using hj]; exact List.mem_cons_self))⟩
theorem setAll_len : ∀ {is : List Nat} {us : List U} {e e1 : Env}, setAll is us e = some e1 → us.length = is.length
  | [], [], _, _, _ => rfl
  | i :: is, u :: us, e, e1, h => by simp [setAll_len (is := is) (us := us) h]
  | [], _ :: _, _, _, h => by cases h
  | _ :: _, [], _, _, h => by cases h
theorem dg_tup [Cold tb] (C : Ct G Γ tb c X W j) {is : List Nat} {es : List Expr} {k : Nat} (h : PGs X es (rdGs G is)) (hl : is.length ≠ 1) (hn : (assignEach es X.env).length = is.length) (hst : (assignEach es X.env).findIdx? (·.1) = none) : PG X (.Tuple es k pos) (rdG G is) := by
  refine ⟨fun pins s σ H v u Q I r ⟨F, rr, S, e, w, e1, R, L, iw, hb, k⟩ => (pg_tup (pos := pos) C.calm h hn hst).run pins s σ H v u Q I r ?_⟩
  have hb' : ∃ l, w = .d (.tup l) ∧ setAll is (l.map U.d) e = some e1 := by
    unfold bindU at hb
    split at hb
    · exact absurd rfl hl
    · split at hb
      · exact ⟨_, rfl, hb⟩
      · cases hb
  obtain ⟨l, rfl, hb'⟩ := hb'
  cases iw with
  | d iw =>
    obtain ⟨a, xs, rfl, h1, h2⟩ := rp_tups R iw
    refine ⟨a, xs, rfl, by rw [C.K]; exact h1, ?_, F, rr, S, e, l.map U.d, e1, R, L, paired_d h2, hb', k⟩
    have := setAll_len hb'
    rw [h2.length]; simpa using this
theorem bind_eq {g : List Nat} {d : D} {e : Env} : bindU g (.d d) e = bindTo g d e := by
  unfold bindU bindTo
  split
  · rfl
  · cases d <;> rfl

/-! ### comprehensions -/
theorem Ct.blk (C : Ct G Γ tb c X W j) (s : Shared) (H : Hp) (scope : Scope) (cl : List (Str × Addr)) (Ca : Addr) (fp : List Addr) : Ct G Γ tb ⟨c.N, relS scope c.sc, false⟩ (X.blk s H scope (compEnvC scope cl Ca X.env) fp) (fun _ _ _ _ => False) j :=
  ⟨C.K, C.w, C.N, by show relS scope X.env.scope = _; rw [C.sc], C.nd, C.calm0, takes0N, fun h => absurd (show false = true from h) Bool.false_ne_true, C.room0, C.roomH, C.wd⟩
theorem dts_nil : PTs X [] (rdT G Γ W .yes) := ⟨fun pins s σ H Q I ⟨F, r, S, e, R, L, p⟩ => pts_nil.run pins s σ H Q I (Post.done (by unfold evT at p; exact p) .refl R rfl)⟩
theorem dts_one {e : Expr} {t : E} (h : PT X e (rdT G Γ W t)) : PTs X [e] (rdT G Γ W t) := pts_one h
theorem noX_post {A B : Type} {W : WX} {σ : L2.St} {Rel : Hp → Pl → B → A → Prop} {F : Hp} {r : Pl} {m : M A} {Q : B → Hp → Prop} (h : Post G W σ Rel F r (noX m) Q) {W' : WX} {σ' : L2.St} : Post G W' σ' Rel F r m Q := by
  cases m with
  | none => exact h
  | some z =>
    cases z with
    | ok a S => exact h
    | ex x S => exact h.elim
def relO (G : Gx) : Hp → Pl → Option V → Option D → Prop := fun F _ v d => match v, d with
  | some v, some d => Is G F v d
  | none, none => True
  | _, _ => False
theorem wipe_wipe {vs : List Nat} (σ : L2.St) : L2.wipe (L2.wipe σ vs) vs = L2.wipe σ vs := by
  have ww : ∀ vs' : List Nat, (∀ i ∈ vs', i ∈ vs) → ∀ σ : L2.St, L2.wipe (L2.wipe σ vs') vs = L2.wipe σ vs := by
    intro vs'
    induction vs' with
    | nil => intro _ σ; rfl
    | cons v vs' ih =>
      intro hh σ
      show L2.wipe ((L2.wipe σ vs').set v none) vs = _
      rw [wipe_set (hh v List.mem_cons_self), ih (fun i m => hh i (List.mem_cons_of_mem _ m))]
  exact ww vs (fun _ h => h) σ
/-- an item that a comprehension makes, or none -/
def itemF (Γ : Ev) (vs g : List Nat) (t el : E) (e : Env) : D → Store → M (Option D) := fun d S2 => noX (match bindTo g d (wipeE e vs) with
  | none => none
  | some e1 => bnd (evT Γ t e1 S2) fun c S3 => if c then bnD (evE Γ el e1 S3) fun x S4 => some (.ok (some x) S4) else some (.ok none S3))
theorem bnd_assoc {A B E' : Type} (m : M A) (k : A → Store → M B) (k2 : B → Store → M E') : bnd (bnd m k) k2 = bnd m fun a S => bnd (k a S) k2 := by
  cases m with
  | none => rfl
  | some z => cases z <;> rfl
/-- a turn over an item: the walk goes on -/
theorem lc_wi {vs g : List Nat} {t el : E} {σ : L2.St} {e : Env} {F : Hp} {r : Pl} {S : Store} {H1 : Hp} {J : It} {l : List D} {Q : VK} {W : WX} (hv : ∀ i ∈ g, i ∈ vs) (R : Rp G F r S H1) (L : Lo G F r σ e) (it : ItOk G F J l) (hl : l.length ≤ line)
    (p : Post G W σ (IsU G) F r (bnd (walk (itemF Γ vs g t el e) [] l S) fun r S5 => some (.ok (.d (.lst r)) S5)) Q) :
    ∃ Wn : Nat → Nat → List V → Hp → Prop, (∃ m, Wn 0 m [] H1) ∧ ∀ i m acc H, Wn i m acc H →
      (J.stop i H ∧ ∀ D, H D = none → Q (.ref D) (upd H D (.lst acc))) ∨ (J.go i H ∧ ∃ Nx : List V → Hp → Prop, (∀ acc' H', Nx acc' H' → acc'.length ≤ sizeLine ∧ ∃ m', m' < m ∧ Wn (i + 1) m' acc' H') ∧ ∀ x H', J.yld i H x H' → rdG G g x (L2.wipe σ vs) H' fun σ2 H2 => L2.wipe σ2 vs = L2.wipe σ vs ∧ rdT G Γ (fun _ _ _ _ => False) t σ2 H2 fun b H3 =>
        if b = true then rdE G Γ (fun _ _ _ _ => False) el σ2 H3 fun y H4 => Nx (acc ++ [y]) H4 else Nx acc H3) := by
  refine ⟨fun i m acc H => m = l.length - i ∧ i ≤ l.length ∧ ∃ F' r' S' ds, Ext F F' r r' ∧ Rp G F' r' S' H ∧ IsL G F' acc ds ∧ ds.length ≤ i ∧ Post G W σ (IsU G) F' r' (bnd (walk (itemF Γ vs g t el e) ds (l.drop i) S') fun r S5 => some (.ok (.d (.lst r)) S5)) Q,
    ⟨l.length, by simp, Nat.zero_le _, F, r, S, [], .refl, R, .nil, Nat.le_refl _, p⟩, ?_⟩
  rintro i m acc H ⟨rfl, hi, F', r', S', ds, s', R', ia, hd, p'⟩
  obtain ⟨go, stop⟩ := it i F' r' S' H s'.sub R'
  by_cases hlt : i < l.length
  · obtain ⟨go, yl⟩ := go hlt
    refine .inr ⟨go, fun acc' H' => ∃ F2 r2 S2 ds', Ext F F2 r r2 ∧ Rp G F2 r2 S2 H' ∧ IsL G F2 acc' ds' ∧ ds'.length ≤ i + 1 ∧ Post G W σ (IsU G) F2 r2 (bnd (walk (itemF Γ vs g t el e) ds' (l.drop (i + 1)) S2) fun r S5 => some (.ok (.d (.lst r)) S5)) Q, fun acc' H' ⟨F2, r2, S2, ds', s2, R2, ia2, hd2, p2⟩ => ⟨by rw [ia2.length, sizeLine_eq]; have : line = 16777216 := rfl; omega, l.length - (i + 1), by omega, rfl, hlt, F2, r2, S2, ds', s2, R2, ia2, hd2, p2⟩, fun x H' y => ?_⟩
    obtain ⟨F2, d, s2, R2, ed, ix⟩ := yl x H' y
    have ed' : l.drop i = d :: l.drop (i + 1) := by
      rw [List.getElem?_eq_getElem hlt] at ed
      rw [List.drop_eq_getElem_cons hlt, Option.some.inj ed]
    rw [ed'] at p'
    unfold walk at p'
    rw [bnd_assoc] at p'
    have p3 := Post.bnd (Rel := relO G) (p'.mono (.cells s2))
    unfold itemF at p3
    cases hb : bindTo g d (wipeE e vs) with
    | none => rw [hb] at p3; exact p3.elim
    | some e1 =>
      rw [hb] at p3
      have Lw := (L.mono (s'.trans (.cells s2))).wipe vs
      refine ⟨F2, r', S', wipeE e vs, .d d, e1, R2, Lw, .d ix, by rw [bind_eq]; exact hb, fun σ2 L2' hw => ⟨by rw [hw vs hv, wipe_wipe], ?_⟩⟩
      have p4 := noX_post p3 (W' := fun _ _ _ _ => False) (σ' := σ2)
      refine ⟨F2, r', S', e1, R2, L2', Post.imp (Post.bnd (Rel := fun _ _ (b : Bool) c => b = c) p4) fun b H3 ⟨F3, r3, S3, b', x3, R3, eb, p5⟩ => ?_⟩
      subst eb
      cases b with
      | true =>
        rw [if_pos rfl] at p5
        refine iteT ⟨F3, r3, S3, e1, R3, L2'.mono x3, Post.imp (Post.bnD p5) fun y H4 ⟨F4, r4, S4, dy, x4, R4, iy, p6⟩ => ?_⟩
        obtain ⟨F5, r5, S5, od, x5, R5, io, p7⟩ := Post.done p6 .refl R4 (b := some y) iy
        cases od with
        | none => exact io.elim
        | some dz => exact ⟨F5, r5, S5, ds ++ [dz], (s'.trans (.cells s2)).trans x5, R5, ((ia.mono s2).mono x5.sub).app (.cons io .nil), by simp; exact hd, p7⟩
      | false =>
        rw [if_neg Bool.false_ne_true] at p5
        refine iteF ?_
        obtain ⟨F5, r5, S5, od, x5, R5, io, p7⟩ := Post.done p5 .refl R3 (b := none) trivial
        cases od with
        | some dz => exact io.elim
        | none => exact ⟨F5, r5, S5, ds, (s'.trans (.cells s2)).trans x5, R5, (ia.mono s2).mono x5.sub, by omega, p7⟩
  · have e0 : i = l.length := by omega
    subst e0
    refine .inl ⟨stop rfl, fun D hD => ?_⟩
    rw [List.drop_length] at p'
    unfold walk at p'
    obtain ⟨R2, s2, i2⟩ := new_lst R' hD ia
    exact Post.done p' (.cells s2) R2 (.d i2)
/-- the block of a comprehension in the text -/
structure LcIn (c : Sc) (scope : Scope) (own : List (Str × Nat)) : Prop where
  ok : blkC c.N c.sc scope own = true
theorem lc_rd {it t el : E} {own : List (Str × Nat)} {g : List Nat} {σ : L2.St} {H : Hp} {Q : VK} (hv : ∀ i ∈ g, i ∈ own.map (·.2)) (h : rdE G Γ W (.lc (own.map (·.2)) it g t el) σ H Q) :
    tLcP (rdI G Γ W it) (rdG G g) (rdT G Γ (fun _ _ _ _ => False) t) (rdE G Γ (fun _ _ _ _ => False) el) (own.map (·.2)) σ H Q := by
  obtain ⟨F, r, S, e, R, L, p⟩ := h
  unfold evE at p
  refine ⟨F, r, S, e, R, L, Post.imp (Post.bnd (Rel := fun F _ J l => ItOk G F J l) p) fun J H1 ⟨F1, r1, S1, l, e1, R1, q1, p1⟩ => ?_⟩
  split at p1
  · rename_i hl
    exact lc_wi hv R1 (L.mono e1) q1 hl p1
  · exact p1.elim
theorem de_lc [Cold tb] (C : Ct G Γ tb c X W j) {elt tg iter : Expr} {ifs : List Expr} {scope : Scope} {own : List (Str × Nat)} {it t el : E} {g : List Nat} (hok : blkC c.N c.sc scope own = true) (hv : ∀ i ∈ g, i ∈ own.map (·.2)) (hp : plainE iter = true)
    (hi : PI X tg iter (rdI G Γ W it))
    (hg : ∀ {X' : Cx}, Ct G Γ tb ⟨c.N, relS scope c.sc, false⟩ X' (fun _ _ _ _ => False) j → PG X' tg (rdG G g))
    (ht : ∀ {X' : Cx}, Ct G Γ tb ⟨c.N, relS scope c.sc, false⟩ X' (fun _ _ _ _ => False) j → PTs X' ifs (rdT G Γ (fun _ _ _ _ => False) t))
    (he : ∀ {X' : Cx}, Ct G Γ tb ⟨c.N, relS scope c.sc, false⟩ X' (fun _ _ _ _ => False) j → PE X' elt (rdE G Γ (fun _ _ _ _ => False) el)) :
    PE X (.ListComp elt [⟨tg, iter, ifs, 0⟩] scope pos) (rdE G Γ W (.lc (own.map (·.2)) it g t el)) :=
  pe_imp (pe_lcP C.calm C.nd hi (blkOk_by (by rw [C.N, C.sc]; exact hok)) (fun s H Ca cl fp => hg (C.blk s H scope cl Ca fp)) (fun s H Ca cl fp => ht (C.blk s H scope cl Ca fp)) (fun s H Ca cl fp => he (C.blk s H scope cl Ca fp)) (fun x => foldset hp _ x)) fun σ H Q h => lc_rd hv h
end
end DL

/-! A caught error as a value: what is asked of it, with a dict or without. -/
namespace DH
open PySem PySem.Spec PySem.Calls PyProof.Rows PySem.W
section
variable {prog : Program} {w : World} {A : Around} {E : Value → Shared → Prop} {s : Shared} {K : Frag} {x D : Addr} {ox : Obj}
theorem found_data {C : Addr} {od : Option Obj} {name : Str} {a g : Value} (hc : (clsIn K C).isSome = true) (ha : findIn K (.ref C) name = some (some a)) (hg : specialIn K a "__get__" = some (some g)) (ht : takesIn K a = some true) : findObj K C od name = some (.bind g a) := by
  obtain ⟨cd, hc⟩ := Option.isSome_iff_exists.mp hc
  unfold findObj
  rw [hc, Option.bind_some, ha, Option.bind_some]
  simp [hg, ht]
/-- e.__class__ -/
theorem class_of {od : Option Obj} {Q : Option Value → Shared → Prop} (C : L2.ExcC K D) (X : K.In s.heap) (I : InstAt s.heap x ox D od) (h : Q (some (.ref D)) { s with toks := s.toks + 1 }) : wpAny (model prog w) A (getAttr? (.ref x) "__class__") Q E s := by
  have hf : findObj K D od "__class__" = some (.bind (.builtin "getset_descriptor.__get__") (.builtin "object.__class__")) := found_data (by obtain ⟨cd, hc, _⟩ := any_some C.hd; rw [hc]; rfl) C.ha C.hn C.ht
  obtain ⟨hp, g, d, t, os⟩ := s
  have L0 := I.type (M := model prog w)
  have L1 := looks_findIn (M := model prog w) X C.hg
  have L2' := looks_findIn (M := model prog w) X C.hk
  have L3 := looks_find (M := model prog w) X I hf
  have sub : Looks (model prog w) hp (isInstance (.ref x) (.type "BaseException")) true := L0.andThen (looks_subIn X C.hs)
  have n2 : (Value.builtin "BaseException.__getattribute__" == Value.builtin "object.__getattribute__") = false := by decide +kernel
  unfold getAttr? getAttrBy? getAttrBy
  refine wpAny_bind (wpAny_mkText (wpAny_bind (wpAny_attempt (wpAny_holding (wpAny_bind (L0.at (wpAny_bind (L1.at ?_))))))))
  show wpAny _ _ (if (onTheHeap (Value.ref D) && Value.builtin "BaseException.__getattribute__" == Value.builtin "object.__getattribute__") = true then _ else _) _ _ _
  rw [if_neg (by rw [n2, Bool.and_false]; exact Bool.false_ne_true)]
  unfold getAttrByItsOwn hookBefore
  refine wpAny_bind ?_
  rw [if_pos (show onTheHeap (Value.ref D) = true from rfl)]
  refine L2'.at ?_
  refine wpAny_bind (wpAny_attempt (wpAny_holding ?_))
  unfold callGetattribute
  rw [if_neg (show ¬ (false && onTheHeap (Value.builtin "BaseException.__getattribute__")) = true from Bool.false_ne_true)]
  unfold boundAndCalled
  rw [PySem.F.excAttr_ValueError.ga.bind (.ref x)]
  refine wpAny_bind (wpAny_pure ?_)
  show wpAny _ _ (call (.builtin "BaseException.__getattribute__") [.ref x, .str "__class__" t]) _ _ _
  refine wpAny_call (codeAny_call_builtin PySem.F.excAttr_ValueError.ga.plain PySem.F.entry_bexc_ga ?_)
  refine @check_slot (model prog w) _ _ ⟨hp, g, d, t + 1, os⟩ "BaseException.__getattribute__" "BaseException" "__getattribute__" (.ref x) [.str "__class__" t] [] _ (by decide +kernel) (by decide +kernel) sub (PySem.F.args_bexc_ga (.ref x) (.str "__class__" t)) ?_
  unfold Builtin.«object.__getattribute__»
  refine wpAny_bind (wpAny_of_eq (a := ((Value.ref x : Value), [Value.str "__class__" t])) (by first | rfl | (simp only [slotArgs]; rfl)) ?_)
  refine wpAny_bind (wpAny_pure (wpAny_bind (L0.at (wpAny_bind (L3.at ?_)))))
  show wpAny _ _ (holding [Value.builtin "object.__class__"] (call (.builtin "getset_descriptor.__get__") [.builtin "object.__class__", .ref x, .ref D]) >>= ret) _ _ _
  refine wpAny_bind (wpAny_holding (wpAny_call (class_get (s := ⟨hp, g, d, t + 1, os⟩) (ox := ox) (od := od) X I C.hm ?_)))
  refine wpAny_pure ?_
  show wpAny _ _ (handedOut (.ref D)) _ _ _
  rw [handedOut_of (v := .ref D) rfl]
  first
    | exact wpAny_pure (wpAny_pure h)
    | exact wpAny_pure h
    | exact wpAny_pure (wpAny_bind (wpAny_pure (wpAny_pure h)))
theorem kitx_e {od : Option Obj} (C : L2.ExcC K D) : KitX K (.ref x) (.ref D) (fun h => InstAt h x ox D od) where
  ty := fun _ _ _ I => I.type
  it := fun _ _ X _ => by
    obtain ⟨cdD, hcD, _⟩ := any_some C.hd
    unfold clsIn at hcD
    split at hcD
    · rename_i ho
      intro A' Q' E' s' k q
      unfold isType loadHead
      exact wpAny_bind (wpAny_loadPart (k _ _ (X _ _ ho)) (wpAny_pure q))
    · cases hcD
  ne := fun h tp dd its n sl X htp => by
    obtain ⟨cdD, hcD, _⟩ := any_some C.hd
    refine Bool.eq_false_iff.mpr fun q => ?_
    have e : D = tp := Value.ref.inj (beq_iff_eq.mp q)
    subst e
    unfold clsIn at hcD
    split at hcD
    · rename_i ho
      have z := (X _ _ ho).symm.trans htp
      cases z
    · cases hcD
  ca := fun X I k => class_of C X I k
end
end DH
namespace DH
open PySem PySem.Spec PyProof.Rows L2
/-- the error at a, as the state has it: its class, its fields (none: it has no dict of its own yet) -/
structure ErrAt (H : Hp) (D : Addr) (fs : Option (List (Str × V))) (oe : Obj) : Prop where
  cls : oe.cls = .ref D
  data : ∃ vs, oe.data = .fields vs
  dict : match fs with
    | none => oe.dict = none
    | some fs => ∃ dd, oe.dict = some dd ∧ H dd = some (.xd fs)
section
variable {X : Cx} {a D : Addr} {oe : Obj}
theorem ErrAt.inst {pins : List (Addr × Obj)} {σ : L2.St} {H : Hp} {s : Shared} {fs : Option (List (Str × V))} (z : ErrAt H D fs oe) (hp : (a, oe) ∈ X.pn) (I : Inv X pins σ H s) : ∃ od, PySem.W.InstAt s.heap a oe D od := by
  obtain ⟨hget, _⟩ := I.pin (a, oe) (List.mem_append.mpr (.inl hp))
  obtain ⟨vs, hv⟩ := z.data
  have no : PySem.W.notCls oe = true := by unfold PySem.W.notCls; rw [hv]
  have hd := z.dict
  cases fs with
  | none => exact ⟨none, hget, z.cls, no, by rw [show oe.dict = none from hd]; trivial⟩
  | some fs =>
    obtain ⟨dd, h1, h2⟩ := hd
    have hx : ObjOk X.prog X.w H s.heap dd (.xd fs) := I.hok dd _ h2
    obtain ⟨mA, hns, hr⟩ := hx
    obtain ⟨od, ho, hl⟩ := lookIn_ns hns
    exact ⟨some od, hget, z.cls, no, by rw [h1]; exact ho⟩
/-- isinstance(e, c), e pinned -/
def rIsP (K : PySem.W.Frag) (D a : Addr) (oe : Obj) : List V → Hp → VK → Prop := fun xs H Q => ∃ (c : V) (cv : Value) (b : Bool) (fs : Option (List (Str × V))), xs = [.ref a, c] ∧ ErrAt H D fs oe ∧ (∀ u, RelV c u → u = cv) ∧ PySem.W.kitOne K (.ref D) cv = some b ∧ Q (.bl b) H
theorem call_isP (C : ExcC X.K D) (hp : (a, oe) ∈ X.pn) : CallR X (.builtin "isinstance") (rIsP X.K D a oe) := by
  intro pins s σ H xs us Q I r h
  obtain ⟨c, cv, b, fs, rfl, z, hcv, e, q⟩ := h
  cases r with
  | cons rx rr =>
    cases rr with
    | cons rt rr =>
      cases rr
      cases rx
      have ec := hcv _ rt
      subst ec
      obtain ⟨od, J⟩ := z.inst hp I
      exact PySem.W.kia_one (kitx_e C) I.kIn J e (fun z => nomatch z) fun tk => ⟨.bl b, H, I.kept (t' := tk) fun _ _ z => z, rfl, q⟩
/-- e.f, e pinned -/
def tXp (a : Addr) (D : Addr) (oe : Obj) (f : Str) (te : TE) : TE := fun σ H Q => te σ H fun x H1 => x = .ref a ∧ ∃ (fs : List (Str × V)) (v : V), ErrAt H1 D (some fs) oe ∧ fs.lookup f = some v ∧ Q v H1
theorem pe_xp {e : Expr} {te : TE} {pos : Pos} {n : Str} (T : XfC X.K D) (hno : PySem.W.findIn X.K (.ref D) n = some none) (hp : (a, oe) ∈ X.pn) (he : PE X e te) (hb : attributeBase e n X.env (eval e X.env) = eval e X.env := by rfl) :
    PE X (.Attribute e n pos) (tXp a D oe n te) := by
  refine ⟨fun pins s σ H Q I h => ?_⟩
  refine attr_of hb (thn (he.run pins s σ H _ I h) fun u s1 hh => ?_)
  obtain ⟨x, H1, I1, rx, ex, fs, v, z, l, q⟩ := hh
  subst ex
  obtain rfl : u = Value.ref a := rx
  obtain ⟨hget, _⟩ := I1.pin (a, oe) (List.mem_append_left _ hp)
  obtain ⟨vs, hv⟩ := z.data
  obtain ⟨dd, h1, h2⟩ := z.dict
  have hx : ObjOk X.prog X.w H1 s1.heap dd (.xd fs) := I1.hok dd _ h2
  obtain ⟨mA, hns, hr⟩ := hx
  obtain ⟨od, ho, hl⟩ := lookIn_ns hns
  obtain ⟨u, hu, ru⟩ := RelO.some_of (v := v) (o := mA n) (by rw [← l]; exact hr n)
  have J : PySem.W.InstAt s1.heap a oe D (some od) := ⟨hget, z.cls, by unfold PySem.W.notCls; rw [hv], by rw [h1]; exact ho⟩
  exact HandSPX.exc_get I1.kIn J T.ga T.gg T.exC (PySem.W.findObj_own T.hdC hno rfl (by rw [hl, hu])) (handed_of ru) ⟨v, H1, I1.tok _, ru, q⟩
end
end DH

/-! Lists walked while an error is handled. -/
namespace DH
open PySem PySem.Spec PyProof.Rows L2 HotX
section
variable {prog : Program} {w : World} {A : Around} {E : Value → Shared → Prop} {s : Shared}
theorem list_end_hot {it l x1 : Addr} {i : Nat} {items : Array Value} {Q : Option Value → Shared → Prop} (hot : HotAt A x1 s.heap) (hne : x1 ≠ it)
    (hit : s.heap.IsListIter it l i) (hl : s.heap.IsList l items) (hx : items[i]? = none)
    (hQ : ∀ h', (∀ b o, b ≠ it → s.heap.get? b = some o → h'.get? b = some o) → Q none { s with heap := h' }) : wpAny (model prog w) A (pyNext (.ref it)) Q E s := by
  obtain ⟨o, ho, hc, hd⟩ := id hit
  obtain ⟨ol, hol, _, nl, hdl⟩ := hl
  obtain ⟨hh, o1, vs1, h1, d1, c1⟩ := hot
  unfold pyNext
  refine wpAny_bind (wpAny_attempt (wpAny_callSpecial?_slot (name := Str.ofString "__next__") hit.typeIs slot_listiter_next
    (wpAny_call_entry slot_listiter_next hit.typeIs entry_listiter_next ?_ (args_listiter_next _))))
  show wpAny _ _ (field (.ref it) 0 >>= _) _ _ s
  refine wpAny_bind (wpAny_field ho hd (x := .ref l) rfl ?_)
  show wpAny _ _ (if (Value.ref l == Value.none) = true then _ else _) _ _ s
  rw [if_neg (show ¬ ((Value.ref l == Value.none) = true) from Bool.false_ne_true)]
  show wpAny _ _ (field (.ref it) 1 >>= _) _ _ s
  refine wpAny_bind (wpAny_field ho hd (x := .int i 0) rfl ?_)
  show wpAny _ _ (seqItems? (.ref l) >>= _) _ _ s
  refine wpAny_bind (wpAny_seqItems hol hdl ?_)
  simp only [Int.toNat_natCast, hx]
  refine wpAny_bind (wpAny_rule (wpAny_bind (wpAny_setField ho hd (by simp) ?_)))
  have sb := Heap.SameBut.update (h := s.heap) (a := it) (f := Obj.mapFields (·.setIfInBounds 0 Value.none))
  have keep : ∀ b u, b ≠ it → s.heap.get? b = some u → (s.heap.update it (Obj.mapFields (·.setIfInBounds 0 Value.none))).get? b = some u := fun b u hb e => (sb.2 b hb).trans e
  show wpAny _ _ (newExc (.type "StopIteration") [] >>= _) _ _ _
  refine wpAny_bind ?_
  simp only [newExc, newTuple]
  refine wpAny_bind (wpAny_newObj_type ?_ (by size_fits))
  refine wpAny_bind (m := firstArgMember _ _) (wpAny_of_eq (a := Value.none) (by first | rfl | (simp only [firstArgMember]; rfl)) ?_)
  refine wpAny_newObj_type ?_ (by size_fits)
  have h1' := keep x1 o1 hne h1
  refine raiseNew_hot ⟨hh, o1, vs1, Heap.get?_push_of_some _ (Heap.get?_push_of_some _ h1'), d1, c1⟩ (Nat.ne_of_lt (Heap.lt_size (Heap.get?_push_of_some _ h1'))) (Heap.get?_push_size _ rfl) rfl (by first | (simp; done) | (simp; omega) | (simp only [Array.size_append]; simp; omega)) ?_
  refine wpAny_bind (wpAny_isInstance (T := "StopIteration") (b := true) ⟨_, Heap.get?_update_self _ (Heap.get?_push_size _ rfl) rfl, rfl⟩ isSubtype_stop ?_)
  refine wpAny_pure (hQ _ fun b o hb e => ?_)
  have e' := keep b o hb e
  rw [Heap.get?_update_other _ _ (Nat.ne_of_gt (Heap.lt_size (Heap.get?_push_of_some _ e')))]
  exact Heap.get?_push_of_some _ (Heap.get?_push_of_some _ e')
/-- a list's iterator, walked while x1 is handled -/
theorem walk_list_hot {x1 : Addr} (hh : A.handled = some (.ref x1)) (I ax : Addr) (hne : ax ≠ I) (hx1 : x1 ≠ I) (items : Array Value) :
    Walks prog w A I [I, ax, x1] [I] items.size (fun i v => items[i]? = some v) (fun i h => (h.IsListIter I ax i ∧ h.IsList ax items) ∧ ∃ (o : Obj) (vs : Array Value), h.get? x1 = some o ∧ o.data = .fields vs ∧ vs[2]? = some .none) where
  sub := fun b hb => by simp at hb; simp [hb]
  frame := fun _ _ _ st hk => ⟨⟨st.1.1.at fun o e => hk I (by simp) o e, st.1.2.at fun o e => hk ax (by simp) o e⟩, by
    obtain ⟨o, vs, e, r⟩ := st.2
    exact ⟨o, vs, hk x1 (by simp) o e, r⟩⟩
  item := fun i s Q E hi st hQ => by
    refine wpAny_pyNext_list_item st.1.1 st.1.2 (x := items[i]) (by simp [hi]) fun h' hit' hs' => ?_
    refine hQ _ h' s.toks (by simp [hi]) ⟨⟨hit', st.1.2.extBut hs'.extBut hne⟩, ?_⟩ fun b o hb e => hs'.extBut b o (fun h => hb (by simp [h])) e
    obtain ⟨o, vs, e, r⟩ := st.2
    exact ⟨o, vs, hs'.extBut x1 o hx1 e, r⟩
  done := fun s Q E st hQ => list_end_hot ⟨hh, st.2⟩ hx1 st.1.1 st.1.2 (by simp) fun h' he' => hQ h' s.toks fun b o hb e => he' b o (fun h => hb (by simp [h])) e
  self := fun _ _ _ _ st hQ => wpAny_pyIter_listiter st.1.1 hQ
end
section
variable {X : Cx}
open L2H in
theorem cr_all_hot (hc : HotC X) : CallR X (.builtin "all") (rAll X.K) := by
  intro pins s σ H vs us Q I r h
  obtain ⟨a, bs, rfl, hs, q⟩ := h
  obtain ⟨its, rv, hl, _⟩ := I.list hs
  obtain ⟨x1, hh, o1, vs1, h1, d1, c1⟩ := hc.at I
  rw [Vals.ref1 r]
  have hb := rv.bls
  refine call_all_walk (iter_any hl.isList fun s₂ e2 st hne => ?_)
  subst e2
  refine ⟨_, _, _, _, _, _, _, rfl, walk_list_hot (A := X.A.in1) (x1 := x1) hh _ a hne (Nat.ne_of_lt (Heap.lt_size h1)) its.toArray, ⟨st, o1, vs1, Heap.get?_push_of_some _ h1, d1, c1⟩, truth_bools hb, fun h' tk hk => ?_⟩
  refine ⟨.bl _, H, I.kept fun b o eo => hk b o (fun hmem => ?_) (Heap.get?_push_of_some _ eo), ?_, q⟩
  · rcases List.mem_cons.mp hmem with e1 | hmem
    · exact absurd (e1 ▸ Heap.lt_size eo) (Nat.lt_irrefl _)
    · cases hmem
  · show Value.bool _ = Value.bool _
    rw [← L2.all_range, hb, List.size_toArray, List.length_map]
end
end DH

/-! A comprehension over range while an error is handled (DL10's rule, its walk by HotCalls' TurnH; the pinned error stays pinned in its block). -/
namespace DH
open PySem PySem.Spec L2 DL
open L2H hiding St
open PyProof.Rows hiding St
set_option autoImplicit false
/-- a comprehension's block in which the context's pinned objects stay pinned -/
abbrev bh (X : Cx) (s : Shared) (H : Hp) (scope : Scope) (ce : PySem.Env) (fp : List Addr) : Cx := { X.blk s H scope ce fp with pn := X.pn }
section
variable {X : Cx}
theorem hot_bh {s : Shared} {H : Hp} {scope : Scope} {ce : PySem.Env} {fp : List Addr} (hc : HotC X) : HotC (bh X s H scope ce fp) := by
  obtain ⟨p, h, hp⟩ := hc
  exact ⟨p, h, hp⟩
theorem to_bh {pins : List (Addr × Obj)} {σ σ' : St} {H : Hp} {s s' : Shared} {scope : Scope} {ce : PySem.Env} {fp : List Addr} (I3 : Inv X pins σ H s) (I : Inv (X.blk s H scope ce fp) [] σ' H s') (keep : ∀ b o, s.heap.get? b = some o → s'.heap.get? b = some o) (loc : ∀ b o, s.heap.get? b = some o → b ≠ ce.locals) : Inv (bh X s H scope ce fp) [] σ' H s' :=
  ⟨⟨I.ok.mod, I.ok.kind, I.ok.glob, I.ok.blt, I.ok.above, I.ok.inj, I.ok.has, I.ok.cab, I.ok.hd, I.ok.frames, I.ok.stk, I.ok.exf, I.ok.bs, I.ok.bsz, I.ok.noex, I.ok.exfs, I.ok.funs, I.ok.frf⟩, I.os, I.bare, I.base, I.loc, I.cell, I.free, I.freeC, fun p hp => by
    have P1 := I3.pin p (List.mem_append_left _ (by rw [List.append_nil] at hp; exact hp))
    exact ⟨keep _ _ P1.1, P1.2.1, loc _ _ P1.1, fun hm => (List.mem_cons.mp (I3.stkSub p.1 hm)).elim P1.2.2.1 P1.2.2.2.1, P1.2.2.2.2⟩, I.hok, I.len⟩
theorem lcH_core {pins : List (Addr × Obj)} {s : Shared} {σ : St} {H : Hp} {Q : VK} {elt tg iter : Expr} {ifs : List Expr} {scope : Scope} {own : List (Str × Nat)} {pos pos' : Pos} {wi : TI} {g : TG} {tt : TT} {te : TE} {use : Option (Value → Sem Unit)} {Qf : Value → Shared → Prop}
    (hc : HotC X) (hN : X.N.Nodup) (I : Inv X pins σ H s) (hi : PIH X tg iter wi) (ok : BlkOk X.N X.env.scope scope own)
    (hg : ∀ (s : Shared) (H : Hp) (C : Addr) (cl : List (Str × Addr)) (fp : List Addr), PG (bh X s H scope (compEnvC scope cl C X.env) fp) tg g) (ht : ∀ (s : Shared) (H : Hp) (C : Addr) (cl : List (Str × Addr)) (fp : List Addr), PTs (bh X s H scope (compEnvC scope cl C X.env) fp) ifs tt)
    (he : ∀ (s : Shared) (H : Hp) (C : Addr) (cl : List (Str × Addr)) (fp : List Addr), PE (bh X s H scope (compEnvC scope cl C X.env) fp) elt te) (hs : ∀ x, foldedSetIterable iter X.env x = pure x)
    (h : tLcP wi g tt te (own.map (·.2)) σ H Q)
    (hRR : ∀ D C s' m H', Inv X pins σ H' s' → Q (.ref D) H' → s'.heap.Ns C m → FpOk X pins H' C → compPost (model X.prog X.w) X.A X.xe use Qf (.ref D) C (.ok .next) s') :
    wpAny (model X.prog X.w) X.A (comprehension (.ListComp elt [⟨tg, iter, ifs, 0⟩] scope pos) scope X.env pos' (newList []) false (eval iter X.env) use) Qf X.xe s := by
  have hfree : ∀ y ∈ scope.names, y.2 = .free → ∃ c, X.env.cells.lookup y.1 = some c := fun y hy e => by
    rcases ok.free y hy e with k | k
    · exact I.ok.has _ (.inl k)
    · exact I.ok.has _ (.inr k)
  refine wpAny_comprehension_free (use := use) rfl hs (closure_ok hfree) ok.kind (fun y hy e => by rw [ok.uniq y hy, e])
    (thn (hi.run pins s σ H _ I h) fun xv s1 hx => thn hx fun itv s2 h2 => ?_)
  obtain ⟨it, fp, tn, J, H2, e, I2, T, st2, f2, q⟩ := h2
  subst e
  refine wpAny_newObj_type (newEnv_comp ?_) (by show 0 ≤ sizeLine; decide)
  generalize hD : s2.heap.objs.size = D
  have hDn : H2 D = none := I2.hok.fresh (Nat.le_of_eq hD)
  obtain ⟨W, ⟨m0, w0⟩, turn⟩ := q
  generalize hs3 : ({ s2 with heap := s2.heap.push { cls := .type "list", data := .seq ([] : List Value).toArray } } : Shared) = s3
  have I3 : Inv X pins σ H2 s3 := by
    rw [← hs3]
    exact I2.kept (t' := s2.toks) (fun b o e => Heap.get?_push_of_some _ e)
  have h3 : s3.heap = s2.heap.push { cls := .type "list", data := .seq ([] : List Value).toArray } := by rw [← hs3]
  have D3 : s3.heap.get? D = some { cls := .type "list", data := .seq ([] : List Value).toArray } := by
    rw [h3, ← hD]; exact Heap.get?_push_size _ rfl
  have sz : ∀ b ∈ fp, b < s2.heap.objs.size := fun b hb => by
    obtain ⟨o, e, _⟩ := T.obj _ _ st2 b hb
    exact Heap.lt_size e
  have Dfp : D ∉ fp := fun m => by have := sz D m; rw [hD] at this; exact Nat.lt_irrefl _ this
  have fD : FpOk X pins H2 D := I2.fpOk (Nat.le_of_eq hD) hDn
  have f3 : ∀ b ∈ D :: fp, FpOk X pins H2 b ∧ b < s3.heap.objs.size := fun b hb => by
    rcases List.mem_cons.mp hb with e | hb
    · rw [e]; exact ⟨fD, Heap.lt_size D3⟩
    · exact ⟨f2 b hb, by rw [h3, Heap.size_push]; exact Nat.lt_succ_of_lt (sz b hb)⟩
  have st3 : tn 0 s3.heap := T.keep _ _ _ st2 fun b _ o e => by rw [h3]; exact Heap.get?_push_of_some _ e
  have I4 := to_bh I3 (block_start I3 ok hN f3) (fun b o e => pushCells_keeps _ _ _ _ (Heap.get?_push_of_some _ e)) (fun b o e => Nat.ne_of_lt (Heap.lt_size e))
  have pg := hg s3 H2 s3.heap.objs.size (cellsFrom (s3.heap.objs.size + 1) scope.names (cloFrom X.env.cells scope.names [])) (D :: fp)
  have pt := ht s3 H2 s3.heap.objs.size (cellsFrom (s3.heap.objs.size + 1) scope.names (cloFrom X.env.cells scope.names [])) (D :: fp)
  have pe := he s3 H2 s3.heap.objs.size (cellsFrom (s3.heap.objs.size + 1) scope.names (cloFrom X.env.cells scope.names [])) (D :: fp)
  show codeAny _ _ (.compStart (.ListComp elt [⟨tg, iter, ifs, 0⟩] scope pos) 0 (.ref it) (.ref D) (compEnvC scope (cellsFrom (s3.heap.objs.size + 1) scope.names (cloFrom X.env.cells scope.names [])) s3.heap.objs.size X.env)) (compPost (model X.prog X.w) X.A X.xe use Qf (.ref D) s3.heap.objs.size) { s3 with heap := pushCells (s3.heap.push { cls := .type "dict", data := .dict #[] }) scope.names }
  have nfp : ∀ b ∈ D :: fp, H2 b = none := fun b hb => (f3 b hb).1.1
  generalize hce : compEnvC scope (cellsFrom (s3.heap.objs.size + 1) scope.names (cloFrom X.env.cells scope.names [])) s3.heap.objs.size X.env = ce at I4 pg pt pe ⊢
  have cL : ce.locals = s3.heap.objs.size := by subst hce; rfl
  generalize hs4 : ({ s3 with heap := pushCells (s3.heap.push { cls := .type "dict", data := .dict #[] }) scope.names } : Shared) = s4 at I4 ⊢
  have k34 : ∀ b o, s3.heap.get? b = some o → s4.heap.get? b = some o := fun b o e => by rw [← hs4]; exact pushCells_keeps _ _ _ _ (Heap.get?_push_of_some _ e)
  have st4 : tn 0 s4.heap := T.keep _ _ _ st3 fun b _ o e => k34 b o e
  have stat : ∀ {σ' : St} {H' : Hp} {s' : Shared}, Inv (bh X s3 H2 scope ce (D :: fp)) [] σ' H' s' → (∀ b ∈ D :: fp, H' b = none) → ∀ b ∈ D :: fp, FpOk (bh X s3 H2 scope ce (D :: fp)) [] H' b := fun {σ' H' s'} I' hn b hb =>
    ⟨hn b hb, (I'.ok.exf b hb).1, I'.ok.exfs b hb, .inl hb, fun x c e => (I'.ok.exf b hb).2 x c e, fun p hp => (f3 b hb).1.2.2.2.2.2 p (List.mem_append_left _ (by rw [List.append_nil] at hp; exact hp))⟩
  have loop : codeAny (model X.prog X.w) X.A (.compLoop (.ListComp elt [⟨tg, iter, ifs, 0⟩] scope pos) 0 (.ref it) (.ref D) ce) (compPost (model X.prog X.w) X.A X.xe use Qf (.ref D) s3.heap.objs.size) s4 := by
    refine compLoop_any (fun n s' => ∃ i acc H', Inv (bh X s3 H2 scope ce (D :: fp)) [] (wipe σ (own.map (·.2))) H' s' ∧ tn i s'.heap ∧ (∀ b ∈ D :: fp, H' b = none) ∧ (∃ (its : List Value) (k : Nat), Vals acc its ∧ s'.heap.get? D = some { cls := .type "list", data := .seq its.toArray k }) ∧ acc.length ≤ sizeLine ∧ W i n acc H') ?_ m0 ⟨0, [], H2, I4, st4, nfp, ⟨[], 0, .nil, k34 _ _ D3⟩, Nat.zero_le _, w0⟩
    rintro n s5 ⟨i, acc, H5, I5, st5, n5, ⟨its, kk, rv, oD⟩, la, w5⟩
    have n5' : ∀ b ∈ fp, H5 b = none := fun b hb => n5 b (List.mem_cons_of_mem _ hb)
    have stat5 := stat I5 n5
    rcases turn i n acc H5 w5 with ⟨stop, qq⟩ | ⟨go, Nx, hNx, step⟩
    · have td := T.done (bh X s3 H2 scope ce (D :: fp)) rfl rfl rfl (hot_bh hc) i ([] ++ pinsAt [D] s5.heap) s5 _ H5 (fun _ _ => False) (I5.pinned (pins := []) (fp := [D]) (fun b hb => stat5 b (by rw [show b = D by simpa using hb]; exact List.mem_cons_self)) (fun b hb => by rw [show b = D by simpa using hb]; exact ⟨_, oD, fun v z => nomatch z⟩)) (fun b hb => by
        obtain ⟨a1, a2, a3, a4, a5, a6⟩ := stat5 b (List.mem_cons_of_mem _ hb)
        refine ⟨a1, a2, a3, a4, a5, fun p hp z => ?_⟩
        rcases List.mem_append.mp hp with hp | hp
        · exact (f3 b (List.mem_cons_of_mem _ hb)).1.2.2.2.2.2 p (List.mem_append_left _ hp) z
        · obtain ⟨e1, _⟩ := of_pinsAt hp
          rw [show p.1 = D by simpa using e1] at z
          rw [← z] at hb
          exact Dfp hb) st5 stop
      refine thnF td fun r s6 ⟨hr, I6⟩ => ?_
      subst hr
      have o6 := I6.pin (D, _) (List.mem_append_right _ (mem_pinsAt (fp := [D]) (by simp) oD))
      have o6' : s6.heap.get? D = some _ := o6.1
      have nD : H5 D = none := n5 D List.mem_cons_self
      have new : ObjOk X.prog X.w (upd H5 D (.lst acc)) s6.heap D (.lst acc) := ⟨la, its, kk, rv, o6'⟩
      have I7 : Inv X pins σ (upd H5 D (.lst acc)) s6 := I3.call' (ch := D :: fp) I6.os (un_track I6.base List.mem_cons_self hDn) (hok_track I6.hok nD new) I6.bare fun b hb => ⟨(f3 b hb).1.2.2.2.1, (f3 b hb).1.2.1, (f3 b hb).1.2.2.2.2.1, (f3 b hb).1.2.2.2.2.2⟩
      have nC : (upd H5 D (.lst acc)) s3.heap.objs.size = none := by
        have z : H5 ce.locals = none := I6.free
        rw [cL] at z
        rw [upd_ne (Nat.ne_of_gt (Heap.lt_size D3))]
        exact z
      obtain ⟨m, hn, _⟩ := I6.loc
      have hn : s6.heap.Ns ce.locals m := hn
      rw [cL] at hn
      exact hRR D s3.heap.objs.size s6 m _ I7 (qq D nD) hn (I3.fpOk (Nat.le_refl _) nC)
    · have ti := T.item (bh X s3 H2 scope ce (D :: fp)) rfl rfl rfl (hot_bh hc) i ([] ++ pinsAt [D] s5.heap) s5 _ H5 (fun _ _ => False) (I5.pinned (pins := []) (fp := [D]) (fun b hb => stat5 b (by rw [show b = D by simpa using hb]; exact List.mem_cons_self)) (fun b hb => by rw [show b = D by simpa using hb]; exact ⟨_, oD, fun v z => nomatch z⟩)) (fun b hb => by
        obtain ⟨a1, a2, a3, a4, a5, a6⟩ := stat5 b (List.mem_cons_of_mem _ hb)
        refine ⟨a1, a2, a3, a4, a5, fun p hp z => ?_⟩
        rcases List.mem_append.mp hp with hp | hp
        · exact (f3 b (List.mem_cons_of_mem _ hb)).1.2.2.2.2.2 p (List.mem_append_left _ hp) z
        · obtain ⟨e1, _⟩ := of_pinsAt hp
          rw [show p.1 = D by simpa using e1] at z
          rw [← z] at hb
          exact Dfp hb) st5 go
      refine thnF ti fun r s6 ⟨u, hr, h6⟩ => ?_
      subst hr
      refine thnF h6 fun _ s7 ⟨x, H7, I7, r7, y7, st7, n7⟩ => ?_
      have o7 := I7.pin (D, _) (List.mem_append_right _ (mem_pinsAt (fp := [D]) (by simp) oD))
      have oD7 : s7.heap.get? D = some _ := o7.1
      have nD7 : H7 D = none := o7.2.1
      have n7' : ∀ b ∈ D :: fp, H7 b = none := fun b hb => by
        rcases List.mem_cons.mp hb with e | hb
        · rw [e]; exact nD7
        · exact n7 b hb
      have I7u : Inv (bh X s3 H2 scope ce (D :: fp)) [] (wipe σ (own.map (·.2))) H7 s7 := I7.unpinned (pins := [])
      have I7' := I7u.pinned (stat I7u n7') (fun b hb => by
        rcases List.mem_cons.mp hb with e | hb
        · rw [e]; exact ⟨_, oD7, fun v z => nomatch z⟩
        · exact T.obj _ _ st7 b hb)
      refine thnF (pg.run _ s7 _ H7 x u _ I7' r7 (step x H7 y7)) fun _ s8 ⟨σ8, H8, I8, hw8, q8⟩ => ?_
      refine thnF (pt.run _ s8 σ8 H8 _ I8 q8) fun b s9 ⟨H9, I9, q9⟩ => ?_
      have pin' : ∀ {s' : Shared} {H' : Hp}, Inv (bh X s3 H2 scope ce (D :: fp)) ([] ++ pinsAt (D :: fp) s7.heap) σ8 H' s' → ∀ b ∈ D :: fp, ∀ o, s7.heap.get? b = some o → s'.heap.get? b = some o ∧ H' b = none := fun {s' H'} I' b hb o e =>
        let z := I'.pin (b, o) (List.mem_append_right _ (List.mem_append_right _ (mem_pinsAt hb e)))
        ⟨z.1, z.2.1⟩
      have hl : (wipe σ (own.map (·.2))).length = σ8.length := by rw [← hw8, wipe_length]
      have weak : ∀ {s' : Shared} {H' : Hp}, Inv (bh X s3 H2 scope ce (D :: fp)) [] σ8 H' s' → Inv (bh X s3 H2 scope ce (D :: fp)) [] (wipe σ (own.map (·.2))) H' s' := fun {s' H'} I' => I'.weak hl (fun j v e => by
        rw [← hw8] at e
        exact (wipe_some e).1)
      cases b with
      | false =>
        simp only [Bool.false_eq_true, if_false] at q9 ⊢
        obtain ⟨la', m', hm, w'⟩ := hNx acc H9 q9
        refine ⟨m', hm, i + 1, acc, H9, weak (I9.unpinned (pins := [])), T.keep _ _ _ st7 fun b hb o e => (pin' I9 b (List.mem_cons_of_mem _ hb) o e).1, fun b hb => ?_, ⟨its, kk, rv, (pin' I9 D List.mem_cons_self _ oD7).1⟩, la', w'⟩
        rcases List.mem_cons.mp hb with e | hb'
        · rw [e]; exact (pin' I9 D List.mem_cons_self _ oD7).2
        · obtain ⟨o, e, _⟩ := T.obj _ _ st7 b hb'
          exact (pin' I9 b hb o e).2
      | true =>
        simp only [if_true] at q9 ⊢
        refine thnF (pe.run _ s9 σ8 H9 _ I9 q9) fun z s10 ⟨yv, H10, I10, r10, nx⟩ => ?_
        obtain ⟨la', m', hm, w'⟩ := hNx _ H10 nx
        have oD10 := pin' I10 D List.mem_cons_self _ oD7
        have n10 : ∀ b ∈ D :: fp, H10 b = none := fun b hb => by
          rcases List.mem_cons.mp hb with e | hb'
          · rw [e]; exact oD10.2
          · obtain ⟨o, e, _⟩ := T.obj _ _ st7 b hb'
            exact (pin' I10 b hb o e).2
        have I10u : Inv (bh X s3 H2 scope ce (D :: fp)) [] σ8 H10 s10 := I10.unpinned (pins := [])
        have hlen : its.length < sizeLine := by
          rw [List.length_append] at la'
          have := rv.length
          simp at la'
          omega
        refine append_at (hsz := by rw [List.size_toArray]; omega) oD10.1 fun h' sb ho' => ?_
        obtain ⟨g1, g2, g3, g4, g5, g6⟩ := stat I10u n10 D List.mem_cons_self
        have I11 : Inv (bh X s3 H2 scope ce (D :: fp)) [] σ8 H10 { s10 with heap := h' } := I10u.turned (t' := s10.toks) (fun b o hb e => (sb.2 b hb).trans e) g1 g2 g4 g5 g6
        refine ⟨m', hm, i + 1, acc ++ [yv], H10, weak I11, T.keep _ _ _ st7 fun b hb o e => ?_, n10, ⟨its ++ [z], kk + 1, rv.append (.cons r10 .nil), ?_⟩, la', w'⟩
        · exact (sb.2 b (fun z => Dfp (by rw [← z]; exact hb))).trans (pin' I10 b (List.mem_cons_of_mem _ hb) o e).1
        · show h'.get? D = _
          rw [ho']
          simp
  exact codeAny_compStart_list loop (T.self X.A 0 _ _ _ st4 loop)
/-- as a value -/
theorem pe_lcH {elt tg iter : Expr} {ifs : List Expr} {scope : Scope} {own : List (Str × Nat)} {pos : Pos} {wi : TI} {g : TG} {tt : TT} {te : TE} (hc : HotC X) (hN : X.N.Nodup) (hi : PIH X tg iter wi) (ok : BlkOk X.N X.env.scope scope own)
    (hg : ∀ (s : Shared) (H : Hp) (C : Addr) (cl : List (Str × Addr)) (fp : List Addr), PG (bh X s H scope (compEnvC scope cl C X.env) fp) tg g) (ht : ∀ (s : Shared) (H : Hp) (C : Addr) (cl : List (Str × Addr)) (fp : List Addr), PTs (bh X s H scope (compEnvC scope cl C X.env) fp) ifs tt)
    (he : ∀ (s : Shared) (H : Hp) (C : Addr) (cl : List (Str × Addr)) (fp : List Addr), PE (bh X s H scope (compEnvC scope cl C X.env) fp) elt te) (hs : ∀ x, foldedSetIterable iter X.env x = pure x) :
    PE X (.ListComp elt [⟨tg, iter, ifs, 0⟩] scope pos) (tLcP wi g tt te (own.map (·.2))) := by
  refine ⟨fun pins s σ H Q I h => ?_⟩
  rw [eval_ListComp]
  refine lcH_core hc hN I hi ok hg ht he hs h fun D C s' m H' I' q hn f => ⟨m, hn, fun h'' sb => ?_⟩
  obtain ⟨f0, f1, f2, f3, f4, f5⟩ := f
  exact ⟨.ref D, H', I'.turned (t' := s'.toks) (fun b o hb e => (sb.2 b hb).trans e) f0 f1 f3 f4 f5, rfl, q⟩
end
end DH

/-! Own functions called while an error is handled, the pinned error known to them (HotCalls' FnH, its promise told the error). -/
namespace DH
open PySem PySem.Spec L2
open L2H hiding St
open PyProof.Rows hiding St
set_option autoImplicit false
theorem fn_ofP {CX : CXT} {P : Program} {w : World} {K : PySem.W.Frag} {mg : Str → Option Value} {base : Heap} {k : Nat} {f : Addr} {name qual : Str} {params : Arguments} {body : List Stmt} {scope : Scope} {dV kV doc pm cdv ct oc : Value} {an od : Option Addr}
    {osl : Array (Option Value)} {N ps : List Str} {sp : SpP} (lk : K.lookup f = some ⟨oc, od, .func (PySem.W.fnOf name qual params body scope dV kV doc pm an cdv ct), osl⟩) (hcd : PySem.W.codeIn K cdv qual = true) (S : FnScope N ps scope)
    (len : ∀ p vs H Q E, sp p vs H Q E → vs.length = ps.length)
    (hbody : ∀ (A : Around) (outer : List Env) (s : Shared) (H : Hp) (vs : List V) (Q : VK) (E : XK) (p : Addr × Obj), Hot1 A p → RoomH k (A.deeper (envOfC qual scope s.heap.objs.size f cdv)) → sp p vs H Q E →
      ∃ t, PSs (cxH CX P w K mg base N qual scope f cdv A outer s H E p) body t ∧ t { nx := fun _ H' => Q .non H', rt := Q } (L2.start N vs) H) :
    FnP P w K mg base CX (k + 1) f (PySem.W.fnOf name qual params body scope dV kV doc pm an cdv ct) ps sp := by
  -- for one error at a time: HotCalls' rule of a def whose promise says of which error it speaks
  refine ⟨len, fun A outer s H args us vs Q E p hr hot hpin e0 hb r hsp => ?_⟩
  have hl := len _ _ _ _ _ hsp
  have KX : K.In s.heap := e0.mod.kin.keeps fun b o e => (e0.bs b o e).1
  have lim : s.heap.NoLimit := e0.mod.nolimit.keeps fun b o e => (e0.bs b o e).1
  refine codeAny_call_function hr.depth (KX _ _ lk) rfl S.co S.gen rfl (PySem.W.codeRec_of KX hcd) (hb _ _ _ _ ?_)
  refine wpAny_newFunctionEnv_cells S.kind (fun ⟨n, v⟩ hy => ?_) fun env he s1 x => ?_
  · rcases S.par n (List.of_mem_zip hy).1 with q | q
    · exact .inl q
    · exact .inr ⟨q, PySem.W.cellsFrom_some _ _ _ (.inl q)⟩
  · subst he
    refine ⟨lim.keeps x.toInCall.keep, codeAny_func ?_⟩
    obtain ⟨t, ht, hq⟩ := hbody A outer s H vs Q E p hot (hr.deeper _) hsp
    have I := inv_startH (CX := CX) (E := E) S hpin e0 hl r x
    refine wpAny_mono (ht.run [] s1 (L2.start N vs) H _ I hq) (fun fl s' hs => ?_) fun e s' hs => hs
    cases fl with
    | ret u =>
      obtain ⟨v, σ', H', J, rv, q⟩ := hs
      exact ⟨v, H', J.os, J.bare, J.base, J.hok, rv, q⟩
    | next =>
      obtain ⟨σ', H', J, q⟩ := hs
      exact ⟨V.non, H', J.os, J.bare, J.base, J.hok, rfl, q⟩
    | brk => exact hs.choose_spec.choose_spec.2.elim
    | cont => exact hs.choose_spec.choose_spec.2.elim
section
variable {X : Cx} {CX : CXT} {k : Nat} {f : Addr} {fd : FuncData} {ps : List Str} {sp : SpP} {E : St → XK} {x : Str} {q pos : Pos} {e : Expr} {es : List Expr} {t : TA} {p : Addr × Obj}
theorem run_fnP {pins : List (Addr × Obj)} {σ : St} {H : Hp} {s : Shared} {Q : VK} {us : List Value} {vs : List V} (F : FnP X.prog X.w X.K X.mg X.base CX k f fd ps sp) (hr : RoomH k X.A) (hot : Hot1 X.A p) (hp : p ∈ X.pn) (hb : Binds X.K fd ps []) (hx : PassesAt CX X σ (E σ))
    (I : Inv X pins σ H s) (r : Vals vs us) (h : sp p vs H Q (E σ)) : wpAny (model X.prog X.w) X.A (call (.ref f) us) (EP X pins σ Q) X.xe s := by
  have hl : us.length = ps.length := by rw [← r.length]; exact F.len _ _ _ _ _ h
  have b := hb s us I.kIn (by rw [List.append_nil]; exact hl)
  rw [List.append_nil] at b
  have P1 := I.pin p (List.mem_append_left _ hp)
  have hpin : PinOk X.stack H s p := ⟨P1.1, P1.2.1, fun hm => (List.mem_cons.mp (I.stkSub p.1 hm)).elim P1.2.2.1 P1.2.2.2.1, P1.2.2.2.2⟩
  refine wpAny_call (codeAny_mono (F.run X.A X.stack s H ⟨us, []⟩ us vs Q (E σ) p hr hot hpin I.env0 b r h) fun r s' hq => ?_)
  cases r with
  | error e => exact hx pins H s e s' I hq
  | ok fl =>
    cases fl with
    | ret u => exact I.after hq
    | next => exact False.elim hq
    | brk => exact False.elim hq
    | cont => exact False.elim hq
def tCallP (sp : SpP) (p : Addr × Obj) (E : St → XK) (t : TA) : TE := fun σ H Q => t σ H fun vs H1 => sp p vs H1 Q (E σ)
theorem pe_callP (F : FnP X.prog X.w X.K X.mg X.base CX k f fd ps sp) (hr : RoomH k X.A) (hot : Hot1 X.A p) (hp : p ∈ X.pn) (hg : Gl X x) (hm : X.mg x = some (.ref f)) (hk : PySem.W.keepIn X.K (.ref f) = true) (hb : Binds X.K fd ps []) (hx : ∀ σ, PassesAt CX X σ (E σ))
    (ha : PA X (e :: es) t) (hdb : (x == ("__debug__" : Str)) = false := by decide) (he : starEach (e :: es) X.env = (false, eval e X.env) :: starEach es X.env := by rfl) (hpl : (backTo pos (starEach es X.env)).any (·.1) = false := by rfl) :
    PE X (.Call (.Name x q) (e :: es) [] pos) (tCallP sp p E t) := by
  refine ⟨fun pins s σ H Q I h => ?_⟩
  refine wpAny_Call_Name_kw (ld_glob I hg hm ?_ hdb)
  refine PySem.W.callWith_K (h₀ := X.base) I.ok.mod.kin hk (thn (ha.run pos pins s σ H _ I h) fun us s1 ⟨vs, H1, I1, r, q⟩ => ⟨I1.kIn, ?_⟩) he hpl
  exact run_fnP F hr hot hp hb (hx σ) I1 r q
end
end DH

/-! DL's lemmas where an error is handled: comprehensions over range, all(). -/
namespace DL
open PySem PySem.Spec L2 DH
open L2H hiding St
set_option autoImplicit false
/-- the context bears the handled error p -/
def Pin (X : Cx) (p : Addr × Obj) : Prop := Hot1 X.A p ∧ p ∈ X.pn
section
variable {G : Gx} {Γ : Ev} {tb : Tb} {c : Sc} {X : Cx} {W : WX} {j : Nat} {pos : Pos} {tg : Expr} {p : Addr × Obj}
theorem Pin.hot (h : Pin X p) : HotC X := ⟨p, h.1, h.2⟩
theorem Pin.bh (h : Pin X p) {s : Shared} {H : Hp} {scope : Scope} {ce : PySem.Env} {fp : List Addr} : Pin (DH.bh X s H scope ce fp) p := ⟨h.1, h.2⟩
theorem Ct.bh (C : Ct G Γ tb c X W j) (s : Shared) (H : Hp) (scope : Scope) (cl : List (Str × Addr)) (Ca : Addr) (fp : List Addr) : Ct G Γ tb ⟨c.N, relS scope c.sc, false⟩ (DH.bh X s H scope (compEnvC scope cl Ca X.env) fp) (fun _ _ _ _ => False) j :=
  ⟨C.K, C.w, C.N, by show relS scope X.env.scope = _; rw [C.sc], C.nd, C.calm0, takes0N, fun h => absurd (show false = true from h) Bool.false_ne_true, C.room0, C.roomH, C.wd⟩
theorem pih_imp {e : Expr} {t t' : TI} (h : PIH X tg e t) (k : ∀ σ H Q, t' σ H Q → t σ H Q) : PIH X tg e t' := ⟨fun pins s σ H Q I q => h.run pins s σ H Q I (k σ H Q q)⟩
theorem di_rng1H (C : Ct G Γ tb c X W j) {a : E} {ea : Expr} {px : Pos} (hf : Str.ofString "range" ∈ tb.free) (hg : isGlB c (Str.ofString "range") = true) (ha : PE X ea (rdE G Γ W a)) (hp : plainE ea = true) :
    PIH X tg (.Call (.Name "range" px) [ea] [] pos) (rdI G Γ W (.rng1 a)) := by
  obtain ⟨g1, g2⟩ := gl_of C hg
  refine pih_imp (pi_range1H g1 (C.wd.fr _ hf) (pa_cons ha pa_nil (star_cons hp _ _)) (star_cons hp _ _)) fun σ H Q ⟨F, r, S, e, R, L, p⟩ => ?_
  unfold evI at p
  refine ⟨F, r, S, e, R, L, Post.imp (Post.bnD p) fun x H1 ⟨F1, r1, S1, d1, e1, R1, q1, p1⟩ => ?_⟩
  cases d1 <;> first | exact p1.elim | skip
  rename_i i
  simp only at p1
  split at p1
  · rename_i hs
    unfold small62 at hs
    simp only [Bool.and_eq_true, decide_eq_true_eq] at hs
    cases q1
    refine ⟨i, rfl, hs.1, hs.2, Post.done p1 .refl R1 ?_⟩
    have := it_rng (G := G) (F := F1) (lo := 0) (n := i.toNat)
    unfold rngL
    rw [Int.sub_zero]
    exact this
  · exact p1.elim
theorem de_lcH (P : Pin X p) (C : Ct G Γ tb c X W j) {elt iter : Expr} {ifs : List Expr} {scope : Scope} {own : List (Str × Nat)} {it t el : E} {g : List Nat} (hok : blkC c.N c.sc scope own = true) (hv : ∀ i ∈ g, i ∈ own.map (·.2)) (hp : plainE iter = true)
    (hi : PIH X tg iter (rdI G Γ W it))
    (hg : ∀ {X' : Cx}, Ct G Γ tb ⟨c.N, relS scope c.sc, false⟩ X' (fun _ _ _ _ => False) j → Pin X' p → PG X' tg (rdG G g))
    (ht : ∀ {X' : Cx}, Ct G Γ tb ⟨c.N, relS scope c.sc, false⟩ X' (fun _ _ _ _ => False) j → Pin X' p → PTs X' ifs (rdT G Γ (fun _ _ _ _ => False) t))
    (he : ∀ {X' : Cx}, Ct G Γ tb ⟨c.N, relS scope c.sc, false⟩ X' (fun _ _ _ _ => False) j → Pin X' p → PE X' elt (rdE G Γ (fun _ _ _ _ => False) el)) :
    PE X (.ListComp elt [⟨tg, iter, ifs, 0⟩] scope pos) (rdE G Γ W (.lc (own.map (·.2)) it g t el)) :=
  pe_imp (pe_lcH P.hot C.nd hi (blkOk_by (by rw [C.N, C.sc]; exact hok)) (fun s H Ca cl fp => hg (C.bh s H scope cl Ca fp) ⟨P.1, P.2⟩) (fun s H Ca cl fp => ht (C.bh s H scope cl Ca fp) ⟨P.1, P.2⟩) (fun s H Ca cl fp => he (C.bh s H scope cl Ca fp) ⟨P.1, P.2⟩) (fun x => foldset hp _ x)) fun σ H Q h => lc_rd hv h
theorem cr_allH (h : HotC X) : CallR X (.builtin "all") (rBi G (biU .all)) := by
  refine callr_imp (cr_all_hot h) fun xs H Q h => ?_
  obtain ⟨F, r, S, us, d, R, hp, hg, q⟩ := h
  obtain ⟨l, hl, e⟩ := biU_no (by decide) (by decide) R hp hg
  unfold biD at e
  split at e <;> first | contradiction | skip
  obtain ⟨a, ys, rfl, ha, ta⟩ := lst_one R hl
  rw [Option.map_eq_some_iff] at e
  obtain ⟨ns, e1, e2⟩ := e
  subst e2
  have := blsOf_is ta e1
  subst this
  exact ⟨a, ns, rfl, SqL.of ha, q F _ H (Same.refl F) R (.bl _)⟩
/-- the built-ins that are asked where an error is handled -/
theorem cr_biH (hK : X.K = G.K) (h : HotC X) : ∀ b : Bi, b = .all ∨ b = .len → CallR X (biV b) (rBi G (biU b))
  | .all, _ => cr_allH h
  | .len, _ => cr_len hK
  | .abs, e | .int, e | .str, e | .tuple, e | .list, e | .sum, e | .any, e | .max, e | .min, e => by rcases e with e | e <;> cases e
theorem de_biH (P : Pin X p) (C : Ct G Γ tb c X W j) {b : Bi} {es : E} {ea : Expr} {l : List Expr} {px : Pos} (hb : b = .all ∨ b = .len) (hf : Str.ofString (biN b) ∈ tb.free) (hg : isGlB c (Str.ofString (biN b)) = true) (hs : PA X (ea :: l) (rdL G Γ W es)) (hp : (ea :: l).all plainE = true) :
    PE X (.Call (.Name (Str.ofString (biN b)) px) (ea :: l) [] pos) (rdE G Γ W (.bi b es)) := by
  obtain ⟨g1, g2⟩ := gl_of C hg
  rw [List.all_cons, Bool.and_eq_true] at hp
  refine pe_imp (pe_biC (cr_biH C.K P.hot b hb) g1 (C.wd.fr _ hf) (boot_bi b) hs (bi_ne b) g2 (star_cons hp.1 _ _) (plains _ _ _ hp.2)) fun σ H Q ⟨F, r, S, e, R, L, p⟩ => ?_
  unfold evE at p
  refine ⟨F, r, S, e, R, L, Post.imp (Post.bnd (Rel := fun F r => Paired (IsU G F r)) p) fun vs H1 ⟨F1, r1, S1, us, e1, R1, q1, p1⟩ => ?_⟩
  obtain ⟨d, h1, h2⟩ := Post.giv p1
  exact ⟨F1, r1, S1, us, d, R1, q1, h1, h2⟩
end
end DL

/-! The handled error as a value: what is known goes in and out; isinstance, fields, own calls. -/
namespace DL
open PySem PySem.Spec L2 DH
open L2H hiding St
set_option autoImplicit false
section
variable {G : Gx} {F : Hp} {p : Addr × Obj}
theorem sqT_up {K : PySem.W.Frag} {a : Addr} {xs : List V} (h : SqT K F a xs) : SqT K F a xs := h
mutual
theorem Is.up : ∀ {v : V} {d : D}, Is G F v d → Is (G.hot p) F v d
  | _, _, .non => .non
  | _, _, .bl b => .bl b
  | _, _, .int i => .int i
  | _, _, .str x => .str x
  | _, _, .tup h t => .tup h (IsL.up t)
  | _, _, .lst h t => .lst h (IsL.up t)
  | _, _, .scr h t => .scr h (IsL.up t)
  | _, _, .map h t => .map h (IsM.up t)
  | _, _, .kmp h => .kmp h
  | _, _, .drv g h t => .drv g h (Is.up t)
theorem IsL.up : ∀ {vs : List V} {ds : List D}, IsL G F vs ds → IsL (G.hot p) F vs ds
  | _, _, .nil => .nil
  | _, _, .cons h t => .cons (Is.up h) (IsL.up t)
theorem IsM.up : ∀ {vs : List (Key × V)} {ds : List (Str × D)}, IsM G F vs ds → IsM (G.hot p) F vs ds
  | _, _, .nil => .nil
  | _, _, .cons h t => .cons (Is.up h) (IsM.up t)
end
mutual
theorem Is.dn : ∀ {v : V} {d : D}, Is (G.hot p) F v d → Is G F v d
  | _, _, .non => .non
  | _, _, .bl b => .bl b
  | _, _, .int i => .int i
  | _, _, .str x => .str x
  | _, _, .tup h t => .tup h (IsL.dn t)
  | _, _, .lst h t => .lst h (IsL.dn t)
  | _, _, .scr h t => .scr h (IsL.dn t)
  | _, _, .map h t => .map h (IsM.dn t)
  | _, _, .kmp h => .kmp h
  | _, _, .drv g h t => .drv g h (Is.dn t)
theorem IsL.dn : ∀ {vs : List V} {ds : List D}, IsL (G.hot p) F vs ds → IsL G F vs ds
  | _, _, .nil => .nil
  | _, _, .cons h t => .cons (Is.dn h) (IsL.dn t)
theorem IsM.dn : ∀ {vs : List (Key × V)} {ds : List (Str × D)}, IsM (G.hot p) F vs ds → IsM G F vs ds
  | _, _, .nil => .nil
  | _, _, .cons h t => .cons (Is.dn h) (IsM.dn t)
end
theorem IsF.up {H : Hp} {vs : List (Str × V)} {fs : List (Str × Fd)} {bs : List Addr} (h : IsF G F H vs fs bs) : IsF (G.hot p) F H vs fs bs := by
  induction h with
  | nil => exact .nil
  | dat h _ ih => exact .dat h.up ih
  | own h1 h2 _ ih => exact .own h1 h2.up ih
theorem IsF.dn {H : Hp} {vs : List (Str × V)} {fs : List (Str × Fd)} {bs : List Addr} (h : IsF (G.hot p) F H vs fs bs) : IsF G F H vs fs bs := by
  induction h with
  | nil => exact .nil
  | dat h _ ih => exact .dat h.dn ih
  | own h1 h2 _ ih => exact .own h1 h2.dn ih
theorem IsX.up {vs : List (Str × V)} {fs : List (Str × D)} (h : IsX G F vs fs) : IsX (G.hot p) F vs fs := by
  induction h with
  | nil => exact .nil
  | cons h _ ih => exact .cons h.up ih
theorem CellIs.up {H : Hp} {l : List Addr} : ∀ {c : Cell}, CellIs G F H l c → CellIs (G.hot p) F H l c
  | .lst _, ⟨a, xs, e, h1, h2⟩ => ⟨a, xs, e, h1, h2.up⟩
  | .ins _ _, ⟨a, bs, dx, vs, e, h1, h2⟩ => ⟨a, bs, dx, vs, e, h1, h2.up⟩
  | .bdc _, ⟨a, vs, e, h1, h2⟩ => ⟨a, vs, e, h1, h2.up⟩
  | .dead, h => h
theorem CellIs.dn {H : Hp} {l : List Addr} : ∀ {c : Cell}, CellIs (G.hot p) F H l c → CellIs G F H l c
  | .lst _, ⟨a, xs, e, h1, h2⟩ => ⟨a, xs, e, h1, h2.dn⟩
  | .ins _ _, ⟨a, bs, dx, vs, e, h1, h2⟩ => ⟨a, bs, dx, vs, e, h1, h2.dn⟩
  | .bdc _, ⟨a, vs, e, h1, h2⟩ => ⟨a, vs, e, h1, h2.dn⟩
  | .dead, h => h
theorem Rp.up {r : Pl} {S : Store} {H : Hp} (R : Rp G F r S H) : Rp (G.hot p) F r S H :=
  ⟨R.sub, R.len, fun n l c h1 h2 h3 => let ⟨a, b, d⟩ := R.cel n l c h1 h2 h3; ⟨a.up, b, d⟩, R.sep⟩
theorem Rp.dn {r : Pl} {S : Store} {H : Hp} (R : Rp (G.hot p) F r S H) : Rp G F r S H :=
  ⟨R.sub, R.len, fun n l c h1 h2 h3 => let ⟨a, b, d⟩ := R.cel n l c h1 h2 h3; ⟨a.dn, b, d⟩, R.sep⟩
theorem IsU.up {r : Pl} {v : V} {u : U} (hG : G.er = none) (h : IsU G F r v u) : IsU (G.hot p) F r v u := by
  cases h with
  | d h => exact .d h.up
  | loc h => exact .loc h
  | err h _ _ => rw [hG] at h; cases h
theorem Lo.up {r : Pl} {σ : St} {e : Env} (hG : G.er = none) (h : Lo G F r σ e) : Lo (G.hot p) F r σ e :=
  ⟨h.len, fun i u q => let ⟨v, a, b⟩ := h.at_ i u q; ⟨v, a, b.up hG⟩⟩
theorem unerr_len : ∀ e : Env, (unerr e).length = e.length
  | [] => rfl
  | none :: r => congrArg (· + 1) (unerr_len r)
  | some (.d _) :: r => congrArg (· + 1) (unerr_len r)
  | some (.loc _) :: r => congrArg (· + 1) (unerr_len r)
  | some (.err _) :: r => congrArg (· + 1) (unerr_len r)
theorem unerr_at : ∀ {e : Env} {i : Nat} {u : U}, (unerr e)[i]? = some (some u) → e[i]? = some (some u) ∧ ∀ x, u ≠ .err x
  | [], i, u, h => by simp [unerr] at h
  | none :: r, 0, u, h => by simp [unerr] at h
  | some (.d _) :: r, 0, u, h => by
    simp only [unerr, List.getElem?_cons_zero, Option.some.injEq] at h
    subst h
    exact ⟨rfl, fun x e => by cases e⟩
  | some (.loc _) :: r, 0, u, h => by
    simp only [unerr, List.getElem?_cons_zero, Option.some.injEq] at h
    subst h
    exact ⟨rfl, fun x e => by cases e⟩
  | some (.err _) :: r, 0, u, h => by simp [unerr] at h
  | none :: r, i + 1, u, h => unerr_at (e := r) (i := i) h
  | some (.d _) :: r, i + 1, u, h => unerr_at (e := r) (i := i) h
  | some (.loc _) :: r, i + 1, u, h => unerr_at (e := r) (i := i) h
  | some (.err _) :: r, i + 1, u, h => unerr_at (e := r) (i := i) h
theorem Lo.dn {r : Pl} {σ : St} {e : Env} (h : Lo (G.hot p) F r σ e) : Lo G F r σ (unerr e) := by
  refine ⟨by rw [unerr_len]; exact h.len, fun i u q => ?_⟩
  obtain ⟨q1, q2⟩ := unerr_at q
  obtain ⟨v, a, b⟩ := h.at_ i u q1
  refine ⟨v, a, ?_⟩
  cases b with
  | d b => exact .d b.dn
  | loc b => exact .loc b
  | err _ _ _ => exact absurd rfl (q2 _)
/-- the world, where an error is handled -/
theorem Wd.heat {Γ : Ev} {tb : Tb} {P : Program} {mg : Str → Option Value} {base : Heap} {j : Nat} (w : Wd G Γ tb P mg base j) : Wd (G.hot p) Γ tb.heat P mg base j where
  fn := fun f x h => by simp at h
  mt := fun f c x h => by simp at h
  pr := fun x f h => by simp at h
  cl := w.cl
  nc := w.nc
  con := fun k x h => let ⟨u, v, a, b, d⟩ := w.con k x h; ⟨u, v, a, b, fun F => (d F).up⟩
  fr := w.fr
  noat := w.noat
  drv := fun h => let d := w.drv h; ⟨d.cl, d.ca, d.cg, d.ct, d.mo, d.self, d.to, d.off⟩
  tk := w.tk
  xc := w.xc
  x0 := w.x0
  x1 := w.x1
  xf := w.xf
  hfn := w.hfn
  xk := ⟨fun h => absurd h (by simp), w.xk.xb, w.xk.xe, w.xk.ki, w.xk.kv, w.xk.xf⟩
end
section
variable {G : Gx} {Γ : Ev} {tb : Tb} {c : Sc} {X : Cx} {W : WX} {j : Nat} {pos : Pos} {p : Addr × Obj}
/-- the error that is asked, by its class and fields -/
theorem IsU.at_err {F : Hp} {r : Pl} {S : Store} {H : Hp} {y : V} {x : Xn} (R : Rp (G.hot p) F r S H) (h : IsU (G.hot p) F r y (.err x)) : y = .ref p.1 ∧ p.2.cls = .ref (G.xc x.c) ∧ (∃ vs, p.2.data = .fields vs) ∧ ((x.fs = [] ∧ p.2.dict = none) ∨ ∃ dd vs, p.2.dict = some dd ∧ H dd = some (.xd vs) ∧ IsX (G.hot p) F vs x.fs) := by
  cases h with
  | err h1 h2 h3 =>
    cases h1
    obtain ⟨q1, q2⟩ := h2
    exact ⟨rfl, q1, h3, q2.imp id fun ⟨dd, vs, e1, e2, e3⟩ => ⟨dd, vs, e1, R.sub _ _ e2, e3⟩⟩
theorem IsU.errAt {F : Hp} {r : Pl} {S : Store} {H : Hp} {y : V} {x : Xn} (R : Rp (G.hot p) F r S H) (h : IsU (G.hot p) F r y (.err x)) : y = .ref p.1 ∧ ∃ fs, ErrAt H (G.xc x.c) fs p.2 := by
  obtain ⟨e, h1, h2, h3⟩ := h.at_err R
  refine ⟨e, ?_⟩
  rcases h3 with ⟨_, h3⟩ | ⟨dd, vs, h3, h4, _⟩
  · exact ⟨none, h1, h2, h3⟩
  · exact ⟨some vs, h1, h2, dd, h3, h4⟩
/-- isinstance of the pinned error, whatever its class -/
theorem call_isPE (hp : p ∈ X.pn) : CallR X (.builtin "isinstance") (fun xs H Q => ∃ D : Addr, ExcC X.K D ∧ rIsP X.K D p.1 p.2 xs H Q) := by
  intro pins s σ H xs us Q I r h
  obtain ⟨D, hD, h⟩ := h
  exact call_isP hD hp pins s σ H xs us Q I r h
theorem isL_boot : bootBuiltins (Str.ofString "isinstance") = some (.builtin "isinstance") := by decide +kernel
theorem de_xis (P : Pin X p) (C : Ct (G.hot p) Γ tb c X W j) {k : Nat} {x : Str} {a : E} {ea : Expr} {px pt : Pos} (hb : tb.xb.isSome = true) (hk : (k, x) ∈ tb.kis) (hf : Str.ofString "isinstance" ∈ tb.free) (hg : isGlB c (Str.ofString "isinstance") = true) (hg2 : isGlB c x = true)
    (ha : PE X ea (rdE (G.hot p) Γ W a)) (hp : plainE ea = true) :
    PE X (.Call (.Name (Str.ofString "isinstance") px) [ea, .Name x pt] [] pos) (rdE (G.hot p) Γ W (.xis k a)) := by
  obtain ⟨g1, g2⟩ := gl_of C hg
  obtain ⟨g3, g4⟩ := gl_of C hg2
  obtain ⟨m1, m2⟩ := C.wd.xk.ki k x hk
  have pt : PE X (.Name x pt) (tC (.ref (G.xc k))) := pe_glob g3 m1 rfl g4
  refine pe_imp (pe_callB (call_isPE P.2) g1 (C.wd.fr _ hf) (by decide +kernel) (pa_cons ha (pa_cons pt pa_nil) (star_cons hp _ _)) (by decide +kernel) g2 (star_cons hp _ _) rfl) fun σ H Q ⟨F, r, S, e, R, L, p0⟩ => ?_
  unfold evE at p0
  refine ⟨F, r, S, e, R, L, Post.imp (Post.bnd (Rel := IsU (G.hot p)) p0) fun y H1 ⟨F1, r1, S1, u, e1, R1, q1, p1⟩ => ?_⟩
  cases u with
  | d _ => exact p1.elim
  | loc _ => exact p1.elim
  | err x' =>
    simp only at p1
    split at p1
    · rename_i hc
      obtain ⟨rfl, fs, z⟩ := q1.errAt R1
      refine ⟨G.xc x'.c, by rw [C.K]; exact C.wd.xk.xe hb _ hc, .ref (G.xc k), .ref (G.xc k), decide (x'.c = k), fs, rfl, z, fun u e => e, by rw [C.K]; exact m2 _ hc, ?_⟩
      exact Post.done p1 .refl R1 (.d (.bl _))
    · exact p1.elim
theorem de_xiv (P : Pin X p) (C : Ct (G.hot p) Γ tb c X W j) {a : E} {ea : Expr} {px pt : Pos} (hb : tb.xb.isSome = true) (hk : tb.kve = true) (hf : Str.ofString "isinstance" ∈ tb.free) (hg : isGlB c (Str.ofString "isinstance") = true) (hf2 : Str.ofString "ValueError" ∈ tb.free) (hg2 : isGlB c (Str.ofString "ValueError") = true)
    (ha : PE X ea (rdE (G.hot p) Γ W a)) (hp : plainE ea = true) :
    PE X (.Call (.Name (Str.ofString "isinstance") px) [ea, .Name (Str.ofString "ValueError") pt] [] pos) (rdE (G.hot p) Γ W (.xiv a)) := by
  obtain ⟨g1, g2⟩ := gl_of C hg
  obtain ⟨g3, g4⟩ := gl_of C hg2
  have m2 := C.wd.xk.kv hk
  have pt : PE X (.Name (Str.ofString "ValueError") pt) (tC (.ty "ValueError")) := pe_bltn g3 (C.wd.fr _ hf2) (by decide +kernel) rfl (by decide +kernel) g4
  refine pe_imp (pe_callB (call_isPE P.2) g1 (C.wd.fr _ hf) (by decide +kernel) (pa_cons ha (pa_cons pt pa_nil) (star_cons hp _ _)) (by decide +kernel) g2 (star_cons hp _ _) rfl) fun σ H Q ⟨F, r, S, e, R, L, p0⟩ => ?_
  unfold evE at p0
  refine ⟨F, r, S, e, R, L, Post.imp (Post.bnd (Rel := IsU (G.hot p)) p0) fun y H1 ⟨F1, r1, S1, u, e1, R1, q1, p1⟩ => ?_⟩
  cases u with
  | d _ => exact p1.elim
  | loc _ => exact p1.elim
  | err x' =>
    simp only at p1
    split at p1
    · rename_i hc
      obtain ⟨rfl, fs, z⟩ := q1.errAt R1
      refine ⟨G.xc x'.c, by rw [C.K]; exact C.wd.xk.xe hb _ hc, .ty "ValueError", .type "ValueError", true, fs, rfl, z, fun u e => e, by rw [C.K]; exact m2 _ hc, ?_⟩
      exact Post.done p1 .refl R1 (.d (.bl _))
    · exact p1.elim
/-- e.f of the pinned error, whatever its class -/
theorem pe_xpE {e : Expr} {te : TE} {pos : Pos} {n : Str} (hp : p ∈ X.pn) (he : PE X e te) (hb : attributeBase e n X.env (eval e X.env) = eval e X.env) :
    PE X (.Attribute e n pos) (fun σ H Q => te σ H fun x H1 => x = .ref p.1 ∧ ∃ (D : Addr) (fs : List (Str × V)) (v : V), XfC X.K D ∧ PySem.W.findIn X.K (.ref D) n = some none ∧ ErrAt H1 D (some fs) p.2 ∧ fs.lookup n = some v ∧ Q v H1) := by
  refine ⟨fun pins s σ H Q I h => ?_⟩
  refine attr_of hb (thn (he.run pins s σ H _ I h) fun u s1 hh => ?_)
  obtain ⟨x, H1, I1, rx, ex, D, fs, v, T, hno, z, l, q⟩ := hh
  subst ex
  obtain rfl : u = Value.ref p.1 := rx
  obtain ⟨hget, _⟩ := I1.pin p (List.mem_append_left _ hp)
  obtain ⟨vs, hv⟩ := z.data
  obtain ⟨dd, h1, h2⟩ := z.dict
  have hx : ObjOk X.prog X.w H1 s1.heap dd (.xd fs) := I1.hok dd _ h2
  obtain ⟨mA, hns, hr⟩ := hx
  obtain ⟨od, ho, hl⟩ := lookIn_ns hns
  obtain ⟨u, hu, ru⟩ := RelO.some_of (v := v) (o := mA n) (by rw [← l]; exact hr n)
  have J : PySem.W.InstAt s1.heap p.1 p.2 D (some od) := ⟨hget, z.cls, by unfold PySem.W.notCls; rw [hv], by rw [h1]; exact ho⟩
  exact HandSPX.exc_get I1.kIn J T.ga T.gg T.exC (PySem.W.findObj_own T.hdC hno rfl (by rw [hl, hu])) (handed_of ru) ⟨v, H1, I1.tok _, ru, q⟩
theorem isX_get {F : Hp} {f : Str} {d : D} : ∀ {vs : List (Str × V)} {fs : List (Str × D)}, IsX G F vs fs → fs.lookup f = some d → ∃ v, vs.lookup f = some v ∧ Is G F v d
  | _, _, .nil, e => by cases e
  | _, _, .cons (x := x) h t, e => by
    rw [List.lookup_cons] at e ⊢
    cases q : (f == x) with
    | true => rw [q] at e; simp only at e ⊢; cases e; exact ⟨_, rfl, h⟩
    | false => rw [q] at e; simp only at e ⊢; exact isX_get t e
theorem de_xfl (P : Pin X p) (C : Ct (G.hot p) Γ tb c X W j) {f : Str} {a : E} {ea : Expr} (hx : f ∈ tb.xfe) (ha : PE X ea (rdE (G.hot p) Γ W a)) (hb : attributeBase ea f X.env (eval ea X.env) = eval ea X.env) :
    PE X (.Attribute ea f pos) (rdE (G.hot p) Γ W (.xfl a f)) := by
  refine pe_imp (pe_xpE P.2 ha hb) fun σ H Q ⟨F, r, S, e, R, L, p0⟩ => ?_
  unfold evE at p0
  refine ⟨F, r, S, e, R, L, Post.imp (Post.bnd (Rel := IsU (G.hot p)) p0) fun y H1 ⟨F1, r1, S1, u, e1, R1, q1, p1⟩ => ?_⟩
  cases u with
  | d _ => exact p1.elim
  | loc _ => exact p1.elim
  | err x' =>
    simp only at p1
    split at p1
    · rename_i hc
      obtain ⟨d, h1, h2⟩ := Post.giv p1
      obtain ⟨rfl, k1, k2, k3⟩ := q1.at_err R1
      obtain ⟨m1, m2⟩ := C.wd.xk.xf f hx _ hc
      rcases k3 with ⟨k3, _⟩ | ⟨dd, vs, k3, k4, k5⟩
      · rw [k3] at h1; cases h1
      · obtain ⟨v, l1, l2⟩ := isX_get k5 h1
        exact ⟨rfl, G.xc x'.c, vs, v, by rw [C.K]; exact m1, by rw [C.K]; exact m2, ⟨k1, k2, dd, k3, k4⟩, l1, h2 F1 v H1 (Same.refl F1) R1 l2⟩
    · exact p1.elim
/-- own functions -/
theorem de_callH (P : Pin X p) (C : Ct (G.hot p) Γ tb c X W j) {f : Nat} {x : Str} {es : E} {ea : Expr} {l : List Expr} {px : Pos} (hf : (f, x) ∈ tb.hfs) (hg : isGlB c x = true) (hs : PA X (ea :: l) (rdL (G.hot p) Γ W es)) (hp : (ea :: l).all plainE = true) :
    PE X (.Call (.Name x px) (ea :: l) [] pos) (rdE (G.hot p) Γ W (.call f es)) := by
  obtain ⟨g1, g2⟩ := gl_of C hg
  obtain ⟨a, fd, ps, h1, h2, h3, h4⟩ := C.wd.hfn f x hf
  rw [List.all_cons, Bool.and_eq_true] at hp
  refine pe_imp (pe_callP (CX := L2N.CX X.prog X.w) (p := p) (sp := fun p => spU (G.hot p) (Γ.fn f)) (E := fun σ c d H' => W c d σ H') (by rw [C.K, C.w]; exact h4) (C.roomH.mono (Nat.le_succ _)) P.1 P.2 g1 h1 (by rw [C.K]; exact h2) (by rw [C.K]; exact h3) (fun σ => L2N.passAt C.tk σ) hs g2 (star_cons hp.1 _ _) (plains _ _ _ hp.2)) fun σ H Q ⟨F, r, S, e, R, L, p0⟩ => ?_
  unfold evE at p0
  exact ⟨F, r, S, e, R, L, Post.imp (Post.bnd (Rel := fun F r => Paired (IsU (G.hot p) F r)) p0) fun vs H1 ⟨F1, r1, S1, us, e1, R1, q1, p1⟩ => sp_of (G := G.hot p) R1 q1 p1⟩
end
/-- what isinstance asks of an error's class -/
def exB (K : PySem.W.Frag) (D : Addr) : Bool := decide (PySem.W.findIn K (.ref D) "__getattribute__" = some (some (.builtin "BaseException.__getattribute__"))) && (decide (PySem.W.findIn K (.ref D) "__getattr__" = some none) && (decide (PySem.W.subIn K (.ref D) (.type "BaseException") = some true) && (PySem.W.hasDictIn K D && (decide (PySem.W.findIn K (.ref D) "__class__" = some (some (.builtin "object.__class__"))) &&
  (decide (PySem.W.specialIn K (.builtin "object.__class__") "__get__" = some (some (.builtin "getset_descriptor.__get__"))) && (decide (PySem.W.takesIn K (.builtin "object.__class__") = some true) && decide (PySem.W.mroIn K D (.type "object") = some true)))))))
theorem exB_ok {K : PySem.W.Frag} {D : Addr} (h : exB K D = true) : ExcC K D := by
  unfold exB at h
  simp only [Bool.and_eq_true, decide_eq_true_eq] at h
  obtain ⟨h1, h2, h3, h4, h5, h6, h7, h8⟩ := h
  exact ⟨h1, h2, h3, h4, h5, h6, h7, h8⟩
end DL

/-! Dict displays, statements over data. -/
namespace DL
open PySem PySem.Spec L2
open PyProof.Rows hiding St
set_option autoImplicit false

/-! ### a dict's display: the new dict stands apart while its pairs are made -/
/-- an untracked record of ours is written, and tracked from here on -/
theorem inv_take {X : Cx} {pins : List (Addr × Obj)} {σ : L2.St} {H : Hp} {s : Shared} {h' : Heap} {p : Addr} {o : HO} {t' : Nat} (I : L2.Inv X pins σ H s) (f : FpOk X pins H p) (k : Heap.SameBut p s.heap h') (he : ∃ q, h'.get? p = some q) (new : ObjOk X.prog X.w (upd H p o) h' p o) :
    L2.Inv X pins σ (upd H p o) { s with heap := h', toks := t' } := by
  obtain ⟨f0, f1, f2, f3, f4, f5⟩ := f
  have I1 : L2.Inv X pins σ H { s with heap := h', toks := t' } := I.turned (t' := t') (fun b o hb e => (k.2 b hb).trans e) f0 f1 f3 f4 f5
  refine I1.call (s := { s with heap := h', toks := t' }) (ch := [p]) (t' := t') (g' := s.gens) (d' := s.drawn) (un_track (Un.kept fun _ _ q => q) (by simp) f0) (hok_track I1.hok f0 new) I.bare fun b hb => ?_
  have e : b = p := by simpa using hb
  subst e
  exact ⟨f3, f1, f4, f5⟩
def tDispP (trs : List (TE × TE)) : TE := fun σ H Q => tPairs trs σ H fun ps H2 => ∃ kvs : List (Key × V), ps = kvs.map (fun kv => (kV kv.1, kv.2)) ∧ kvs.length ≤ 15 ∧ ∀ p, H2 p = none → Q (.ref p) (upd H2 p (.dK (mergeK [] kvs)))
theorem pe_dispP {X : Cx} {pos : Pos} {keys : List (Option Expr)} {values : List Expr} {trs : List (TE × TE)} (h : PPs X pos keys values trs) (hall : keys.all (·.isSome) = true) (hl : keys.length = values.length) (h0 : keys ≠ [])
    (h15 : keys.length ≤ 15) : PE X (.Dict keys values pos) (tDispP trs) := by
  refine ⟨fun pins s σ H Q I q => ?_⟩
  have hn := I.hok.fresh (Nat.le_refl s.heap.objs.size)
  have I1 : L2.Inv X pins σ H { s with heap := s.heap.push { cls := .type "dict", data := .dict #[] } } := I.kept (t' := s.toks) (fun _ _ q => Heap.get?_push_of_some _ q)
  have fD : FpOk X pins H s.heap.objs.size := I.fpOk (Nat.le_refl _) hn
  have oD : (s.heap.push { cls := .type "dict", data := .dict #[] }).get? s.heap.objs.size = some { cls := .type "dict", data := .dict #[] } := Heap.get?_push_size _ rfl
  have I2 := I1.pinned (fp := [s.heap.objs.size]) (fun b hb => by rw [show b = s.heap.objs.size by simpa using hb]; exact fD) (fun b hb => by rw [show b = s.heap.objs.size by simpa using hb]; exact ⟨_, oD, fun v z => nomatch z⟩)
  refine wpAny_Dict_walk (knd := mixKind X.prog X.w) hall hl h0 h15 (thn (h.run _ _ σ _ _ I2 q) fun ws s2 ⟨ps, H2, I3, rel, kvs, ep, lk, q2⟩ => ?_)
  subst ep
  have pn := I3.pin (s.heap.objs.size, { cls := .type "dict", data := .dict #[] }) (List.mem_append_right _ (List.mem_append_right _ (mem_pinsAt (fp := [s.heap.objs.size]) (by simp) oD)))
  have I4 : L2.Inv X pins σ H2 s2 := I3.unpinned
  obtain ⟨rs, c, rk⟩ := carries_of (P := X.prog) (w := X.w) rel
  obtain ⟨z, hd, vs0, r0, _⟩ := dk_empty (P := X.prog) (w := X.w) (H := H) s.heap I.big
  refine ⟨rs, c, ?_, fun h' dd' hs => ⟨.ref s.heap.objs.size, _, ?_, rfl, q2 s.heap.objs.size pn.2.1⟩⟩
  · have d0 := Heap.DictOf.new (knd := mixKind X.prog X.w) s.heap
    obtain ⟨o, es, ep, e1, e2⟩ := d0
    rw [oD] at e1
    cases e1
    exact ⟨_, es, ep, pn.1, e2⟩
  · have hz : (mergeK [] kvs).length ≤ sizeLine := by
      have h1 := length_mergeK kvs []
      rw [List.length_nil] at h1
      rw [sizeLine_eq]; omega
    have he : ∃ q, h'.get? s.heap.objs.size = some q := let ⟨q, _, _, hq, _⟩ := dd'; ⟨q, hq⟩
    have f4 : FpOk X pins H2 s.heap.objs.size := ⟨pn.2.1, fD.2⟩
    exact inv_take I4 f4 hs he (dk_new hz hd (rk.merge .nil) dd')

section
variable {G : Gx} {Γ : Ev} {tb : Tb} {c : Sc} {X : Cx} {W : WX} {j : Nat} {pos : Pos}
/-- the pairs of a display with text keys -/
inductive MapP (X : Cx) (G : Gx) (Γ : Ev) (W : WX) : List Str → List (Option Expr) → List Expr → E → Prop
  | nil : MapP X G Γ W [] [] [] .nil
  | cons {k : Str} {kk : Nat} {kp : Pos} {ks : List Str} {kes : List (Option Expr)} {ve : Expr} {ves : List Expr} {a r : E} : PE X ve (rdE G Γ W a) → MapP X G Γ W ks kes ves r → MapP X G Γ W (k :: ks) (some (.Constant (.str k) kk kp) :: kes) (ve :: ves) (.cons a r)
theorem MapP.len {ks : List Str} {kes : List (Option Expr)} {ves : List Expr} {es : E} (h : MapP X G Γ W ks kes ves es) : kes.length = ks.length ∧ ves.length = ks.length ∧ kes.all (·.isSome) = true := by
  induction h with
  | nil => exact ⟨rfl, rfl, rfl⟩
  | cons _ _ ih => exact ⟨by simp [ih.1], by simp [ih.2.1], by simp [ih.2.2]⟩
theorem MapP.pairs {ks : List Str} {kes : List (Option Expr)} {ves : List Expr} {es : E} (h : MapP X G Γ W ks kes ves es) : ∃ trs, PPs X pos kes ves trs ∧
    ∀ {F : Hp} {r : Pl} {S : Store} {e : Env} {σ : L2.St} {H : Hp} {Q : List V → Hp → Prop} {Q' : List (V × V) → Hp → Prop}, Rp G F r S H → Lo G F r σ e → Post G W σ (fun F r => Paired (IsU G F r)) F r (evL Γ es e S) Q →
      (∀ vs H', Q vs H' → vs.length = ks.length → Q' (List.zipWith (fun (k : Str) v => (V.str k, v)) ks vs) H') → tPairs trs σ H Q' := by
  induction h with
  | nil =>
    refine ⟨[], pps_nil, fun {F r S e σ H Q Q'} R L p k => ?_⟩
    unfold evL at p
    exact k [] H (Post.done p .refl R .nil) rfl
  | @cons k kk kp ks kes ve ves a t hv ht ih =>
    obtain ⟨trs, h1, h2⟩ := ih
    refine ⟨_, pps_cons pe_str hv h1, fun {F r S e σ H Q Q'} R L p kq => ?_⟩
    unfold evL at p
    refine ⟨F, r, S, e, R, L, Post.imp (Post.bnd (Rel := IsU G) p) fun x H1 ⟨F1, r1, S1, u, e1, R1, q1, p1⟩ => ?_⟩
    refine h2 R1 (L.mono e1) (Post.bnd (Rel := fun F r => Paired (IsU G F r)) p1) fun vs H' ⟨F2, r2, S2, us, e2, R2, q2, p2⟩ hl => ?_
    exact kq (x :: vs) H' (Post.done p2 .refl R2 (.cons (q1.mono e2) q2)) (by simp [hl])
theorem merge_nodup : ∀ {ks : List Str} {vs : List V} {acc : List (Key × V)}, ks.Nodup → (∀ k ∈ ks, ∀ p ∈ acc, p.1 ≠ .inr k) → mergeK acc (List.zipWith (fun (k : Str) v => ((.inr k : Key), v)) ks vs) = acc ++ List.zipWith (fun (k : Str) v => ((.inr k : Key), v)) ks vs
  | [], vs, acc, _, _ => by simp [mergeK]
  | k :: ks, [], acc, _, _ => by simp [mergeK]
  | k :: ks, v :: vs, acc, hn, ha => by
    have h0 : putK acc (.inr k) v = acc ++ [(.inr k, v)] := by
      unfold putK
      rw [if_neg]
      intro z
      rw [List.any_eq_true] at z
      obtain ⟨p, hp, e⟩ := z
      exact ha k List.mem_cons_self p hp (of_decide_eq_true e)
    have hn' := List.nodup_cons.mp hn
    have ih := merge_nodup (ks := ks) (vs := vs) (acc := acc ++ [(.inr k, v)]) hn'.2 (fun k' hk p hp => by
      rcases List.mem_append.mp hp with hp | hp
      · exact ha k' (List.mem_cons_of_mem _ hk) p hp
      · rw [show p = (.inr k, v) by simpa using hp]
        intro z
        cases z
        exact hn'.1 hk)
    show mergeK (putK acc (.inr k) v) (List.zipWith _ ks vs) = _
    rw [h0, ih, List.append_assoc]
    rfl
theorem isM_zip {F : Hp} : ∀ {ks : List Str} {vs : List V} {ds : List D}, IsL G F vs ds → IsM G F (List.zipWith (fun (k : Str) v => ((.inr k : Key), v)) ks vs) (ks.zip ds)
  | [], _, _, _ => by simp; exact .nil
  | k :: ks, _, _, .nil => by simp; exact .nil
  | k :: ks, _, _, .cons h t => by simp only [List.zipWith_cons_cons, List.zip_cons_cons]; exact .cons h (isM_zip t)
/-- {} -/
theorem de_map0 : PE X (.Dict [] [] pos) (rdE G Γ W (.map [] .nil)) := pe_imp pe_dnewK fun σ H Q ⟨F, r, S, e, R, L, p⟩ p0 hp => by
  unfold evE evL at p
  obtain ⟨R1, s1⟩ := R.new (o := .dK []) hp
  exact Post.done p (.cells s1) R1 (.d (.map upd_same .nil))
theorem de_map {ks : List Str} {es : E} {kes : List (Option Expr)} {ves : List Expr} (h : MapP X G Γ W ks kes ves es) (hn : ks.Nodup) (h0 : ks ≠ []) (h15 : ks.length ≤ 15) : PE X (.Dict kes ves pos) (rdE G Γ W (.map ks es)) := by
  obtain ⟨l1, l2, l3⟩ := h.len
  obtain ⟨trs, h1, h2⟩ := h.pairs (pos := pos)
  refine pe_imp (pe_dispP h1 l3 (l1.trans l2.symm) (by intro z; rw [z] at l1; exact h0 (List.length_eq_zero_iff.mp l1.symm)) (by rw [l1]; exact h15)) fun σ H Q ⟨F, r, S, e, R, L, p⟩ => ?_
  unfold evE at p
  refine h2 R L (Post.bnd (Rel := fun F r => Paired (IsU G F r)) p) fun vs H' ⟨F1, r1, S1, us, e1, R1, q1, p1⟩ hl => ?_
  cases q : lst1 us with
  | none => rw [q] at p1; exact p1.elim
  | some m =>
    rw [q] at p1
    simp only at p1
    split at p1
    · have i := lst1_is q1 q
      have ez : ∀ {ks : List Str} {vs : List V}, List.map (fun (kv : Key × V) => (kV kv.1, kv.2)) (List.zipWith (fun (k : Str) v => ((.inr k : Key), v)) ks vs) = List.zipWith (fun (k : Str) v => (V.str k, v)) ks vs := by
        intro ks
        induction ks with
        | nil => intro vs; simp
        | cons k ks ih => intro vs; cases vs with
          | nil => simp
          | cons v vs => simp [ih, kV]
      refine ⟨List.zipWith (fun (k : Str) v => ((.inr k : Key), v)) ks vs, ez.symm, by simp; omega, fun a ha => ?_⟩
      rw [merge_nodup hn (by simp), List.nil_append]
      obtain ⟨R2, s2⟩ := R1.new (o := .dK (List.zipWith (fun (k : Str) v => ((.inr k : Key), v)) ks vs)) ha
      exact Post.done p1 (.cells s2) R2 (.d (.map upd_same (isM_zip (i.mono s2))))
    · exact p1.elim
end

/-! ### what is wanted behind a statement -/
def PostS (G : Gx) (W : WX) (F : Hp) (r : Pl) (m : MS) (D : Ends) : Prop := match m with
  | none => False
  | some (.nx e S) => ∀ F' r' σ' H', Ext F F' r r' → Rp G F' r' S H' → Lo G F' r' σ' e → D.nx σ' H'
  | some (.rt u S) => ∀ F' r' v H', Ext F F' r r' → Rp G F' r' S H' → IsU G F' r' v u → D.rt v H'
  | some (.ex x e S) => ∀ F' r' cl d σ' H', Ext F F' r r' → Rp G F' r' S H' → Lo G F' r' σ' e → XnIs G F' cl d x → W cl d σ' H'
section
variable {G : Gx} {Γ : Ev} {tb : Tb} {c : Sc} {X : Cx} {W : WX} {j : Nat} {pos : Pos}
theorem PostS.mono {F F' : Hp} {r r' : Pl} {m : MS} {D : Ends} (h : PostS G W F r m D) (e : Ext F F' r r') : PostS G W F' r' m D := by
  cases m with
  | none => exact h
  | some z =>
    cases z with
    | nx en S => exact fun F2 r2 s H' e2 => h F2 r2 s H' (e.trans e2)
    | rt u S => exact fun F2 r2 s H' e2 => h F2 r2 s H' (e.trans e2)
    | ex x en S => exact fun F2 r2 a b s H' e2 => h F2 r2 a b s H' (e.trans e2)
theorem PostS.nx {F : Hp} {r : Pl} {e : Env} {S : Store} {D : Ends} (h : PostS G W F r (some (.nx e S)) D) {F' : Hp} {r' : Pl} {σ' : L2.St} {H' : Hp} (x : Ext F F' r r') (R : Rp G F' r' S H') (L : Lo G F' r' σ' e) : D.nx σ' H' := h F' r' σ' H' x R L
/-- an expression first -/
theorem PostS.inS {A B : Type} {Rel : Hp → Pl → B → A → Prop} {F : Hp} {r : Pl} {m : M A} {e : Env} {k : A → Store → MS} {D : Ends} {σ : L2.St} (h : PostS G W F r (DL.inS m e k) D) (L : Lo G F r σ e) :
    Post G W σ Rel F r m fun b H1 => ∃ F1 r1 S1 a, Ext F F1 r r1 ∧ Rp G F1 r1 S1 H1 ∧ Rel F1 r1 b a ∧ PostS G W F1 r1 (k a S1) D := by
  cases m with
  | none => exact h
  | some z =>
    cases z with
    | ok a S => exact fun F1 r1 b H1 e R q => ⟨F1, r1, S, a, e, R, q, PostS.mono (m := k a S) h e⟩
    | ex x S => exact fun F1 r1 cl d H1 e1 R1 q => h F1 r1 cl d σ H1 e1 R1 (L.mono e1) q
def rdS (G : Gx) (Γ : Ev) (W : WX) (a : Stm) : TS := fun D σ H => ∃ F r S e, Rp G F r S H ∧ Lo G F r σ e ∧ PostS G W F r (evS Γ a e S) D

theorem ds_nil : PSs X [] (rdS G Γ W .nop) := pss_imp pss_nil fun D σ H ⟨F, r, S, e, R, L, p⟩ => PostS.nx p .refl R L
theorem ds_one {st : Stmt} {a : Stm} (h : PS X st (rdS G Γ W a)) : PSs X [st] (rdS G Γ W a) := pss_one h
theorem ds_cons {st : Stmt} {rest : List Stmt} {a b : Stm} (h : PS X st (rdS G Γ W a)) (h2 : PSs X rest (rdS G Γ W b)) : PSs X (st :: rest) (rdS G Γ W (.seq a b)) :=
  pss_imp (pss_cons h h2) fun D σ H ⟨F, r, S, e, R, L, p⟩ => by
    unfold evS at p
    refine ⟨F, r, S, e, R, L, ?_⟩
    cases q : evS Γ a e S with
    | none => rw [q] at p; exact p
    | some z =>
      rw [q] at p
      cases z with
      | nx en S1 => exact fun F1 r1 s1 H1 x1 R1 L1 => ⟨F1, r1, S1, en, R1, L1, PostS.mono (m := evS Γ b en S1) p x1⟩
      | rt u S1 => exact p
      | ex x en S1 => exact p
theorem ds_doc {x : Str} {k : Nat} {p1 : Pos} : PS X (.Expr (.Constant (.str x) k p1) pos) (rdS G Γ W .nop) := ps_imp ps_doc fun D σ H ⟨F, r, S, e, R, L, p⟩ => PostS.nx p .refl R L
theorem ds_pass : PS X (.Pass pos) (rdS G Γ W .nop) := ps_imp ps_pass fun D σ H ⟨F, r, S, e, R, L, p⟩ => PostS.nx p .refl R L
theorem ds_stop {st : Stmt} : PS X st (rdS G Γ W .stop) := ps_imp ps_never fun D σ H ⟨F, r, S, e, R, L, p⟩ => p
theorem dss_stop {st : List Stmt} : PSs X st (rdS G Γ W .stop) := pss_imp pss_never fun D σ H ⟨F, r, S, e, R, L, p⟩ => p
theorem ds_ex {a : E} {ea : Expr} (ha : PE X ea (rdE G Γ W a)) (hs : swapsWith ea none pos.line X.env = pure false) : PS X (.Expr ea pos) (rdS G Γ W (.ex a)) := ps_imp (ps_expr ha hs) fun D σ H ⟨F, r, S, e, R, L, p⟩ => by
  unfold evS at p
  exact ⟨F, r, S, e, R, L, Post.imp (PostS.inS (Rel := IsU G) p L) fun x H1 ⟨F1, r1, S1, u, e1, R1, q1, p1⟩ => PostS.nx p1 .refl R1 (L.mono e1)⟩
theorem ds_ret {a : E} {ea : Expr} (ha : PE X ea (rdE G Γ W a)) : PS X (.Return (some ea) pos) (rdS G Γ W (.ret a)) := ps_imp (ps_ret ha) fun D σ H ⟨F, r, S, e, R, L, p⟩ => by
  unfold evS at p
  exact ⟨F, r, S, e, R, L, Post.imp (PostS.inS (Rel := IsU G) p L) fun x H1 ⟨F1, r1, S1, u, e1, R1, q1, p1⟩ => p1 F1 r1 x H1 .refl R1 q1⟩
theorem ds_retN : PS X (.Return none pos) (rdS G Γ W .retN) := ps_imp ps_retN fun D σ H ⟨F, r, S, e, R, L, p⟩ => p F r .non H .refl R (.d .non)
theorem ds_if {t : E} {a b : Stm} {et : Expr} {ea eb : List Stmt} (ht : PT X et (rdT G Γ W t)) (ha : PSs X ea (rdS G Γ W a)) (hb : PSs X eb (rdS G Γ W b)) : PS X (.If et ea eb pos) (rdS G Γ W (.ite t a b)) :=
  ps_imp (ps_if ht ha hb) fun D σ H ⟨F, r, S, e, R, L, p⟩ => by
    unfold evS at p
    exact ⟨F, r, S, e, R, L, Post.imp (PostS.inS (Rel := fun _ _ (b : Bool) c => b = c) p L) fun k H1 ⟨F1, r1, S1, k', e1, R1, q1, p1⟩ => by
      subst q1
      cases k with
      | true => exact iteT ⟨F1, r1, S1, e, R1, L.mono e1, p1⟩
      | false => exact iteF ⟨F1, r1, S1, e, R1, L.mono e1, p1⟩⟩
theorem asg_of {a : E} {g : List Nat} {D : Ends} {σ : L2.St} {H : Hp} (h : rdS G Γ W (.asg g a) D σ H) : tAsg (rdE G Γ W a) (rdG G g) D σ H := by
  obtain ⟨F, r, S, e, R, L, p⟩ := h
  unfold evS at p
  refine ⟨F, r, S, e, R, L, Post.imp (PostS.inS (Rel := IsU G) p L) fun x H1 ⟨F1, r1, S1, u, e1, R1, q1, p1⟩ => ?_⟩
  split at p1
  · rename_i en hb
    exact ⟨F1, r1, S1, e, u, en, R1, L.mono e1, q1, hb, fun σ' L' _ => PostS.nx p1 .refl R1 L'⟩
  · exact p1.elim
theorem ds_set (C : Ct G Γ tb c X W j) {i : Nat} {x : Str} {a : E} {ea : Expr} {px : Pos} (hx : isLocB c i x = true) (ha : PE X ea (rdE G Γ W a)) (hs : swapsWith ea (some (.Name x px)) pos.line X.env = pure false) : PS X (.Assign [.Name x px] ea pos) (rdS G Γ W (.asg [i] a)) := by
  obtain ⟨h1, h2, h3⟩ := loc_of C hx
  refine ps_imp (ps_set C.nd h1 h2 ha hs h3) fun D σ H ⟨F, r, S, e, R, L, p⟩ => ?_
  unfold evS at p
  exact ⟨F, r, S, e, R, L, Post.imp (PostS.inS (Rel := IsU G) p L) fun x H1 ⟨F1, r1, S1, u, e1, R1, q1, p1⟩ => PostS.nx p1 .refl R1 ((L.mono e1).set i q1)⟩
theorem ds_asg {a : E} {g : List Nat} {tg ea : Expr} (hg : PG X tg (rdG G g)) (ha : PE X ea (rdE G Γ W a)) (hs : swapsWithSole [tg] ea pos.line X.env = pure false) (hw : swappedStores [tg] ea X.env = pure none) (h1 : (assignEach [tg] X.env).map (·.2) = [assign tg X.env]) :
    PS X (.Assign [tg] ea pos) (rdS G Γ W (.asg g a)) := ps_imp (ps_asg ha hg hs hw h1) fun D σ H h => asg_of h
def locB (c : Sc) (i : Nat) (x : Str) : Bool := decide (c.N[i]? = some x) && decide (c.sc.names.lookup x = some .local)
theorem local_of (C : Ct G Γ tb c X W j) {i : Nat} {x : Str} (h : locB c i x = true) : X.N[i]? = some x ∧ X.env.scope.names.lookup x = some .local := by
  unfold locB at h
  simp only [Bool.and_eq_true, decide_eq_true_eq] at h
  rw [C.N, C.sc]
  exact h
/-- name = [.. for ..], written on one line -/
theorem ds_setLc [Cold tb] (C : Ct G Γ tb c X W j) {i : Nat} {x : Str} {px spos : Pos} {elt tg iter : Expr} {ifs : List Expr} {scope : Scope} {own : List (Str × Nat)} {it t el : E} {g : List Nat} (hx : locB c i x = true) (hk : c.sc.kind = .function) (hl : (px.line == pos.line) = true)
    (hs0 : (scope.names.any fun (n, k) => n == x && (k == .local || k == .cell)) = false) (hok : blkC c.N c.sc scope own = true) (hv : ∀ i ∈ g, i ∈ own.map (·.2)) (hp : plainE iter = true)
    (hi : PI X tg iter (rdI G Γ W it))
    (hg : ∀ {X' : Cx}, Ct G Γ tb ⟨c.N, relS scope c.sc, false⟩ X' (fun _ _ _ _ => False) j → PG X' tg (rdG G g))
    (ht : ∀ {X' : Cx}, Ct G Γ tb ⟨c.N, relS scope c.sc, false⟩ X' (fun _ _ _ _ => False) j → PTs X' ifs (rdT G Γ (fun _ _ _ _ => False) t))
    (he : ∀ {X' : Cx}, Ct G Γ tb ⟨c.N, relS scope c.sc, false⟩ X' (fun _ _ _ _ => False) j → PE X' elt (rdE G Γ (fun _ _ _ _ => False) el)) :
    PS X (.Assign [.Name x px] (.ListComp elt [⟨tg, iter, ifs, 0⟩] scope pos) spos) (rdS G Γ W (.asg [i] (.lc (own.map (·.2)) it g t el))) := by
  obtain ⟨h1, h2⟩ := local_of C hx
  refine ps_imp (ps_setLcP C.calm C.nd h1 h2 (sw_true (by rw [C.sc]; exact hk) h2 hl hs0) hi (blkOk_by (by rw [C.N, C.sc]; exact hok)) (fun s H Ca cl fp => hg (C.blk s H scope cl Ca fp)) (fun s H Ca cl fp => ht (C.blk s H scope cl Ca fp)) (fun s H Ca cl fp => he (C.blk s H scope cl Ca fp)) (fun x => foldset hp _ x)) fun D σ H h => ?_
  obtain ⟨F, r, S, e, R, L, p⟩ := h
  unfold evS at p
  refine lc_rd hv ⟨F, r, S, e, R, L, Post.imp (PostS.inS (Rel := IsU G) p L) fun x H1 ⟨F1, r1, S1, u, e1, R1, q1, p1⟩ => PostS.nx p1 .refl R1 ((L.mono e1).set i q1)⟩
/-- name += e, name -= e, whole numbers -/
theorem ds_aug (C : Ct G Γ tb c X W j) {i : Nat} {x : Str} {o : Bop} {a : E} {ea : Expr} {px : Pos} (hx : isLocB c i x = true) (ha : PE X ea (rdE G Γ W a)) (ho : o = .add ∨ o = .sub) :
    PS X (.AugAssign (.Name x px) (opB o) ea pos) (rdS G Γ W (.aug i o a)) := by
  obtain ⟨h1, h2, h3⟩ := loc_of C hx
  rcases ho with rfl | rfl
  · refine ps_imp (ps_aug C.nd h1 h2 ha ip_add h3) fun D σ H ⟨F, r, S, e, R, L, p⟩ => ?_
    unfold evS at p
    split at p
    · rename_i k hk
      obtain ⟨v, hv, iv⟩ := L.at_ i _ hk
      cases iv with
      | d iv =>
        cases iv
        refine ⟨_, hv, F, r, S, e, R, L, Post.imp (PostS.inS (Rel := IsU G) p L) fun y H1 ⟨F1, r1, S1, u, e1, R1, q1, p1⟩ => ?_⟩
        split at p1
        · cases q1 with
          | d q1 => cases q1; exact ⟨_, _, rfl, rfl, PostS.nx p1 .refl R1 ((L.mono e1).set i (.d (.int _)))⟩
        · contradiction
        · exact p1.elim
    · exact p.elim
  · refine ps_imp (ps_aug C.nd h1 h2 ha ip_sub h3) fun D σ H ⟨F, r, S, e, R, L, p⟩ => ?_
    unfold evS at p
    split at p
    · rename_i k hk
      obtain ⟨v, hv, iv⟩ := L.at_ i _ hk
      cases iv with
      | d iv =>
        cases iv
        refine ⟨_, hv, F, r, S, e, R, L, Post.imp (PostS.inS (Rel := IsU G) p L) fun y H1 ⟨F1, r1, S1, u, e1, R1, q1, p1⟩ => ?_⟩
        split at p1
        · contradiction
        · cases q1 with
          | d q1 => cases q1; exact ⟨_, _, rfl, rfl, PostS.nx p1 .refl R1 ((L.mono e1).set i (.d (.int _)))⟩
        · exact p1.elim
    · exact p.elim
theorem ds_seti (C : Ct G Γ tb c X W j) {o i a : E} {eo ei ea : Expr} {tpos : Pos} (ho : PE X eo (rdE G Γ W o)) (hi : PE X ei (rdE G Γ W i)) (ha : PE X ea (rdE G Γ W a))
    (hs : swapsWithSole [.Subscript eo ei tpos] ea pos.line X.env = pure false) (hw : swappedStores [.Subscript eo ei tpos] ea X.env = pure none) (h1 : (assignEach [.Subscript eo ei tpos] X.env).map (·.2) = [assign (.Subscript eo ei tpos) X.env])
    (has : ∀ v, assign (.Subscript eo ei tpos) X.env v = (do
      let ov ← holding [v] (eval eo X.env)
      let iv ← holding [v, ov] (eval ei X.env)
      standAt tpos
      holding [v, ov, iv] (setItem ov iv v)
      release [v, ov, iv] [])) :
    PS X (.Assign [.Subscript eo ei tpos] ea pos) (rdS G Γ W (.seti o i a)) :=
  ps_imp (ps_asg ha (pg_sub ho hi set_list has) hs hw h1) fun D σ H ⟨F, r, S, e, R, L, p⟩ => by
    unfold evS at p
    refine ⟨F, r, S, e, R, L, Post.imp (PostS.inS (Rel := IsU G) p L) fun v H1 ⟨F1, r1, S1, uv, e1, R1, q1, p1⟩ => ?_⟩
    refine ⟨F1, r1, S1, e, R1, L.mono e1, Post.imp (PostS.inS (Rel := IsU G) p1 (L.mono e1)) fun x H2 ⟨F2, r2, S2, ux, e2, R2, q2, p2⟩ => ?_⟩
    refine ⟨F2, r2, S2, e, R2, (L.mono e1).mono e2, Post.imp (PostS.inS (Rel := IsU G) p2 ((L.mono e1).mono e2)) fun y H3 ⟨F3, r3, S3, uy, e3, R3, q3, p3⟩ => ?_⟩
    split at p3
    · split at p3
      · rename_i l hl
        split at p3
        · rename_i jj hj
          cases q2.mono e3 with
          | loc h =>
            obtain ⟨xs, g1, g2⟩ := R3.list h hl
            cases q3 with
            | d q3 =>
              cases q3
              have q1' := (q1.mono e2).mono e3
              cases q1' with
              | d q1' =>
                refine ⟨_, xs, _, jj, rfl, rfl, g1, by rw [g2.length, ← plc_eq]; exact hj, ?_⟩
                exact PostS.nx p3 .refl (R3.wlist h hl (g2.set q1' jj)) (((L.mono e1).mono e2).mono e3)
        · exact p3.elim
      · exact p3.elim
    · exact p3.elim
/-- a list's item, by values -/
theorem get_lst {X : Cx} : PGet X (rIxL X.K) := by
  intro pins s σ H x y v u Q I rx ry h
  obtain ⟨p, xs, i, z, rfl, rfl, hq, he, q⟩ := h
  cases rx
  obtain ⟨t, rfl⟩ := ry
  obtain ⟨its, r, pl, hz⟩ := I.list hq
  obtain ⟨j, h1, h2, h3, h4, h5⟩ := atI_get he
  obtain ⟨w, ew, rw'⟩ := r.get h2
  have hl := r.length
  have hn := line63
  have fin : EP X pins σ Q w s := ⟨z, H, I, rw', q⟩
  by_cases h0 : 0 ≤ i
  · have hj : i.toNat = j := by
      rw [seqIndex_of h0 h5] at h1
      exact Option.some.inj h1
    exact wpAny_getItem_list pl.isList h0 (by omega) (by rw [hj]; simpa using ew) fin
  · have hj : (i + (its.toArray.size : Int)).toNat = j := by
      rw [seqIndex_neg (by omega) h4] at h1
      rw [List.size_toArray, ← hl]
      exact Option.some.inj h1
    exact wpAny_getItem_list_neg pl.isList (by omega) (by rw [List.size_toArray] <;> omega) (by omega) (by rw [hj]; simpa using ew) fin
/-- o[i] += e, o[i] -= e -/
theorem ds_augi (C : Ct G Γ tb c X W j) {o i a : E} {b : Bop} {eo ei ea : Expr} {tpos : Pos} (ho : PE X eo (rdE G Γ W o)) (hi : PE X ei (rdE G Γ W i)) (ha : PE X ea (rdE G Γ W a)) (hb : b = .add ∨ b = .sub)
    (hst : ∀ ov iv new, augStore ei ov iv new = (do holding [new, ov, iv] (setItem ov iv new); release [new, ov, iv] []; pure .next)) :
    PS X (.AugAssign (.Subscript eo ei tpos) (opB b) ea pos) (rdS G Γ W (.augi o i b a)) := by
  rcases hb with rfl | rfl
  · refine ps_imp (ps_augS ho hi get_lst ha ip_add set_list hst) fun D σ H ⟨F, r, S, e, R, L, p⟩ => ?_
    unfold evS at p
    refine ⟨F, r, S, e, R, L, Post.imp (PostS.inS (Rel := IsU G) p L) fun x H1 ⟨F1, r1, S1, u, e1, R1, q1, p1⟩ => ?_⟩
    refine ⟨F1, r1, S1, e, R1, L.mono e1, Post.imp (PostS.inS (Rel := IsU G) p1 (L.mono e1)) fun y H2 ⟨F2, r2, S2, uy, e2, R2, q2, p2⟩ => ?_⟩
    split at p2
    · split at p2
      · rename_i l hl
        split at p2
        · rename_i x0 hx
          cases q1.mono e2 with
          | loc h =>
          cases q2 with
          | d q2 =>
          cases q2
          obtain ⟨xs, g1, g2⟩ := R2.list h hl
          obtain ⟨v, g3, g4⟩ := at_is g2 hx
          refine ⟨_, xs, _, v, rfl, rfl, SqL.of g1, g3, ?_⟩
          cases g4
          refine ⟨F2, r2, S2, e, R2, (L.mono e1).mono e2, Post.imp (PostS.inS (Rel := IsU G) p2 ((L.mono e1).mono e2)) fun z H3 ⟨F3, r3, S3, uz, e3, R3, q3, p3⟩ => ?_⟩
          split at p3
          · rename_i l3 hl3
            split at p3
            · rename_i j3 hj
              cases q3 with
              | d q3 =>
              cases q3
              obtain ⟨t', h'⟩ := e3.pre _ _ _ h
              obtain ⟨ys, g5, g6⟩ := R3.list h' hl3
              refine ⟨_, _, rfl, rfl, _, ys, _, j3, rfl, rfl, g5, by rw [g6.length, ← plc_eq]; exact hj, ?_⟩
              exact PostS.nx p3 .refl (R3.wlist h' hl3 (g6.set (.int _) j3)) (((L.mono e1).mono e2).mono e3)
            · exact p3.elim
          · contradiction
          · exact p3.elim
        · exact p2.elim
      · exact p2.elim
    · exact p2.elim
  · refine ps_imp (ps_augS ho hi get_lst ha ip_sub set_list hst) fun D σ H ⟨F, r, S, e, R, L, p⟩ => ?_
    unfold evS at p
    refine ⟨F, r, S, e, R, L, Post.imp (PostS.inS (Rel := IsU G) p L) fun x H1 ⟨F1, r1, S1, u, e1, R1, q1, p1⟩ => ?_⟩
    refine ⟨F1, r1, S1, e, R1, L.mono e1, Post.imp (PostS.inS (Rel := IsU G) p1 (L.mono e1)) fun y H2 ⟨F2, r2, S2, uy, e2, R2, q2, p2⟩ => ?_⟩
    split at p2
    · split at p2
      · rename_i l hl
        split at p2
        · rename_i x0 hx
          cases q1.mono e2 with
          | loc h =>
          cases q2 with
          | d q2 =>
          cases q2
          obtain ⟨xs, g1, g2⟩ := R2.list h hl
          obtain ⟨v, g3, g4⟩ := at_is g2 hx
          refine ⟨_, xs, _, v, rfl, rfl, SqL.of g1, g3, ?_⟩
          cases g4
          refine ⟨F2, r2, S2, e, R2, (L.mono e1).mono e2, Post.imp (PostS.inS (Rel := IsU G) p2 ((L.mono e1).mono e2)) fun z H3 ⟨F3, r3, S3, uz, e3, R3, q3, p3⟩ => ?_⟩
          split at p3
          · contradiction
          · rename_i l3 hl3
            split at p3
            · rename_i j3 hj
              cases q3 with
              | d q3 =>
              cases q3
              obtain ⟨t', h'⟩ := e3.pre _ _ _ h
              obtain ⟨ys, g5, g6⟩ := R3.list h' hl3
              refine ⟨_, _, rfl, rfl, _, ys, _, j3, rfl, rfl, g5, by rw [g6.length, ← plc_eq]; exact hj, ?_⟩
              exact PostS.nx p3 .refl (R3.wlist h' hl3 (g6.set (.int _) j3)) (((L.mono e1).mono e2).mono e3)
            · exact p3.elim
          · exact p3.elim
        · exact p2.elim
      · exact p2.elim
    · exact p2.elim
/-- a list is done: it does not change any more -/
theorem dss_frz {i : Nat} {b : Stm} {st : List Stmt} (h : PSs X st (rdS G Γ W b)) : PSs X st (rdS G Γ W (.seq (.frz i) b)) := pss_imp h fun D σ H ⟨F, r, S, e, R, L, p⟩ => by
  rw [evS, evS] at p
  split at p
  · rename_i n hn
    split at p
    · rename_i l hl
      obtain ⟨v, hv, iv⟩ := L.at_ i _ hn
      cases iv with
      | loc h =>
        obtain ⟨xs, g1, g2⟩ := R.list h hl
        obtain ⟨R1, s1⟩ := R.freeze h hl (fun z => by cases z) g1
        have L1 := L.mono (Ext.cells s1)
        refine ⟨_, r, _, _, R1, ⟨by simpa using L1.len, fun k u hk => ?_⟩, PostS.mono (m := evS Γ b (e.set i (some (.d (.lst l)))) (S.set n .dead)) p (.cells s1)⟩
        rcases set_at hk with ⟨rfl, e1⟩ | ⟨ne, hk⟩
        · cases e1
          exact ⟨_, hv, .d (.lst upd_same (g2.mono s1))⟩
        · exact L1.at_ k u hk
    · exact p.elim
  · exact p.elim

/-! ### loops -/
theorem ds_for {it : E} {g : List Nat} {b : Stm} {tg iter : Expr} {body : List Stmt} (hp : PassesOwn (model X.prog X.w) X.A X.env X.xe) (hc : X.calm = true) (hi : PI X tg iter (rdI G Γ W it)) (hg : PG X tg (rdG G g)) (hb : PSs X body (rdS G Γ W b)) (hpl : plainE iter = true) :
    PS X (.For tg iter body [] pos) (rdS G Γ W (.loop it g b)) := ps_imp (ps_for hp hc hi hg hb (fun x => foldset hpl _ x)) fun D σ H ⟨F, r, S, e, R, L, p⟩ => by
  unfold evS at p
  refine ⟨F, r, S, e, R, L, Post.imp (PostS.inS (Rel := fun F _ J l => ItOk G F J l) p L) fun J H1 ⟨F1, r1, S1, l, e1, R1, q1, p1⟩ => ?_⟩
  refine ⟨fun i m σ H => m = l.length - i ∧ i ≤ l.length ∧ ∃ F' r' S' en, Ext F1 F' r1 r' ∧ Rp G F' r' S' H ∧ Lo G F' r' σ en ∧ PostS G W F' r' (loopS g (evS Γ b) (l.drop i) en S') D,
    ⟨l.length, by simp, Nat.zero_le _, F1, r1, S1, e, .refl, R1, L.mono e1, p1⟩, ?_⟩
  rintro i m σ' H' ⟨rfl, hi, F', r', S', en, x', R', L', p'⟩
  obtain ⟨go, stop⟩ := q1 i F' r' S' H' x'.sub R'
  by_cases hlt : i < l.length
  · obtain ⟨go, yl⟩ := go hlt
    refine .inr ⟨go, fun σ2 H2 => ∃ F2 r2 S2 en2, Ext F1 F2 r1 r2 ∧ Rp G F2 r2 S2 H2 ∧ Lo G F2 r2 σ2 en2 ∧ PostS G W F2 r2 (loopS g (evS Γ b) (l.drop (i + 1)) en2 S2) D, fun σ2 H2 ⟨F2, r2, S2, en2, x2, R2, L2', p2⟩ => ⟨l.length - (i + 1), by omega, rfl, hlt, F2, r2, S2, en2, x2, R2, L2', p2⟩, fun x H2 y => ?_⟩
    obtain ⟨F2, d, s2, R2, ed, ix⟩ := yl x H2 y
    have ed' : l.drop i = d :: l.drop (i + 1) := by
      rw [List.getElem?_eq_getElem hlt] at ed
      rw [List.drop_eq_getElem_cons hlt, Option.some.inj ed]
    rw [ed'] at p'
    unfold loopS at p'
    split at p'
    · exact p'.elim
    · rename_i en1 hb
      refine ⟨F2, r', S', en, .d d, en1, R2, L'.mono (.cells s2), .d ix, by rw [bind_eq]; exact hb, fun σ3 L3 _ => ?_⟩
      have p2 := p'.mono (Ext.cells s2)
      refine ⟨F2, r', S', en1, R2, L3, ?_⟩
      cases q : evS Γ b en1 S' with
      | none => rw [q] at p2; exact p2
      | some z =>
        rw [q] at p2
        cases z with
        | nx en2 S2 => exact fun F3 r3 s3 H3 x3 R3 L3' => ⟨F3, r3, S2, en2, (x'.trans (.cells s2)).trans x3, R3, L3', PostS.mono (m := loopS g (evS Γ b) (l.drop (i + 1)) en2 S2) p2 x3⟩
        | rt u S2 => exact p2
        | ex x en2 S2 => exact p2
  · have e0 : i = l.length := by omega
    subst e0
    rw [List.drop_length] at p'
    unfold loopS at p'
    exact .inl ⟨stop rfl, PostS.nx p' .refl R' L'⟩
theorem ds_while {n : Nat} {t : E} {b : Stm} {et : Expr} {body : List Stmt} (hp : PassesOwn (model X.prog X.w) X.A X.env X.xe) (ht : PT X et (rdT G Γ W t)) (hb : PSs X body (rdS G Γ W b)) :
    PS X (.While et body [] pos) (rdS G Γ W (.whil n t b)) := ps_imp (ps_while hp ht hb) fun D σ H ⟨F, r, S, e, R, L, p⟩ => by
  unfold evS at p
  refine ⟨fun m σ H => ∃ F r S e, Rp G F r S H ∧ Lo G F r σ e ∧ PostS G W F r (whilS (evT Γ t) (evS Γ b) m e S) D, ⟨n, F, r, S, e, R, L, p⟩, ?_⟩
  rintro m σ' H' ⟨F', r', S', e', R', L', p'⟩
  cases m with
  | zero => exact p'.elim
  | succ m =>
    unfold whilS at p'
    refine ⟨F', r', S', e', R', L', Post.imp (PostS.inS (Rel := fun _ _ (b : Bool) c => b = c) p' L') fun k H1 ⟨F1, r1, S1, k', e1, R1, q1, p1⟩ => ?_⟩
    subst q1
    cases k with
    | true =>
      rw [if_pos rfl] at p1
      refine iteT ⟨fun σ2 H2 => ∃ F r S e, Rp G F r S H2 ∧ Lo G F r σ2 e ∧ PostS G W F r (whilS (evT Γ t) (evS Γ b) m e S) D, fun σ2 H2 h2 => ⟨m, Nat.lt_succ_self _, h2⟩, F1, r1, S1, e', R1, L'.mono e1, ?_⟩
      cases q : evS Γ b e' S1 with
      | none => rw [q] at p1; exact p1
      | some z =>
        rw [q] at p1
        cases z with
        | nx en2 S2 => exact fun F3 r3 s3 H3 x3 R3 L3' => ⟨F3, r3, S2, en2, R3, L3', PostS.mono (m := whilS (evT Γ t) (evS Γ b) m en2 S2) p1 x3⟩
        | rt u S2 => exact p1
        | ex x en2 S2 => exact p1
    | false =>
      rw [if_neg Bool.false_ne_true] at p1
      exact iteF (PostS.nx p1 .refl R1 (L'.mono e1))
end
end DL

/-! Fields, defs, calls of any depth. -/
namespace DL
open PySem PySem.Spec L2
open PyProof.Rows hiding St
set_option autoImplicit false
section
variable {G : Gx} {Γ : Ev} {tb : Tb} {c : Sc} {X : Cx} {W : WX} {j : Nat} {pos : Pos}
/-! ### what hangs on the scope alone -/
def envS (sc : Scope) : PySem.Env := { scope := sc, locals := 0, globals := 0, cells := [] }
theorem sw_env (C : Ct G Γ tb c X W j) (ts : List Expr) (v : Expr) : swappedStores ts v X.env = swappedStores ts v (envS c.sc) := by
  rw [← C.sc]; rfl
theorem sw_env2 (C : Ct G Γ tb c X W j) (v : Expr) (t : Option Expr) (l : Nat) : swapsWith v t l X.env = swapsWith v t l (envS c.sc) := by
  rw [← C.sc]; rfl
/-! ### fields -/
theorem isF_put {F H H' : Hp} {x : Str} {y : V} {d : D} (iy : Is G F y d) {vs : List (Str × V)} {fs : List (Str × Fd)} {bs : List Addr} (h : IsF G F H vs fs bs) (hx : ∀ l, fs.lookup x ≠ some (.own l)) (k : ∀ b ∈ bs, ∀ o, H b = some o → H' b = some o) : IsF G F H' (putF x y vs) (putD x (.dat d) fs) bs := by
  induction h with
  | nil => exact .dat iy .nil
  | @dat z v vs d' fs bs h t ih =>
    unfold putF putD
    by_cases e : z = x
    · rw [if_pos e, if_pos e]
      exact .dat iy (t.mono (Same.refl F) fun b o m => k b m o)
    · rw [if_neg e, if_neg e]
      refine .dat h (ih (fun l q => hx l ?_) k)
      rw [List.lookup_cons]
      have : (x == z) = false := by simpa using Ne.symm e
      rw [this]; exact q
  | @own z b xs vs ds fs bs h h2 t ih =>
    unfold putF putD
    have e : z ≠ x := by
      intro e
      subst e
      exact hx ds (by rw [List.lookup_cons]; simp)
    rw [if_neg e, if_neg e]
    refine .own (k _ List.mem_cons_self _ h) h2 (ih (fun l q => hx l ?_) fun b m => k b (List.mem_cons_of_mem _ m))
    rw [List.lookup_cons]
    have : (x == z) = false := by simpa using Ne.symm e
    rw [this]; exact q
theorem put_ins {F : Hp} {r : Pl} {S : Store} {H : Hp} {n k : Nat} {a dx : Addr} {t : List Addr} {fs : List (Str × Fd)} {vs : List (Str × V)} {x : Str} {y : V} {d : D} (R : Rp G F r S H) (h : r[n]? = some (a :: t)) (hs : S[n]? = some (.ins k fs)) (ha : H a = some (.ins (G.cd k) dx vs)) (hf : IsF G F H vs fs t) (iy : Is G F y d) (hx : ∀ l, fs.lookup x ≠ some (.own l)) :
    Rp G F r (S.set n (.ins k (putD x (.dat d) fs))) (upd H a (.ins (G.cd k) dx (putF x y vs))) := by
  obtain ⟨_, nd, _⟩ := R.cel n _ _ h hs (fun z => by cases z)
  exact R.write (H' := upd H a (.ins (G.cd k) dx (putF x y vs))) (c' := .ins k (putD x (.dat d) fs)) h hs (fun z => by cases z) (fun z => by cases z) (fun b hb o q => by rw [upd_ne (by intro z; subst z; exact hb List.mem_cons_self)]; exact q)
    ⟨a, t, dx, _, rfl, upd_same, isF_put iy hf hx fun b m o q => by rw [upd_ne (by intro z; subst z; exact (List.nodup_cons.mp nd).1 m)]; exact q⟩
theorem ins_cell {F : Hp} {r : Pl} {S : Store} {H : Hp} {n k : Nat} {a : Addr} {t : List Addr} {fs : List (Str × Fd)} (R : Rp G F r S H) (h : r[n]? = some (a :: t)) (hs : S[n]? = some (.ins k fs)) : ∃ dx vs, H a = some (.ins (G.cd k) dx vs) ∧ IsF G F H vs fs t := by
  obtain ⟨⟨a', bs, dx, vs, e, h1, h2⟩, _, _⟩ := R.cel _ _ _ h hs (fun z => by cases z)
  cases e
  exact ⟨dx, vs, h1, h2⟩
theorem fld_facts (C : Ct G Γ tb c X W j) {x : Str} (hx : x ∈ tb.flds) {k : Nat} (hk : k < Γ.nc) : Cls X.K (G.cd k) ∧ NoAttr X.K (G.cd k) x := by
  rw [C.wd.nc] at hk
  rw [C.K]
  exact ⟨(C.wd.cl k _ (List.getElem?_eq_getElem hk)).2.1, C.wd.noat k hk x hx⟩
theorem ds_setf (C : Ct G Γ tb c X W j) {o a : E} {eo ea : Expr} {x : Str} {p1 : Pos} (hx : x ∈ tb.flds) (ho : PE X eo (rdE G Γ W o)) (ha : PE X ea (rdE G Γ W a)) (hs : swapsWith ea (some (.Attribute eo x p1)) pos.line X.env = pure false) :
    PS X (.Assign [.Attribute eo x p1] ea pos) (rdS G Γ W (.setf o x a)) := ps_imp (ps_fld ho ha hs) fun D σ H ⟨F, r, S, e, R, L, p⟩ => by
  unfold evS at p
  refine ⟨F, r, S, e, R, L, Post.imp (PostS.inS (Rel := IsU G) p L) fun v H1 ⟨F1, r1, S1, uv, e1, R1, q1, p1⟩ => ?_⟩
  refine ⟨F1, r1, S1, e, R1, L.mono e1, Post.imp (PostS.inS (Rel := IsU G) p1 (L.mono e1)) fun y H2 ⟨F2, r2, S2, uy, e2, R2, q2, p2⟩ => ?_⟩
  cases uy with
  | d _ => exact p2.elim
  | err _ => exact p2.elim
  | loc n =>
  cases uv with
  | loc _ => exact p2.elim
  | err _ => exact p2.elim
  | d d =>
  simp only at p2
  split at p2
  · rename_i k fs hc
    split at p2
    · rename_i hk
      have hno : ∀ l, fs.lookup x ≠ some (.own l) := fun l z => by rw [z] at p2; exact p2.elim
      have p3 : PostS G W F2 r2 (some (.nx e (S2.set n (.ins k (putD x (.dat d) fs))))) D := by
        cases z : fs.lookup x with
        | none => rw [z] at p2; exact p2
        | some f =>
          cases f with
          | dat _ => rw [z] at p2; exact p2
          | own l => exact absurd z (hno l)
      cases q2 with
      | loc h =>
        obtain ⟨dx, vs, g1, g2⟩ := ins_cell R2 h hc
        obtain ⟨f1, f2⟩ := fld_facts C hx hk.1
        have q1' := q1.mono e2
        cases q1' with
        | d q1' => exact ⟨_, _, dx, vs, rfl, g1, f1, f2, by rw [g2.length]; omega, PostS.nx p3 .refl (put_ins R2 h hc g1 g2 q1' hno) ((L.mono e1).mono e2)⟩
    · exact p2.elim
  · exact p2.elim

/-! ### defs -/
/-- a body's own frame -/
structure Ow (X : Cx) : Prop where
  po : PassesOwn (model X.prog X.w) X.A X.env X.xe
  stk : X.stack = X.env :: X.outer
  fr : X.env.frame = some X.env.locals
  ex : X.ex = []
theorem post_fin {m : MS} {F : Hp} {r : Pl} {n : Nat} {E : XK} {Q : VK} (hr : r.length = n) (h : Post G (fun c d _ H' => E c d H') [] (IsU G) F r (fin n m) Q) :
    PostS G (fun c d _ H' => E c d H') F r m { nx := fun _ H' => Q .non H', rt := Q } := by
  cases m with
  | none => exact h
  | some z =>
    cases z with
    | nx e S => exact fun F1 r1 σ1 H1 x1 R1 L1 => h F1 (r1.take n) .non H1 (x1.take n (by omega)) (R1.take n) (.d .non)
    | rt u S =>
      cases u with
      | d d =>
        intro F1 r1 v H1 x1 R1 i1
        cases i1 with
        | d i1 => exact h F1 (r1.take n) v H1 (x1.take n (by omega)) (R1.take n) (.d i1)
      | err _ => exact h.elim
      | loc k =>
        intro F1 r1 v H1 x1 R1 i1
        cases i1 with
        | loc i1 =>
          have h : Post G (fun c d _ H' => E c d H') [] (IsU G) F r (if k < n then some (.ok (.loc k) (S.take n)) else some (.ok (.loc k) S)) Q := h
          split at h
          · rename_i hk
            exact h F1 (r1.take n) _ H1 (x1.take n (by omega)) (R1.take n) (.loc (by rw [List.getElem?_take_of_lt hk]; exact i1))
          · exact h F1 r1 _ H1 x1 R1 (.loc i1)
    | ex x e S => exact fun F1 r1 c d σ1 H1 x1 R1 L1 xi => h F1 (r1.take n) c d H1 (x1.take n (by omega)) (R1.take n) xi
/-- a def's text and its reading -/
structure DefOk (G : Gx) (tb : Tb) (df : Nat → Option Df) (con : Nat → D) (f : Nat) (a : Addr) (fd : FuncData) (ps : List Str) : Prop where
  ex : ∃ (N : List Str) (x qual : Str) (params : Arguments) (body : List Stmt) (scope : Scope) (d : Df), df f = some d ∧ d.nn = N.length ∧ d.np = ps.length ∧ FunD G.K x qual params body scope [] [] a fd ∧ FnScope N ps scope ∧
    ∀ (Γ : Ev) (X : Cx) (W : WX) (j : Nat), Γ.con = con → Γ.nc = tb.cls.length → Ct G Γ tb ⟨N, scope, true⟩ X W j → Ow X → PSs X body (rdS G Γ W d.body)
  bi : Binds G.K fd ps []
/-- a def's text and its reading where an error is handled -/
structure DefH (G : Gx) (tb : Tb) (df : Nat → Option Df) (con : Nat → D) (f : Nat) (a : Addr) (fd : FuncData) (ps : List Str) : Prop where
  ex : ∃ (N : List Str) (x qual : Str) (params : Arguments) (body : List Stmt) (scope : Scope) (d : Df), df f = some d ∧ d.nn = N.length ∧ d.np = ps.length ∧ FunD G.K x qual params body scope [] [] a fd ∧ FnScope N ps scope ∧
    ∀ (p : Addr × Obj) (Γ : Ev) (X : Cx) (W : WX) (j : Nat), Ct (G.hot p) Γ tb.heat ⟨N, scope, true⟩ X W j → Pin X p → PSs X body (rdS (G.hot p) Γ W d.body)
  bi : Binds G.K fd ps []
/-- the text: all that its defs lean on but their promises -/
structure Txt (P : Program) (G : Gx) (tb : Tb) (df : Nat → Option Df) (con : Nat → D) (mg : Str → Option Value) : Prop where
  fn : ∀ (f : Nat) (x : Str), tb.fns[f]? = some ⟨none, x⟩ → ∃ a fd ps, mg x = some (.ref a) ∧ DefOk G tb df con f a fd ps
  mt : ∀ (f c : Nat) (x : Str), tb.fns[f]? = some ⟨some c, x⟩ → c < tb.cls.length → ∃ a fd ps, PySem.W.findIn G.K (.ref (G.cd c)) x = some (some (.ref a)) ∧ PySem.W.isFn G.K (.ref a) = true ∧ DefOk G tb df con f a fd ps
  pr : ∀ (x : Str) (f : Nat), (x, f) ∈ tb.props → ∃ p a fd ps, PropOf G.K (G.cd 0) x p a ∧ DefOk G tb df con f a fd ps
  hfn : ∀ (f : Nat) (x : Str), (f, x) ∈ tb.hfs → ∃ a fd ps, mg x = some (.ref a) ∧ DefH G tb df con f a fd ps
  cl : ∀ (c : Nat) (x : Str), tb.cls[c]? = some x → mg x = some (.ref (G.cd c)) ∧ Cls G.K (G.cd c) ∧ PySem.W.makesIn G.K (G.cd c) = true ∧ PySem.W.keepIn G.K (.ref (G.cd c)) = true
  con : ∀ (k : Nat) (x : Str), tb.cons[k]? = some (some x) → ∃ u v, mg x = some u ∧ RelV v u ∧ ∀ F, Is G F v (con k)
  fr : ∀ x ∈ tb.free, mg x = none
  noat : ∀ c < tb.cls.length, ∀ x ∈ tb.flds, NoAttr G.K (G.cd c) x
  drv : G.dr = true → DrvOk G
  tk : ∀ x ∈ tb.tups, ∀ u v, mg x = some u → RelV v u → TupK G v
  xc : ∀ (k : Nat) (x : Str), tb.xcs[k]? = some (some x) → mg x = some (.ref (G.xc k)) ∧ ∀ n < 8, PySem.W.exmOne G.K (.ref (G.xc n)) (.ref (G.xc k)) = some (decide (n = k))
  x0 : ∀ (k : Nat) (x : Str), (k, x) ∈ tb.xs0 → mg x = some (.ref (G.xc k)) ∧ PySem.W.excIn G.K (G.xc k) He.veBase "ValueError.__new__" = true ∧ PySem.W.keepIn G.K (.ref (G.xc k)) = true ∧ PySem.W.subIn G.K (.ref (G.xc k)) (.type "BaseException") = some true ∧ PySem.W.typeIn G.K (.ref (G.xc k)) = some (.type "type")
  x1 : ∀ (k : Nat) (x : Str) (fs : List Str), (k, x, fs) ∈ tb.xs1 → mg x = some (.ref (G.xc k)) ∧ mg "super" = none ∧ XmOk G.K P (G.xc k) fs
  xf : ∀ (k : Nat) (f : Str), (k, f) ∈ tb.xfs → XfC G.K (G.xc k) ∧ PySem.W.findIn G.K (.ref (G.xc k)) f = some none
  xk : XkOk G tb mg
section
variable {P : Program} {mg : Str → Option Value} {base : Heap} {df : Nat → Option Df} {con : Nat → D}
theorem def_ok {n f : Nat} {a : Addr} {fd : FuncData} {ps : List Str} (h : DefOk G tb df con f a fd ps) (wd : Wd G ⟨run df con tb.cls.length n, con, tb.cls.length⟩ tb P mg base j) :
    FnOk P G.w G.K mg base (L2N.CX P G.w) (j + 2) a fd ps (spU G (run df con tb.cls.length (n + 1) f)) := by
  obtain ⟨N, x, qual, params, body, scope, d, e1, e2, e3, FD, S, hb⟩ := h.ex
  have hlen : ∀ vs H Q E, spU G (run df con tb.cls.length (n + 1) f) vs H Q E → vs.length = ps.length := fun vs H Q E ⟨F, r, S, us, R, hp, p⟩ => by
    unfold run at p
    rw [e1] at p
    simp only at p
    split at p
    · rename_i hl
      rw [Paired.length hp, hl, e3]
    · exact p.elim
  refine FD.ok S hlen fun cdv A outer s H vs Q E hr h => ?_
  obtain ⟨F, r, St, us, R, hp, p⟩ := h
  unfold run at p
  rw [e1] at p
  simp only at p
  split at p
  · rename_i hl
    have C : Ct G ⟨run df con tb.cls.length n, con, tb.cls.length⟩ tb ⟨N, scope, true⟩ (cxOf (L2N.CX P G.w) P G.w G.K mg base N qual scope a cdv A outer s H E) (fun c d _ H' => E c d H') j :=
      ⟨rfl, rfl, rfl, rfl, S.nd, fun _ => rfl, L2N.takes_of rfl rfl rfl rfl, fun _ _ => rfl, fun _ => hr, L2H.roomH_of hr, wd⟩
    refine ⟨_, hb _ _ _ _ rfl rfl C ⟨PassesOwn.leaving, rfl, rfl, rfl⟩, F, r, St, start0 d us, R, Lo.start e2 hp, ?_⟩
    exact post_fin R.len p
  · exact p.elim
theorem def_0 {f : Nat} {a : Addr} {fd : FuncData} {ps : List Str} : FnOk P G.w G.K mg base (L2N.CX P G.w) j a fd ps (spU G (run df con tb.cls.length 0 f)) :=
  ⟨fun vs H Q E ⟨F, r, S, us, R, hp, p⟩ => by unfold run at p; exact p.elim, fun A outer s H args us vs Q E hr he hb hv ⟨F, r, S, us', R, hp, p⟩ => by unfold run at p; exact p.elim⟩
open L2H in
theorem def_okH {n f : Nat} {a : Addr} {fd : FuncData} {ps : List Str} (h : DefH G tb df con f a fd ps) (wd : Wd G ⟨run df con tb.cls.length n, con, tb.cls.length⟩ tb P mg base j) :
    DH.FnP P G.w G.K mg base (L2N.CX P G.w) (j + 2) a fd ps (fun p => spU (G.hot p) (run df con tb.cls.length (n + 1) f)) := by
  obtain ⟨N, x, qual, params, body, scope, d, e1, e2, e3, FD, S, hb⟩ := h.ex
  have hlen : ∀ p vs H Q E, spU (G.hot p) (run df con tb.cls.length (n + 1) f) vs H Q E → vs.length = ps.length := fun p vs H Q E ⟨F, r, S, us, R, hp, p⟩ => by
    unfold run at p
    rw [e1] at p
    simp only at p
    split at p
    · rename_i hl
      rw [Paired.length hp, hl, e3]
    · exact p.elim
  obtain ⟨oc, od, dV, kV, doc, pm, an, cdv, ct, osl, rfl, lk, hcd, _, _⟩ := FD.ex
  refine DH.fn_ofP lk hcd S hlen fun A outer s H vs Q E p hot hr h => ?_
  obtain ⟨F, r, St, us, R, hp, q⟩ := h
  unfold run at q
  rw [e1] at q
  simp only at q
  split at q
  · rename_i hl
    have C : Ct (G.hot p) ⟨run df con tb.cls.length n, con, tb.cls.length⟩ tb.heat ⟨N, scope, true⟩ (cxH (L2N.CX P G.w) P G.w G.K mg base N qual scope a cdv A outer s H E p) (fun c d _ H' => E c d H') j :=
      ⟨rfl, rfl, rfl, rfl, S.nd, fun h => absurd h (by simp), L2N.takes_of rfl rfl rfl rfl, fun _ _ => rfl, fun h => absurd h (by simp), hr, wd.heat⟩
    refine ⟨_, hb p _ _ _ _ C ⟨hot, List.mem_cons_self⟩, F, r, St, start0 d us, R, Lo.start e2 hp, ?_⟩
    exact post_fin (G := G.hot p) R.len q
  · exact q.elim
theorem def_0H {f : Nat} {a : Addr} {fd : FuncData} {ps : List Str} : DH.FnP P G.w G.K mg base (L2N.CX P G.w) j a fd ps (fun p => spU (G.hot p) (run df con tb.cls.length 0 f)) :=
  ⟨fun p vs H Q E ⟨F, r, S, us, R, hp, p⟩ => by unfold run at p; exact p.elim, fun A outer s H args us vs Q E p _ _ _ he hb hv ⟨F, r, S, us', R, hp, p⟩ => by unfold run at p; exact p.elim⟩
theorem keepH {f : Nat} {a : Addr} {fd : FuncData} {ps : List Str} (h : DefH G tb df con f a fd ps) : PySem.W.keepIn G.K (.ref a) = true := by
  obtain ⟨N, x, qual, params, body, scope, d, e1, e2, e3, FD, S, hb⟩ := h.ex
  exact FD.kp
theorem keep_of {f : Nat} {a : Addr} {fd : FuncData} {ps : List Str} (h : DefOk G tb df con f a fd ps) : PySem.W.keepIn G.K (.ref a) = true := by
  obtain ⟨N, x, qual, params, body, scope, d, e1, e2, e3, FD, S, hb⟩ := h.ex
  exact FD.kp
theorem wd_of (T : Txt P G tb df con mg) : ∀ n : Nat, Wd G ⟨run df con tb.cls.length n, con, tb.cls.length⟩ tb P mg base (2 * n)
  | 0 => {
      fn := fun f x h => let ⟨a, fd, ps, h1, h2⟩ := T.fn f x h; ⟨a, fd, ps, h1, keep_of h2, h2.bi, def_0 (f := f) (df := df) (con := con) (tb := tb)⟩
      mt := fun f c x h hc => let ⟨a, fd, ps, h1, h2, h3⟩ := T.mt f c x h hc; ⟨a, fd, ps, h1, h2, keep_of h3, h3.bi, def_0 (f := f) (df := df) (con := con) (tb := tb)⟩
      pr := fun x f h => let ⟨p, a, fd, ps, h1, h2⟩ := T.pr x f h; ⟨p, a, fd, ps, h1, h2.bi, def_0 (f := f) (df := df) (con := con) (tb := tb)⟩
      cl := T.cl
      nc := rfl
      con := T.con
      fr := T.fr
      noat := T.noat
      drv := T.drv
      tk := T.tk
      xc := T.xc
      x0 := T.x0
      x1 := T.x1
      xf := T.xf
      hfn := fun f x h => let ⟨a, fd, ps, h1, h2⟩ := T.hfn f x h; ⟨a, fd, ps, h1, keepH h2, h2.bi, def_0H (f := f) (df := df) (con := con) (tb := tb)⟩
      xk := T.xk }
  | n + 1 => {
      fn := fun f x h => let ⟨a, fd, ps, h1, h2⟩ := T.fn f x h; ⟨a, fd, ps, h1, keep_of h2, h2.bi, def_ok h2 (wd_of T n)⟩
      mt := fun f c x h hc => let ⟨a, fd, ps, h1, h2, h3⟩ := T.mt f c x h hc; ⟨a, fd, ps, h1, h2, keep_of h3, h3.bi, def_ok h3 (wd_of T n)⟩
      pr := fun x f h => let ⟨p, a, fd, ps, h1, h2⟩ := T.pr x f h; ⟨p, a, fd, ps, h1, h2.bi, def_ok h2 (wd_of T n)⟩
      cl := T.cl
      nc := rfl
      con := T.con
      fr := T.fr
      noat := T.noat
      drv := T.drv
      tk := T.tk
      xc := T.xc
      x0 := T.x0
      x1 := T.x1
      xf := T.xf
      hfn := fun f x h => let ⟨a, fd, ps, h1, h2⟩ := T.hfn f x h; ⟨a, fd, ps, h1, keepH h2, h2.bi, def_okH h2 (wd_of T n)⟩
      xk := T.xk }
end
end
end DL

/-! The head: what is read of the module, properties too. -/
namespace DL
open PySem PySem.Spec L2
open PyProof.Rows hiding St
set_option autoImplicit false

/-- the getter of the property f of the class C -/
def gPr (K : PySem.W.Frag) (C f : Str) : Addr := match PySem.W.findIn K (.ref (He.ga K C)) f with
  | some (some (.ref p)) => p
  | _ => 0
def gAd (K : PySem.W.Frag) (C f : Str) : Addr := match PySem.W.recIn K (gPr K C f) "property" with
  | some (.ref g :: _) => g
  | _ => 0
/-- a def at an address -/
def fnA (K : PySem.W.Frag) (a : Addr) : He.FnW := match K.lookup a with
  | some ⟨_, _, .func fd, _⟩ => some (fd.name, fd.qualname, fd.params, fd.body, fd.scope, fd.globals, fd.closure, fd.builtins)
  | _ => none
def okA (K : PySem.W.Frag) (a : Addr) (d : He.DefD) : Bool := PySem.W.keepIn K (.ref a) && (match K.lookup a with
  | some ⟨_, _, .func fd, _⟩ => PySem.W.codeIn K fd.code d.qual && (He.dflB K fd.defaults (d.dvs K) && He.kwdB K fd.kwdefaults (d.kws K))
  | _ => false)
theorem funA {K : PySem.W.Frag} {a : Addr} {d : He.DefD} (e : fnA K a = d.val) (c : okA K a d = true) : ∃ fd, FunD K d.name d.qual d.params d.body d.scope (d.dvs K) (d.kws K) a fd := by
  obtain ⟨kp, c2⟩ := He.ba c
  unfold fnA at e
  cases q : K.lookup a with
  | none => rw [q] at c2; cases c2
  | some o =>
    obtain ⟨oc, od, dt, osl⟩ := o
    rw [q] at c2 e
    cases dt with
    | func fd =>
      obtain ⟨n1, n2, n3, n4, n5, n6, n7, n8, n9, n10, n11, n12, n13, n14, n15⟩ := fd
      have e2 : (some (n1, n2, n3, n4, n5, n6, n7, n15) : He.FnW) = some (d.name, d.qual, d.params, .stmts d.body, d.scope, mainGlobals, [], builtinsNs) := e
      simp only [Option.some.injEq, Prod.mk.injEq] at e2
      obtain ⟨h1, h2, h3, h4, h5, h6, h7, h8⟩ := e2
      subst h1 h2 h3 h4 h5 h6 h7 h8
      have c3 : (PySem.W.codeIn K n13 d.qual && (He.dflB K n8 (d.dvs K) && He.kwdB K n9 (d.kws K))) = true := c2
      obtain ⟨k1, k2⟩ := He.ba c3
      obtain ⟨k3, k4⟩ := He.ba k2
      exact ⟨_, ⟨oc, od, n8, n9, n10, n11, n12, n13, n14, osl, rfl, q, k1, He.dflB_ok k3, He.kwdB_ok k4⟩, kp⟩
    | _ => cases c2
/-- a property: its class, its name, its getter -/
structure PrD where
  cls : Str
  name : Str
  d : He.DefD
def PrD.ok (K : PySem.W.Frag) (p : PrD) : Bool := decide (PySem.W.findIn K (.ref (He.ga K p.cls)) p.name = some (some (.ref (gPr K p.cls p.name)))) && (decide (PySem.W.specialIn K (.ref (gPr K p.cls p.name)) "__get__" = some (some (.builtin "property.__get__"))) &&
  (decide (PySem.W.takesIn K (.ref (gPr K p.cls p.name)) = some true) && ((match PySem.W.recIn K (gPr K p.cls p.name) "property" with
    | some (.ref _ :: _) => true
    | _ => false) && okA K (gAd K p.cls p.name) p.d)))
/-- a dict of the module: texts to whole numbers -/
def kmB (K : PySem.W.Frag) (x : Str) (kvs : List (Str × Int)) : Bool := match K.lookup (He.ga K x) with
  | some ⟨_, _, .dict es _, _⟩ => decide (es.toList.map (fun e => match e.key, e.val with
    | .str k _, .int i _ => some (k, i)
    | _, _ => none) = kvs.map some)
  | _ => false
/-- what isinstance says of the class C -/
def drvB (K : PySem.W.Frag) (C : Str) : Bool :=
  decide (PySem.W.findIn K (.ref (He.ga K C)) "__class__" = some (some (.builtin "object.__class__"))) && (decide (PySem.W.specialIn K (.builtin "object.__class__") "__get__" = some (some (.builtin "getset_descriptor.__get__"))) &&
  (decide (PySem.W.takesIn K (.builtin "object.__class__") = some true) && (decide (PySem.W.mroIn K (He.ga K C) (.type "object") = some true) && (decide (PySem.W.kitOne K (.ref (He.ga K C)) (.ref (He.ga K C)) = some true) &&
  ((["int", "bool", "str", "tuple", "list", "dict"].all fun n => decide (PySem.W.kitOne K (.ref (He.ga K C)) (.type n) = some false)) &&
   (["NoneType", "int", "bool", "str", "tuple", "list", "dict"].all fun n => decide (PySem.W.kitOne K (.type n) (.ref (He.ga K C)) = some false)))))))
/-- an own exception class with fields: its __init__, its parameters, the text's file -/
structure XiD where
  cls : Str
  d : He.DefD
  fs : List Str
  file : Str
abbrev FnX : Type := Option (Str × Str × Arguments × FuncBody × Scope × Addr × List Str × Addr)
def fnX (K : PySem.W.Frag) (a : Addr) : FnX := match K.lookup a with
  | some ⟨_, _, .func fd, _⟩ => some (fd.name, fd.qualname, fd.params, fd.body, fd.scope, fd.globals, fd.closure.map (·.1), fd.builtins)
  | _ => none
def XiD.val (p : XiD) : FnX := some (p.d.name, p.d.qual, p.d.params, .stmts p.d.body, p.d.scope, mainGlobals, ["__class__"], builtinsNs)
def xiA (K : PySem.W.Frag) (p : XiD) : Addr := He.ma K (He.ga K p.cls) "__init__"
/-- the class itself -/
def oexB (K : PySem.W.Frag) (C : Addr) : Bool := (match K.lookup C with
  | some ⟨.type "type", _, .cls cd, sl⟩ => (match cd.mro, sl.toList with
    | .ref C' :: bm, [_, _, _, _, some (.builtin n), _] => C' == C && (n == "ValueError.__new__" && (!cd.hasDel && (PySem.HandSPX.refsVE bm && cd.hasDict)))
    | _, _ => false)
  | _ => false) && (decide (PySem.W.findIn K (.ref C) "__setattr__" = some (some (.builtin "object.__setattr__"))) && (decide (PySem.W.subIn K (.ref C) (.type "BaseException") = some true) && (decide (PySem.W.typeIn K (.ref C) = some (.type "type")) && PySem.W.keepIn K (.ref C))))
theorem oexB_ok {K : PySem.W.Frag} {C : Addr} (h : oexB K C = true) : OexC K C := by
  obtain ⟨h1, h⟩ := He.ba h
  obtain ⟨h2, h⟩ := He.ba h
  obtain ⟨h3, h⟩ := He.ba h
  obtain ⟨h4, h5⟩ := He.ba h
  refine ⟨?_, of_decide_eq_true h2, of_decide_eq_true h3, of_decide_eq_true h4, h5⟩
  split at h1
  · rename_i dd cd sl hl
    split at h1
    · rename_i C' bm k0 k1 k2 k3 n k5 hm hs
      obtain ⟨g1, h1⟩ := He.ba h1
      obtain ⟨g2, h1⟩ := He.ba h1
      obtain ⟨g3, h1⟩ := He.ba h1
      obtain ⟨g4, g5⟩ := He.ba h1
      obtain ⟨nm, bs, mro, ns, qn, hd, sn, sub, ab, col, del⟩ := cd
      dsimp only at hm g3 g5
      obtain rfl : hd = true := g5
      obtain rfl : del = false := by simpa using g3
      obtain rfl : C' = C := beq_iff_eq.mp g1
      obtain rfl : n = "ValueError.__new__" := beq_iff_eq.mp g2
      subst hm
      have hsl : sl = #[k0, k1, k2, k3, some (.builtin "ValueError.__new__"), k5] := by
        obtain ⟨l⟩ := sl
        simp only at hs
        rw [hs]
      subst hsl
      exact ⟨nm, qn, ns, bs, bm, sn, sub, ab, col, dd, k0, k1, k2, k3, k5, hl, g4⟩
    · cases h1
  · cases h1
/-- where the code stands, the cell of the class -/
def codB (K : PySem.W.Frag) (C : Addr) (file qual : Str) (a : Addr) : Bool := match K.lookup a with
  | some ⟨_, _, .func fd, _⟩ => (match fd.defaults with
    | .none => true
    | _ => false) && PySem.W.codeIn K fd.code qual && ((match fd.code with
    | .ref cda => (match K.lookup cda with
      | some ⟨_, _, .fields vs, _⟩ => (match vs[2]? with
        | some (Value.str f _) => file == f
        | _ => false)
      | _ => false)
    | _ => false) && (match fd.closure with
    | [(_, cc)] => (match K.lookup cc with
      | some ⟨_, _, .cell (some (.ref D)), _⟩ => D == C
      | _ => false)
    | _ => false))
  | _ => false
def XiD.ok (K : PySem.W.Frag) (p : XiD) : Bool :=
  decide (PySem.W.findIn K (.ref (He.ga K p.cls)) "__init__" = some (some (.ref (xiA K p)))) && (decide (PySem.W.typeIn K (.ref (xiA K p)) = some (.type "function")) && (codB K (He.ga K p.cls) p.file p.d.qual (xiA K p) && ((match PySem.W.clsIn K (He.ga K p.cls) with
    | some cd => decide (PySem.W.alongIn K "__init__" ((cd.mro.dropWhile (· != .ref (He.ga K p.cls))).drop 1) = some (some (.builtin "ValueError.__init__")))
    | none => false) && (oexB K (He.ga K p.cls) && (decide (PySem.W.subIn K (.ref (He.ga K p.cls)) (.type "ValueError") = some true) && (decide (PySem.W.mroIn K (He.ga K p.cls) (.ref (He.ga K p.cls)) = some true) && (decide (PySem.W.nsIn K cStatics "thirdparty.any" = some none) &&
    (p.fs.all fun f => decide (PySem.W.findIn K (.ref (He.ga K p.cls)) f = some none)))))))))
/-- all that is looked at -/
abbrev AlY : Type := He.AlT × Bool × List He.FnW × List FnX
def obsY (fa : List He.Fa) (fn : List He.DefD) (ts : List He.Tab) (ps : List PrD) (xs : List XiD) (ex : PySem.W.Frag → Bool) (K : PySem.W.Frag) : AlY := (He.obsT fa fn ts K, ex K && (ps.all (PrD.ok K) && xs.all (XiD.ok K)), ps.map fun p => fnA K (gAd K p.cls p.name), xs.map fun p => fnX K (xiA K p))
def valY (fn : List He.DefD) (ts : List He.Tab) (ps : List PrD) (xs : List XiD) (w : World) : AlY := (He.valT fn ts w, true, ps.map fun p => p.d.val, xs.map XiD.val)
structure SaysY (fa : List He.Fa) (fn : List He.DefD) (ts : List He.Tab) (ps : List PrD) (xs : List XiD) (ex : PySem.W.Frag → Bool) (w : World) (K : PySem.W.Frag) : Prop where
  t : He.SaysT fa fn ts w K
  more : ex K = true
  pr : ∀ (i : Nat) (p : PrD), ps[i]? = some p → p.ok K = true ∧ fnA K (gAd K p.cls p.name) = p.d.val
  xi : ∀ (i : Nat) (p : XiD), xs[i]? = some p → p.ok K = true ∧ fnX K (xiA K p) = p.val
theorem saysY_of {fa : List He.Fa} {fn : List He.DefD} {ts : List He.Tab} {ps : List PrD} {xs : List XiD} {ex : PySem.W.Frag → Bool} {w : World} {K : PySem.W.Frag} (e : obsY fa fn ts ps xs ex K = valY fn ts ps xs w) : SaysY fa fn ts ps xs ex w K := by
  have e1 : He.obsT fa fn ts K = He.valT fn ts w := congrArg (fun z : AlY => z.1) e
  have e2 : (ex K && (ps.all (PrD.ok K) && xs.all (XiD.ok K))) = true := congrArg (fun z : AlY => z.2.1) e
  have e3 : ps.map (fun p => fnA K (gAd K p.cls p.name)) = ps.map fun p => p.d.val := congrArg (fun z : AlY => z.2.2.1) e
  have e5 : xs.map (fun p => fnX K (xiA K p)) = xs.map XiD.val := congrArg (fun z : AlY => z.2.2.2) e
  obtain ⟨h1, h2⟩ := He.ba e2
  obtain ⟨h2, h3⟩ := He.ba h2
  refine ⟨e1, h1, fun i p hp => ⟨List.all_eq_true.mp h2 p (List.mem_of_getElem? hp), ?_⟩, fun i p hp => ⟨List.all_eq_true.mp h3 p (List.mem_of_getElem? hp), ?_⟩⟩
  · have e4 : (ps.map fun p => fnA K (gAd K p.cls p.name))[i]? = (ps.map fun p => p.d.val)[i]? := by rw [e3]
    rw [List.getElem?_map, List.getElem?_map, hp] at e4
    exact Option.some.inj e4
  · have e4 : (xs.map fun p => fnX K (xiA K p))[i]? = (xs.map XiD.val)[i]? := by rw [e5]
    rw [List.getElem?_map, List.getElem?_map, hp] at e4
    exact Option.some.inj e4
def obsYG (n : Nat) (fa : List He.Fa) (fn : List He.DefD) (ts : List He.Tab) (ps : List PrD) (xs : List XiD) (ex : PySem.W.Frag → Bool) (g : Addr → Option Obj) : AlY := obsY fa fn ts ps xs ex (He.frG g (cStatics :: He.asD g n))
def hookY (n : Nat) (fa : List He.Fa) (fn : List He.DefD) (ts : List He.Tab) (ps : List PrD) (xs : List XiD) (ex : PySem.W.Frag → Bool) : PySem.W.Hook where
  α := AlY
  obs := fun s => obsYG n fa fn ts ps xs ex s.heap.get?
  val := fun w => valY fn ts ps xs w
  says := fun w h => ∃ K : PySem.W.Frag, K.In h ∧ SaysY fa fn ts ps xs ex w K
  of := fun _ _ e => ⟨_, He.frG_in, saysY_of e⟩
  keeps := fun _ _ _ ⟨K, hK, c⟩ k => ⟨K, PySem.W.Frag.In.keeps hK k, c⟩
theorem obsYG_eq {n : Nat} {fa : List He.Fa} {fn : List He.DefD} {ts : List He.Tab} {ps : List PrD} {xs : List XiD} {ex : PySem.W.Frag → Bool} {g : Addr → Option Obj} {s : Shared} (h : ∀ a, g a = s.heap.get? a) : obsYG n fa fn ts ps xs ex g = (hookY n fa fn ts ps xs ex).obs s := by
  have e : g = s.heap.get? := funext h
  rw [e] <;> rfl
/-- the text of an __init__ -/
def txOf : List Stmt → DX.XTx
  | .Expr (.Call (.Attribute (.Call (.Name _ p0) _ _ p1) _ p2) [.Constant (.str m) k p3] _ p4) p5 :: _ => ⟨m, k, p0, p1, p2, p3, p4, p5⟩
  | _ => ⟨"", 0, ⟨0, 0, 0, 0⟩, ⟨0, 0, 0, 0⟩, ⟨0, 0, 0, 0⟩, ⟨0, 0, 0, 0⟩, ⟨0, 0, 0, 0⟩, ⟨0, 0, 0, 0⟩⟩
def ftOf : List Stmt → List DX.FTx
  | [] => []
  | .Assign [.Attribute (.Name _ q0) f q1] (.Name _ q2) q3 :: r => ⟨f, q0, q1, q2, q3⟩ :: ftOf r
  | _ :: r => ftOf r
/-- what the scope says -/
def scB (scope : Scope) (fs : List Str) : Bool := decide (scope.kind = .function) && (!scope.isCoroutine && (!scope.isGenerator && ((scope.names.all fun x => decide (x.2 ≠ .cell)) && (decide (scope.names.lookup ("super" : Str) = some .globalImplicit) && (decide (scope.names.lookup ("__class__" : Str) = some .free) &&
  (decide (scope.names.lookup ("self" : Str) = some .local) && (fs.all fun f => decide (scope.names.lookup f = some .local) && !(f == ("__debug__" : Str)))))))))
theorem xm_of {K : PySem.W.Frag} {P : Program} {p : XiD} {ar : Arg} (h : p.ok K = true) (e : fnX K (xiA K p) = p.val) (hb : p.d.body = (txOf p.d.body).stm :: (ftOf p.d.body).map DX.FTx.stm) (hfs : (ftOf p.d.body).map DX.FTx.f = p.fs) (hsc : scB p.d.scope p.fs = true) (hfile : (P.main.file : Str) = p.file) (htop : (P.main.scope.names.lookup ("super" : Str)).isSome = false)
    (hp : (p.d.params.posonlyargs ++ p.d.params.args).head? = some ar) (har : ar.arg = "self")
    (hcall : ∀ (f L cda cc : Addr), (txOf p.d.body).plain (PySem.W.ksEnv p.d.qual p.d.scope L f (.ref cda) cc))
    (hbind : ∀ (kV doc pm : Value) (an : Option Addr) (cda : Addr) (ct : Value) (cc : Addr) (us : List Value), us.length = p.fs.length + 1 → bindArgs (PySem.W.ksFn p.d.name p.d.qual p.d.params p.d.body p.d.scope .none kV doc pm an (.ref cda) ct cc) ⟨us, []⟩ = pure ((("self" : Str) :: p.fs).zip us))
    (h2 : (∃ f, ftOf p.d.body = [f] ∧ f.f ≠ "self") ∨ ∃ f f2, ftOf p.d.body = [f, f2] ∧ f.f ≠ "self" ∧ f2.f ≠ "self" ∧ f2.f ≠ f.f) : XmOk K P (He.ga K p.cls) p.fs := by
  obtain ⟨a1, h⟩ := He.ba h
  obtain ⟨a2, h⟩ := He.ba h
  obtain ⟨a3, h⟩ := He.ba h
  obtain ⟨a4, h⟩ := He.ba h
  obtain ⟨a5, h⟩ := He.ba h
  obtain ⟨a6, h⟩ := He.ba h
  obtain ⟨a7, h⟩ := He.ba h
  obtain ⟨a8, a9⟩ := He.ba h
  obtain ⟨s1, hsc⟩ := He.ba hsc
  obtain ⟨s2, hsc⟩ := He.ba hsc
  obtain ⟨s3, hsc⟩ := He.ba hsc
  obtain ⟨s4, hsc⟩ := He.ba hsc
  obtain ⟨s5, hsc⟩ := He.ba hsc
  obtain ⟨s6, hsc⟩ := He.ba hsc
  obtain ⟨s7, s8⟩ := He.ba hsc
  refine ⟨xiA K p, p.d.name, p.d.qual, p.d.params, p.d.scope, txOf p.d.body, ftOf p.d.body, ?_, hfs, h2⟩
  refine ⟨oexB_ok a5, of_decide_eq_true a1, of_decide_eq_true a2, ?_, of_decide_eq_true a6, of_decide_eq_true a7, of_decide_eq_true a8, htop, fun x hx => ?_, hcall _, of_decide_eq_true s1, by simpa using s2, by simpa using s3, fun x hx => of_decide_eq_true (List.all_eq_true.mp s4 x hx), of_decide_eq_true s5, of_decide_eq_true s6, of_decide_eq_true s7, fun x hx => ?_⟩
  · unfold codB at a3
    unfold fnX at e
    split at a3
    · rename_i oc od fd osl hl
      rw [hl] at e
      obtain ⟨n1, n2, n3, n4, n5, n6, n7, n8, n9, n10, n11, n12, n13, n14, n15⟩ := fd
      have e2 : (some (n1, n2, n3, n4, n5, n6, n7.map (·.1), n15) : FnX) = some (p.d.name, p.d.qual, p.d.params, FuncBody.stmts p.d.body, p.d.scope, mainGlobals, [("__class__" : Str)], builtinsNs) := e
      simp only [Option.some.injEq, Prod.mk.injEq] at e2
      obtain ⟨q1, q2, q3, q4, q5, q6, q7, q8⟩ := e2
      subst q1 q2 q3 q4 q5 q6 q8
      obtain ⟨b0, a3⟩ := He.ba a3
      obtain ⟨b0, b1⟩ := He.ba b0
      obtain ⟨b2, b3⟩ := He.ba a3
      simp only at b0 b1 b2 b3
      have e8 : n8 = Value.none := by
        cases n8 <;> first | rfl | cases b0
      subst e8
      split at b2
      · rename_i cda hq0
        split at b2
        · rename_i ccl cdd vs ccs hcd
          split at b2
          · rename_i file tf hvs
            split at b3
            · rename_i nm cc
              split at b3
              · rename_i cl cld D csl hcc
                obtain rfl : D = He.ga K p.cls := beq_iff_eq.mp b3
                have hnm : nm = "__class__" := by simpa using q7
                subst hnm
                cases hcls : PySem.W.clsIn K (He.ga K p.cls) with
                | none => rw [hcls] at a4; cases a4
                | some cd =>
                  rw [hcls] at a4
                  refine ⟨oc, od, .none, n9, n10, n11, n12, cda, n14, cc, osl, ccl, cdd, vs, ccs, file, tf, cl, cld, csl, cd, ar, ?_, b1, hcd, hvs, by rw [hfile]; exact b2, hcc, rfl, of_decide_eq_true a4, hp, har, fun us hu => ?_⟩
                  · rw [← hb]; exact hl
                  · rw [← hb, hfs]
                    exact hbind _ _ _ _ _ _ _ us (by rw [hu, ← hfs, List.length_map])
              · cases b3
            · cases b3
          · cases b2
        · cases b2
      · cases b2
    · cases a3
  · have := List.all_eq_true.mp a9 x.f (by rw [← hfs]; exact List.mem_map_of_mem hx)
    exact of_decide_eq_true this
  · have := List.all_eq_true.mp s8 x.f (by rw [← hfs]; exact List.mem_map_of_mem hx)
    obtain ⟨k1, k2⟩ := He.ba this
    exact ⟨of_decide_eq_true k1, by simpa using k2⟩
section
variable {fa : List He.Fa} {fn : List He.DefD} {ts : List He.Tab} {ps : List PrD} {xs : List XiD} {ex : PySem.W.Frag → Bool} {w : World} {K : PySem.W.Frag}
theorem SaysY.prop (c : SaysY fa fn ts ps xs ex w K) (i : Nat) {p : PrD} (h : ps[i]? = some p) : PropOf K (He.ga K p.cls) p.name (gPr K p.cls p.name) (gAd K p.cls p.name) ∧ ∃ fd, FunD K p.d.name p.d.qual p.d.params p.d.body p.d.scope (p.d.dvs K) (p.d.kws K) (gAd K p.cls p.name) fd := by
  obtain ⟨h1, h2⟩ := c.pr i p h
  obtain ⟨a1, h1⟩ := He.ba h1
  obtain ⟨a2, h1⟩ := He.ba h1
  obtain ⟨a3, h1⟩ := He.ba h1
  obtain ⟨a4, h1⟩ := He.ba h1
  refine ⟨⟨of_decide_eq_true a1, of_decide_eq_true a2, of_decide_eq_true a3, ?_⟩, funA h2 h1⟩
  cases q : PySem.W.recIn K (gPr K p.cls p.name) "property" with
  | none => rw [q] at a4; cases a4
  | some l =>
    rw [q] at a4
    cases l with
    | nil => cases a4
    | cons v l =>
      cases v <;> first | cases a4 | skip
      refine ⟨l, ?_⟩
      unfold gAd
      rw [q]
theorem drv_of {C : Str} {G : Gx} (hK : G.K = K) (hC : G.cd 0 = He.ga K C) (cl : Cls K (He.ga K C)) (h : drvB K C = true) : DrvOk G := by
  obtain ⟨a1, h⟩ := He.ba h
  obtain ⟨a2, h⟩ := He.ba h
  obtain ⟨a3, h⟩ := He.ba h
  obtain ⟨a4, h⟩ := He.ba h
  obtain ⟨a5, h⟩ := He.ba h
  obtain ⟨a6, a7⟩ := He.ba h
  constructor <;> rw [hK]
  · rw [hC]; exact cl
  · rw [hC]; exact of_decide_eq_true a1
  · exact of_decide_eq_true a2
  · exact of_decide_eq_true a3
  · rw [hC]; exact of_decide_eq_true a4
  · rw [hC]; exact of_decide_eq_true a5
  · rw [hC]; exact fun n hn => of_decide_eq_true (List.all_eq_true.mp a6 n hn)
  · rw [hC]; exact fun n hn => of_decide_eq_true (List.all_eq_true.mp a7 n hn)
theorem km_ok {G : Gx} {x : Str} {kvs : List (Str × Int)} (hK : G.K = K) (hd : ∃ es n, KDict K G.w (He.ga K x) es n) (h : kmB K x kvs = true) : KMap G (He.ga K x) (kvs.map fun p => (p.1, D.int p.2)) := by
  obtain ⟨es, n, kd⟩ := hd
  refine ⟨es, n, by rw [hK]; exact kd, fun z => ?_⟩
  rw [hK]
  unfold kmB at h
  unfold PySem.W.nsIn
  split at h
  · rename_i oc od es' n' osl hl
    rw [hl]
    simp only
    replace h := of_decide_eq_true h
    clear hl kd
    generalize es'.toList = l at h
    induction kvs generalizing l with
    | nil =>
      have : l = [] := by simpa using h
      subst this
      simp
    | cons p kvs ih =>
      cases l with
      | nil => cases h
      | cons e l =>
        rw [List.map_cons, List.map_cons] at h
        obtain ⟨h1, h2⟩ := List.cons.inj h
        have ih := ih l h2
        split at h1
        · rename_i k t i t' ek ev
          have e1 := Option.some.inj h1
          rw [List.map_cons, List.lookup_cons, List.find?_cons, ek]
          rw [← e1]
          by_cases q : k = z
          · subst q
            have : (Value.str k t).isStr k = true := by simp [Value.isStr]
            rw [this]
            simp only [beq_self_eq_true]
            exact ⟨t', by rw [ev]⟩
          · have q1 : (Value.str k t).isStr z = false := by simp [Value.isStr, q]
            have q2 : (z == k) = false := by simpa using Ne.symm q
            rw [q1, q2]
            simp only
            have q3 : e.refKey = false := by unfold DictEntry.refKey; rw [ek]
            rw [List.any_cons, q3, Bool.false_or]
            exact ih
        · cases h1
  · cases h
theorem tup_ok {G : Gx} {x : Str} {xs : List Str} (hK : G.K = K) (h : He.tupB K x (xs.map He.Dv.str) = true) (F : Hp) : Is G F (.ref (He.ga K x)) (.tup (xs.map D.str)) := by
  have := He.tupB_ok h F
  rw [← hK] at this ⊢
  refine .tup this ?_
  rw [List.map_map]
  exact IsL.of_strs xs
end
end DL
namespace DL
open PySem PySem.Spec L2
set_option autoImplicit false
def tkB (K : PySem.W.Frag) (x : Str) : Bool := match K.lookup (He.ga K x) with
  | some ⟨.type c, none, _, _⟩ => decide (c = "tuple")
  | _ => false
theorem tk_of {K : PySem.W.Frag} {G : Gx} {mg : Str → Option Value} {x : Str} (hK : G.K = K) (hm : mg x = some (.ref (He.ga K x))) (h : tkB K x = true) : ∀ u v, mg x = some u → RelV v u → TupK G v := fun u v h1 h2 => by
  rw [hm] at h1
  cases h1
  have e : v = .ref (He.ga K x) := by
    cases v <;> first | (obtain ⟨t, z⟩ := h2; cases z; done) | (cases h2; done) | (cases h2; rfl) | skip
  subst e
  unfold tkB at h
  split at h
  · rename_i c dt sl hl
    exact ⟨_, _, rfl, by rw [hK]; exact hl, by rw [of_decide_eq_true h], rfl⟩
  · cases h
theorem fact_mem {fa : List He.Fa} {fn : List He.DefD} {K : PySem.W.Frag} (c : He.SaysD fa fn K) {f : He.Fa} (h : f ∈ fa) : f.ok K = true := by
  obtain ⟨i, hi, e⟩ := List.mem_iff_getElem.mp h
  exact c.fact i (f := f) (by rw [List.getElem?_eq_getElem hi, e])
/-- the body of a class, of a def -/
def clsBody : Stmt → List Stmt
  | .ClassDef (body := b) .. => b
  | _ => []
end DL
namespace DL
open PySem PySem.Spec L2
open PyProof.Rows hiding St
set_option autoImplicit false
/-- a promise under which nothing is raised, by itself -/
theorem fn_calm {P : Program} {w : World} {K : PySem.W.Frag} {mg : Str → Option Value} {base : Heap} {k : Nat} {f : Addr} {fd : FuncData} {ps : List Str} {sp : Sp} (F : FnOk P w K mg base (L2N.CX P w) k f fd ps sp) :
    FnOk P w K mg base CX0 k f fd ps (fun vs H Q _ => sp vs H Q fun _ _ _ => False) :=
  ⟨fun vs H Q E h => F.len _ _ _ _ h, fun A outer s H args us vs Q E hr he hb hv h => codeAny_mono (F.run A outer s H args us vs Q (fun _ _ _ => False) hr he hb hv h) fun r s' hq => by
    cases r with
    | error e =>
      obtain ⟨_, _, _, _, _, _, _, _, _, _, _, _, z⟩ := hq
      exact z.elim
    | ok fl => cases fl <;> exact hq⟩
theorem isL_ints {G : Gx} {F : Hp} : ∀ ns : List Int, IsL G F (ns.map V.int) (ns.map D.int) := fun ns => IsL.of_ints ns
/-- the law's own promise, by what its data term comes to -/
theorem law_sp {G : Gx} {m : List U → Store → M U} {H : Hp} {a : Addr} {ns : List Int} (h : m [.d (.scr (ns.map D.int))] [] = some (.ok (.d (.bl true)) [])) (hS : SqL G.K H a (ns.map V.int)) :
    spU G m [.ref a] H (fun v _ => v = .bl true) (fun _ _ _ => False) := by
  refine ⟨H, [], [], [.d (.scr (ns.map D.int))], ⟨Same.refl H, rfl, fun n l c h1 => by simp at h1, fun n m l l' c c' b h1 => by simp at h1⟩, .cons (.d (.scr hS (IsL.of_ints ns))) .nil, ?_⟩
  rw [h]
  intro F' r' v H' _ _ q
  cases q with
  | d q => cases q; rfl
end DL

/-! Tests by their values. -/
namespace DL
open PySem PySem.Spec L2
set_option autoImplicit false
section
variable {Γ : Ev}
def asT (m : M U) : M Bool := bnD m fun d S1 => match d with | .bl k => some (.ok k S1) | _ => none
theorem he_call {f : Nat} {es : E} (e : Env) (S : Store) : evT Γ (.call f es) e S = asT (evE Γ (.call f es) e S) := by
  unfold evT evE asT
  cases evL Γ es e S with
  | none => rfl
  | some z => cases z <;> rfl
theorem he_isi {t : Ty} {a : E} (e : Env) (S : Store) : evT Γ (.isi t a) e S = asT (evE Γ (.isi t a) e S) := by
  unfold evT asT
  rw [evE]
  cases evE Γ a e S with
  | none => rfl
  | some z => cases z with
    | ex x S => rfl
    | ok u S => cases u <;> rfl
theorem he_bi {b : Bi} {es : E} (e : Env) (S : Store) : evT Γ (.bi b es) e S = asT (evE Γ (.bi b es) e S) := by
  unfold evT evE asT
  cases evL Γ es e S with
  | none => rfl
  | some z => cases z with
    | ex x S => rfl
    | ok u S =>
      simp only [bnd_ok]
      cases biU b u S with
      | none => rfl
      | some d => cases d <;> rfl
theorem he_var {i : Nat} (e : Env) (S : Store) : evT Γ (.var i) e S = asT (evE Γ (.var i) e S) := by
  unfold evT evE asT
  cases e[i]? with
  | none => rfl
  | some o => cases o with
    | none => rfl
    | some u => cases u with
      | loc n => rfl
      | err _ => rfl
      | d d => cases d <;> rfl
theorem he_meth {c f : Nat} {m : Str} {a es : E} (e : Env) (S : Store) : evT Γ (.meth c f m a es) e S = asT (evE Γ (.meth c f m a es) e S) := by
  unfold evT asT
  rw [evE]
  cases evE Γ a e S with
  | none => rfl
  | some z => cases z with
    | ex x S => rfl
    | ok u S =>
      simp only [bnd_ok]
      cases insOk c m u S with
      | false => rfl
      | true =>
        simp only [if_true]
        cases evL Γ es e S with
        | none => rfl
        | some z => cases z <;> rfl
end
section
variable {G : Gx} {Γ : Ev} {tb : Tb} {c : Sc} {X : Cx} {W : WX} {j : Nat} {pos : Pos}
theorem dt_v {a : E} {ea : Expr} (ha : PE X ea (rdE G Γ W a)) (hv : valE ea = true) (he : ∀ e S, evT Γ a e S = asT (evE Γ a e S)) : PT X ea (rdT G Γ W a) := dt_val ha hv he
end
end DL

/-! Exceptions over data: raise, try. -/
namespace DL
open PySem PySem.Spec L2 DX
set_option autoImplicit false
section
variable {G : Gx} {Γ : Ev} {tb : Tb} {c : Sc} {X : Cx} {W : WX} {j : Nat} {pos : Pos}
theorem ds_rais0 [Cold tb] (C : Ct G Γ tb c X W j) {k : Nat} {x : Str} {px pc : Pos} (hk : (k, x) ∈ tb.xs0) (hg : isGlB c x = true) : PS X (.Raise (some (.Call (.Name x px) [] [] pc)) none pos) (rdS G Γ W (.rais k [] .nil)) := by
  obtain ⟨m1, m2, m3, m4, m5⟩ := C.wd.x0 k x hk
  obtain ⟨g1, g2⟩ := gl_of C hg
  refine ps_imp (L2N.ps_raise C.calm C.tk (pmk_zero PySem.F.excBase_ValueError (by rw [C.K]; exact m2) m1 (by rw [C.K]; exact m3) (raises_own (by rw [C.K]; exact m4) (by rw [C.K]; exact m5)) g1 g2)) fun D σ H ⟨F, r, S, e, R, L, p⟩ => ?_
  unfold evS evL at p
  exact p F r _ none σ H .refl R L ⟨rfl, .inl ⟨rfl, rfl⟩⟩
theorem isX_zip {F : Hp} : ∀ {ks : List Str} {vs : List V} {ds : List D}, IsL G F vs ds → IsX G F (ks.zip vs) (ks.zip ds)
  | [], _, _, _ => by simp; exact .nil
  | k :: ks, _, _, .nil => by simp; exact .nil
  | k :: ks, _, _, .cons h t => by simp only [List.zip_cons_cons]; exact .cons h (isX_zip t)
theorem ds_rais1 [Cold tb] (C : Ct G Γ tb c X W j) {k : Nat} {x : Str} {fs : List Str} {es : E} {ea : Expr} {l : List Expr} {px pc : Pos} (hk : (k, x, fs) ∈ tb.xs1) (hg : isGlB c x = true) (hs : PA X (ea :: l) (rdL G Γ W es)) (hp : (ea :: l).all plainE = true) :
    PS X (.Raise (some (.Call (.Name x px) (ea :: l) [] pc)) none pos) (rdS G Γ W (.rais k fs es)) := by
  obtain ⟨m1, m0, fI, name, qual, params, scope, tx, ft, Z, ef, two⟩ := C.wd.x1 k x fs hk
  obtain ⟨g1, g2⟩ := gl_of C hg
  rw [List.all_cons, Bool.and_eq_true] at hp
  refine ps_imp (L2N.ps_raise C.calm C.tk (pmk_x (X := X) (by rw [C.K]; exact Z) two (C.room.mono (by omega)) g1 m1 m0 hs g2 (star_cons hp.1 _ _) (plains _ _ _ hp.2))) fun D σ H ⟨F, r, S, e, R, L, p⟩ => ?_
  unfold evS at p
  refine ⟨F, r, S, e, R, L, Post.imp (PostS.inS (Rel := fun F r => Paired (IsU G F r)) p L) fun vs H1 ⟨F1, r1, S1, us, e1, R1, q1, p1⟩ => ?_⟩
  split at p1
  · rename_i ds hds
    split at p1
    · rename_i hl
      have i1 := lst1_is q1 hds
      refine ⟨by rw [i1.length, ef]; exact hl, fun d hd => ?_⟩
      obtain ⟨R2, s2⟩ := R1.new (o := .xd ((ft.map FTx.f).zip vs)) hd
      refine p1 _ r1 _ (some d) σ _ (.cells s2) R2 ((L.mono e1).mono (.cells s2)) ⟨rfl, .inr ⟨d, _, rfl, upd_same, ?_⟩⟩
      show IsX G _ _ (fs.zip ds)
      rw [← ef]
      exact isX_zip (i1.mono s2)
    · exact p1.elim
  · exact p1.elim

/-! ### try -/
/-- the suite's own exceptions: none -/
abbrev W0 : WX := fun _ _ _ _ => False
theorem noXS_post {F : Hp} {r : Pl} {m : MS} {D : Ends} {W' : WX} (h : PostS G W F r (noXS m) D) : PostS G W' F r m D := by
  cases m with
  | none => exact h
  | some z => cases z with
    | nx e S => exact h
    | rt u S => exact h
    | ex x e S => exact h.elim
/-- the suite of a clause with a name -/
inductive XsOk (G : Gx) (tb : Tb) (X : Cx) (C0 i t : Nat) : EX → Expr → Prop
  | str {x : Str} {k : Nat} {p : Pos} : XsOk G tb X C0 i t (.str x) (.Constant (.str x) k p)
  | fld {n f : Str} {p q : Pos} : (C0, f) ∈ tb.xfs → X.N[i]? = some n → X.env.kindOf n = some .local → (n == ("__debug__" : Str)) = false → (n == ("__classdict__" : Str)) = false → attributeBase (.Name n p) f X.env (eval (.Name n p) X.env) = eval (.Name n p) X.env → XsOk G tb X C0 i t (.fld f) (.Attribute (.Name n p) f q)
  | pair {a b : EX} {ea eb : Expr} {k : Nat} {p : Pos} : XsOk G tb X C0 i t a ea → XsOk G tb X C0 i t b eb → plainE ea = true → plainE eb = true → XsOk G tb X C0 i t (.pair a b) (.Tuple [ea, eb] k p)
def rdX (G : Gx) (c0 i : Nat) (a : Addr) (cls : Value) (d : Option Addr) (x : EX) : TE := fun σ H Q => ∃ F r S fs vs dd dv, Rp G F r S H ∧ σ[i]? = some (some (.ref a)) ∧ cls = .ref (G.xc c0) ∧ (fs = [] ∨ (d = some dd ∧ F dd = some (.xd vs))) ∧ IsX G F vs fs ∧ evX fs x = some dv ∧ ∀ F' v H', Same F F' → Rp G F' r S H' → Is G F' v dv → Q v H'
theorem isX_mono {F F' : Hp} (s : Same F F') : ∀ {vs : List (Str × V)} {fs : List (Str × D)}, IsX G F vs fs → IsX G F' vs fs
  | _, _, .nil => .nil
  | _, _, .cons h t => .cons (h.mono s) (isX_mono s t)
theorem isX_look {F : Hp} {f : Str} {d : D} : ∀ {vs : List (Str × V)} {fs : List (Str × D)}, IsX G F vs fs → fs.lookup f = some d → ∃ v, vs.lookup f = some v ∧ Is G F v d
  | _, _, .nil, e => by cases e
  | _, _, .cons (x := x) h t, e => by
    rw [List.lookup_cons] at e ⊢
    cases q : (f == x) with
    | true => rw [q] at e; simp only at e ⊢; cases e; exact ⟨_, rfl, h⟩
    | false => rw [q] at e; simp only at e ⊢; exact isX_look t e
theorem xs_pe (C : Ct G Γ tb c X W j) {c0 i t : Nat} {a : Addr} {oe : Obj} {cls : Value} {d : Option Addr} {pn : List (Addr × Obj)} (hz : L2N.Zn cls d oe) (hf : ∃ vs, oe.data = .fields vs) : ∀ {x : EX} {ex : Expr}, XsOk G tb X c0 i t x ex → PE (X.suite a ((a, oe) :: pn)) ex (rdX G c0 i a cls d x)
  | _, _, .str => pe_imp pe_str fun σ H Q ⟨F, r, S, fs, vs, dd, dv, R, q1, q2, q3, q4, q5, q6⟩ => by
    cases q5
    exact q6 F _ H (Same.refl F) R (.str _)
  | _, _, .fld (n := n) (f := f) hx h1 h2 h3 h4 h5 => by
    obtain ⟨T, no⟩ := C.wd.xf _ _ hx
    refine pe_imp (pe_xf (X := X) (C := G.xc c0) (by rw [C.K]; exact T) (by rw [C.K]; exact no) (L2N.Zn.zc hz) hf (pe_var (i := i) (X := X.suite a ((a, oe) :: pn)) h1 (.inl h2) h3 h4) h5) fun σ H Q ⟨F, r, S, fs, vs, dd, dv, R, q1, q2, q3, q4, q5, q6⟩ => ?_
    rcases q3 with q3 | ⟨q3, q7⟩
    · subst q3
      cases q5
    · obtain ⟨v, l1, l2⟩ := isX_look q4 (show fs.lookup f = some dv from q5)
      exact ⟨_, q1, rfl, q2, dd, vs, v, q3, R.sub _ _ q7, l1, q6 F v H (Same.refl F) R l2⟩
  | _, _, .pair ha hb pa pb => by
    refine pe_imp (pe_tup (pa_cons (xs_pe C hz hf ha) (pa_cons (xs_pe C hz hf hb) pa_nil (star_cons pb _ _)) (star_cons pa _ _))) fun σ H Q ⟨F, r, S, fs, vs, dd, dv, R, q1, q2, q3, q4, q5, q6⟩ => ?_
    unfold evX at q5
    split at q5
    · rename_i x y ex ey
      cases q5
      refine ⟨F, r, S, fs, vs, dd, x, R, q1, q2, q3, q4, ex, fun F1 v1 H1 s1 R1 i1 => ?_⟩
      refine ⟨F1, r, S, fs, vs, dd, y, R1, q1, q2, q3.imp id (fun z => ⟨z.1, s1 _ _ z.2⟩), isX_mono s1 q4, ey, fun F2 v2 H2 s2 R2 i2 => ?_⟩
      refine ⟨by show 2 ≤ sizeLine; decide, fun p hp => ?_⟩
      obtain ⟨R3, s3, i3⟩ := new_tup (l := [x, y]) R2 hp (.cons (i1.mono s2) (.cons i2 .nil))
      exact q6 _ _ _ ((s1.trans s2).trans s3) R3 i3
    · cases q5

/-- the clauses, as text and as data -/
inductive HsOk (G : Gx) (Γ : Ev) (tb : Tb) (X : Cx) : List ExceptHandler → Stm → Prop
  | nil : HsOk G Γ tb X [] .nop
  | plain {k : Nat} {x : Str} {b₀ : Stmt} {suite : List Stmt} {np p : Pos} {hds : List ExceptHandler} {b r : Stm} (hk : tb.xcs[k]? = some (some x)) (hg : Gl X x) (hd : (x == ("__debug__" : Str)) = false) (hs : ∀ (a : Addr) (oe : Obj) (pn : List (Addr × Obj)), PSs (X.suite a ((a, oe) :: pn)) (b₀ :: suite) (rdS G Γ W0 b)) (t : HsOk G Γ tb X hds r) :
      HsOk G Γ tb X (.ExceptHandler (some (.Name x np)) none (b₀ :: suite) p :: hds) (.hand k b r)
  | named {k i t : Nat} {x n y : Str} {ex : Expr} {z : EX} {np p py ps : Pos} {hds : List ExceptHandler} {r : Stm} (hk : tb.xcs[k]? = some (some x)) (hg : Gl X x) (hd : (x == ("__debug__" : Str)) = false) (hi : X.N[i]? = some n) (hl : X.env.kindOf n = some .local) (ht : X.N[t]? = some y) (hy : L2.Loc X.env.scope y) (hf : X.fn y = true ∨ X.env.scope.names.lookup y = some .local)
      (hx : XsOk G tb X k i t z ex) (hw : swapsWith ex (some (.Name y py)) ps.line X.env = pure false) (rest : HsOk G Γ tb X hds r) :
      HsOk G Γ tb X (.ExceptHandler (some (.Name x np)) (some n) [.Assign [.Name y py] ex ps] p :: hds) (.handX k i t z r)
  | err {i : Nat} {x n : Str} {b₀ : Stmt} {suite : List Stmt} {np p : Pos} {b : Stm} (hk : tb.xb = some x) (hg : Gl X x) (hd : (x == ("__debug__" : Str)) = false) (hi : X.N[i]? = some n) (hl : X.env.kindOf n = some .local)
      (hs : ∀ (a : Addr) (oe : Obj) (cls : Value) (d : Option Addr) (pn : List (Addr × Obj)), L2N.Zn cls d oe → (∃ vs, oe.data = .fields vs) → PSs (X.suite a ((a, oe) :: pn)) (b₀ :: suite) (rdS (G.hot (a, oe)) Γ W0 b)) :
      HsOk G Γ tb X [.ExceptHandler (some (.Name x np)) (some n) (b₀ :: suite) p] (.handE i b)
theorem PostS.gone {p : Addr × Obj} {i : Nat} {F : Hp} {r : Pl} {e1 : Env} {S1 : Store} {D : Ends} (h : PostS G W F r (some (.nx (unerr (e1.set i none)) S1)) D) : PostS (G.hot p) W0 F r (some (.nx e1 S1)) (goneE D (some i)) :=
  fun F1 r1 σ1 H1 x1 R1 L1 => h F1 r1 (σ1.set i none) H1 x1 R1.dn (L1.clr i).dn
/-- what the clauses wish is met -/
theorem hs_wish [Cold tb] (C : Ct G Γ tb c X W j) {hds : List ExceptHandler} {h : Stm} (ok : HsOk G Γ tb X hds h) : ∃ l, Hx X hds l ∧ ∀ {F : Hp} {r : Pl} {x : Xn} {e : Env} {S : Store} {D : Ends} {cl : Value} {d : Option Addr} {σ : L2.St} {H : Hp}, x.c < 8 → Rp G F r S H → Lo G F r σ e → XnIs G F cl d x → PostS G W F r (evH Γ h x e S) D → wHx X.K W D l cl d σ H := by
  induction ok with
  | @err i x n b₀ suite np p0 b hk hg hd hi hl hs =>
    obtain ⟨ad, m1, m2⟩ := C.wd.xk.xb x hk
    refine ⟨[⟨.ref ad, some i, fun a cls d => fun D σ H => ∀ oe : Obj, L2N.Zn cls d oe → (∃ vs, oe.data = .fields vs) → rdS (G.hot (a, oe)) Γ W0 b D σ H⟩], .cons ⟨hg, hd, .inl m1⟩ ⟨hi, hl⟩ (fun a oe cls d pn hz hf => pss_imp (hs a oe cls d pn hz hf) fun D σ H q => q oe hz hf) .nil, fun {F r x e S D cl d σ H} hc R L xi p => ?_⟩
    refine ⟨true, by rw [xi.1, C.K]; exact m2 _ hc, fun _ a ha oe hz hf => ?_, fun hb => absurd hb (by simp)⟩
    unfold evH at p
    split at p
    case isFalse => exact p.elim
    rename_i hje
    have hG : G.er = none := C.wd.xk.er (Cold.c)
    have L1 : Lo (G.hot (a, oe)) F r (hasE σ a (some i)) (e.set i (some (.err x))) := (L.up hG).set i (.err rfl (by
      obtain ⟨x1, x2⟩ := xi
      refine ⟨by rw [hz.1, x1], x2.imp (fun ⟨u, v⟩ => ⟨u, by rw [hz.2.1, v]⟩) fun ⟨dd, vs, u, v, w⟩ => ⟨dd, vs, by rw [hz.2.1, u], v, w.up⟩⟩) hf)
    refine ⟨F, r, S, _, R.up, L1, ?_⟩
    split at p
    · rename_i e1 S1 he
      rw [he]
      exact PostS.gone p
    · exact p.elim
  | nil =>
    refine ⟨[], .nil, fun {F r x e S D cl d σ H} hc R L xi p => ?_⟩
    unfold evH at p
    exact p F r cl d σ H .refl R L xi
  | @plain k x b₀ suite np p0 hds b r0 hk hg hd hs t ih =>
    obtain ⟨l, h1, h2⟩ := ih
    obtain ⟨m1, m2⟩ := C.wd.xc k x hk
    refine ⟨⟨.ref (G.xc k), none, fun _ _ _ => rdS G Γ W0 b⟩ :: l, .cons ⟨hg, hd, .inl m1⟩ trivial (fun a oe cls d pn _ _ => hs a oe pn) h1, fun {F r x e S D cl d σ H} hc R L xi p => ?_⟩
    obtain ⟨xc, xd⟩ := xi
    refine ⟨decide (x.c = k), by rw [xc, C.K]; exact m2 _ hc, fun hb a ha => ?_, fun hb => ?_⟩
    · have hb := of_decide_eq_true hb
      unfold evH at p
      rw [if_pos hb] at p
      exact ⟨F, r, S, e, R, L, noXS_post p⟩
    · have hb := of_decide_eq_false hb
      unfold evH at p
      rw [if_neg hb] at p
      exact h2 hc R L ⟨xc, xd⟩ p
  | @named k i t x n y ex z np p0 py ps hds r0 hk hg hd hi hl ht hy hf hx hw rest ih =>
    obtain ⟨l, h1, h2⟩ := ih
    obtain ⟨m1, m2⟩ := C.wd.xc k x hk
    refine ⟨⟨.ref (G.xc k), some i, fun a cls d => fun D σ H => rdX G k i a cls d z σ H fun v H' => D.nx (σ.set t (some v)) H'⟩ :: l, .cons ⟨hg, hd, .inl m1⟩ ⟨hi, hl⟩ (fun a oe cls d pn hz hfl => pss_one (ps_set (X := X.suite a ((a, oe) :: pn)) C.nd ht hy (xs_pe C hz hfl hx) hw hf)) h1, fun {F r x e S D cl d σ H} hc R L xi p => ?_⟩
    obtain ⟨xc, xd⟩ := xi
    refine ⟨decide (x.c = k), by rw [xc, C.K]; exact m2 _ hc, fun hb a ha => ?_, fun hb => ?_⟩
    · have hb := of_decide_eq_true hb
      unfold evH at p
      rw [if_pos hb] at p
      split at p
      case isFalse => exact p.elim
      rename_i hje
      split at p
      · rename_i dv hv
        have hlen : i < σ.length := by rw [L.len]; exact hje
        have go : ∀ dd vs, (x.fs = [] ∨ (d = some dd ∧ F dd = some (.xd vs))) → IsX G F vs x.fs → rdX G k i a cl d z (σ.set i (some (.ref a))) H fun v H' => D.nx (((σ.set i (some (.ref a))).set t (some v)).set i none) H' := fun dd vs g1 g2 => by
          refine ⟨F, r, S, x.fs, vs, dd, dv, R, by rw [List.getElem?_set_self hlen], by rw [xc, hb], g1, g2, hv, fun F' v H' s' R' i' => ?_⟩
          refine PostS.nx p (.cells s') R' ?_
          have L1 := ((L.mono (.cells s')).set t (.d i')).clr i
          refine ⟨by simpa using L1.len, fun q u hq => ?_⟩
          obtain ⟨w, w1, w2⟩ := L1.at_ q u hq
          refine ⟨w, ?_, w2⟩
          rw [← w1]
          by_cases hqi : i = q
          · subst hqi
            by_cases hl2 : i < ((σ.set i (some (.ref a))).set t (some v)).length
            · rw [List.getElem?_set_self hl2, List.getElem?_set_self (by simpa using hl2)]
            · rw [List.getElem?_eq_none (by simpa using hl2), List.getElem?_eq_none (by simpa using hl2)]
          · rw [List.getElem?_set_ne hqi, List.getElem?_set_ne hqi]
            by_cases hqt : t = q
            · subst hqt
              by_cases hl2 : t < σ.length
              · rw [List.getElem?_set_self (by simpa using hl2), List.getElem?_set_self hl2]
              · rw [List.getElem?_eq_none (by simpa using hl2), List.getElem?_eq_none (by simpa using hl2)]
            · rw [List.getElem?_set_ne hqt, List.getElem?_set_ne hqi, List.getElem?_set_ne hqt]
        rcases xd with ⟨f0, d0⟩ | ⟨dd, vs, d0, f1, f2⟩
        · exact go 0 [] (.inl f0) (by rw [f0]; exact .nil)
        · exact go dd vs (.inr ⟨d0, f1⟩) f2
      · exact p.elim
    · have hb := of_decide_eq_false hb
      unfold evH at p
      rw [if_neg hb] at p
      exact h2 hc R L ⟨xc, xd⟩ p
theorem ds_try [Cold tb] (C : Ct G Γ tb c X W j) (O : Ow X) {b h : Stm} {body : List Stmt} {h₀ : ExceptHandler} {hds : List ExceptHandler} (ok : HsOk G Γ tb X (h₀ :: hds) h) (hb : ∀ {X' : Cx} {W' : WX}, Ct G Γ tb c X' W' j → Ow X' → X'.env = X.env → PSs X' body (rdS G Γ W' b)) :
    PS X (.Try body (h₀ :: hds) [] [] pos) (rdS G Γ W (.tri b h)) := by
  obtain ⟨l, h1, h2⟩ := hs_wish C ok
  refine ps_imp (ps_try_hx (tb := fun W' => rdS G Γ W' b) O.stk O.fr C.nd C.tk (fun W' pn xe tk po => ?_) h1) fun D σ H ⟨F, r, S, e, R, L, p⟩ => ?_
  · exact hb (X' := X.tr pn xe) ⟨C.K, C.w, C.N, C.sc, C.nd, C.calm0, tk, C.top, C.room0, C.roomH, C.wd⟩ ⟨po, O.stk, O.fr, O.ex⟩ rfl
  · unfold evS at p
    refine ⟨F, r, S, e, R, L, ?_⟩
    cases q : evS Γ b e S with
    | none => rw [q] at p; exact p
    | some z =>
      rw [q] at p
      cases z with
      | nx e1 S1 => exact p
      | rt u S1 => exact p
      | ex x e1 S1 =>
        simp only at p
        split at p
        · rename_i hc
          exact fun F1 r1 cl d σ1 H1 x1 R1 L1 xi => h2 hc R1 L1 xi (PostS.mono (m := evH Γ h x e1 S1) p x1)
        · exact p.elim
/-! ### suites -/
theorem de_varW {X : Cx} {c : Sc} {i : Nat} {x : Str} (hN : X.N = c.N) (hs : X.env.scope = c.sc) (h : isVisB c i x = true) : PE X (.Name x pos) (rdE G Γ W (.var i)) := by
  unfold isVisB at h
  simp only [Bool.and_eq_true, decide_eq_true_eq, Bool.not_eq_true'] at h
  obtain ⟨⟨⟨h1, h2⟩, h3⟩, h4⟩ := h
  refine pe_imp (pe_var (i := i) (by rw [hN]; exact h1) ?_ h3 h4) fun σ H Q ⟨F, r, S, e, R, L, p⟩ => ?_
  · unfold Vis
    rw [hs]
    split at h2
    · rename_i q; exact .inl q
    · rename_i q; exact .inr (.inl q)
    · rename_i q; exact .inr (.inr q)
    · cases h2
  · unfold evE at p
    split at p
    · rename_i u hu
      obtain ⟨v, a, b⟩ := L.at_ i u hu
      exact ⟨v, a, Post.done p .refl R b⟩
    · exact p.elim
/-- name = e within a suite -/
theorem su_set (C : Ct G Γ tb c X W j) {i : Nat} {x : Str} {a : E} {ea : Expr} {px : Pos} (hx : isLocB c i x = true) (ha : ∀ (a' : Addr) (oe : Obj) (pn : List (Addr × Obj)), PE (X.suite a' ((a', oe) :: pn)) ea (rdE G Γ W0 a)) (hs : swapsWith ea (some (.Name x px)) pos.line X.env = pure false) (a' : Addr) (oe : Obj) (pn : List (Addr × Obj)) :
    PSs (X.suite a' ((a', oe) :: pn)) [.Assign [.Name x px] ea pos] (rdS G Γ W0 (.asg [i] a)) := by
  obtain ⟨h1, h2, h3⟩ := loc_of C hx
  refine pss_one (ps_imp (ps_set (X := X.suite a' ((a', oe) :: pn)) C.nd h1 h2 (ha a' oe pn) hs h3) fun D σ H ⟨F, r, S, e, R, L, p⟩ => ?_)
  unfold evS at p
  exact ⟨F, r, S, e, R, L, Post.imp (PostS.inS (Rel := IsU G) p L) fun x H1 ⟨F1, r1, S1, u, e1, R1, q1, p1⟩ => PostS.nx p1 .refl R1 ((L.mono e1).set i q1)⟩
/-- name + 1 within a suite -/
theorem su_add (C : Ct G Γ tb c X W j) {i : Nat} {x : Str} {v : Int} {k : Nat} {px pk pb : Pos} (hx : isVisB c i x = true) (a' : Addr) (oe : Obj) (pn : List (Addr × Obj)) :
    PE (X.suite a' ((a', oe) :: pn)) (.BinOp (.Name x px) .Add (.Constant (.int v) k pk) pb) (rdE G Γ W0 (.bop .add (.var i) (.int v))) :=
  pe_imp (pe_op (or_bop (X := X.suite a' ((a', oe) :: pn)) C.K .add) (de_varW (X := X.suite a' ((a', oe) :: pn)) C.N C.sc hx) de_int) fun σ H Q ⟨F, r, S, e, R, L, p⟩ => two R L (by unfold evE at p; exact p)
theorem hs_plain (C : Ct G Γ tb c X W j) {k : Nat} {x : Str} {b₀ : Stmt} {suite : List Stmt} {np p : Pos} {hds : List ExceptHandler} {b r : Stm} (hk : tb.xcs[k]? = some (some x)) (hg : isGlB c x = true) (hs : ∀ (a : Addr) (oe : Obj) (pn : List (Addr × Obj)), PSs (X.suite a ((a, oe) :: pn)) (b₀ :: suite) (rdS G Γ W0 b)) (t : HsOk G Γ tb X hds r) :
    HsOk G Γ tb X (.ExceptHandler (some (.Name x np)) none (b₀ :: suite) p :: hds) (.hand k b r) :=
  let ⟨g1, g2⟩ := gl_of C hg
  .plain hk g1 g2 hs t
def isLB (c : Sc) (i : Nat) (n : Str) : Bool := decide (c.N[i]? = some n) && decide (c.sc.names.lookup n = some .local)
theorem isL_of (C : Ct G Γ tb c X W j) {i : Nat} {n : Str} (h : isLB c i n = true) : X.N[i]? = some n ∧ X.env.kindOf n = some .local := by
  unfold isLB at h
  simp only [Bool.and_eq_true, decide_eq_true_eq] at h
  refine ⟨by rw [C.N]; exact h.1, ?_⟩
  show X.env.scope.names.lookup n = _
  rw [C.sc]; exact h.2
theorem hs_named (C : Ct G Γ tb c X W j) {k i t : Nat} {x n y : Str} {ex : Expr} {z : EX} {np p py ps : Pos} {hds : List ExceptHandler} {r : Stm} (hk : tb.xcs[k]? = some (some x)) (hg : isGlB c x = true) (hi : isLB c i n = true) (ht : isLocB c t y = true) (hx : XsOk G tb X k i t z ex) (hw : swapsWith ex (some (.Name y py)) ps.line X.env = pure false) (rest : HsOk G Γ tb X hds r) :
    HsOk G Γ tb X (.ExceptHandler (some (.Name x np)) (some n) [.Assign [.Name y py] ex ps] p :: hds) (.handX k i t z r) :=
  let ⟨g1, g2⟩ := gl_of C hg
  let ⟨h1, h2⟩ := isL_of C hi
  let ⟨t1, t2, t3⟩ := loc_of C ht
  .named hk g1 g2 h1 h2 t1 t2 t3 hx hw rest
theorem xs_fld (C : Ct G Γ tb c X W j) {k i t : Nat} {n f : Str} {p q : Pos} (hf : (k, f) ∈ tb.xfs) (hi : isLB c i n = true) (h3 : (n == ("__debug__" : Str)) = false) (h4 : (n == ("__classdict__" : Str)) = false) (hb : attributeBase (.Name n p) f X.env (eval (.Name n p) X.env) = eval (.Name n p) X.env) : XsOk G tb X k i t (.fld f) (.Attribute (.Name n p) f q) :=
  let ⟨h1, h2⟩ := isL_of C hi
  .fld hf h1 h2 h3 h4 hb
/-- except C as n: suite, C the class of all -/
theorem hs_err [Cold tb] (C : Ct G Γ tb c X W j) {i : Nat} {x n : Str} {b₀ : Stmt} {suite : List Stmt} {np p : Pos} {b : Stm} (hk : tb.xb = some x) (hg : isGlB c x = true) (hi : isLB c i n = true)
    (hs : ∀ {p : Addr × Obj} {X' : Cx}, Ct (G.hot p) Γ tb.heat c X' W0 j → Pin X' p → PSs X' (b₀ :: suite) (rdS (G.hot p) Γ W0 b)) :
    HsOk G Γ tb X [.ExceptHandler (some (.Name x np)) (some n) (b₀ :: suite) p] (.handE i b) :=
  let ⟨g1, g2⟩ := gl_of C hg
  let ⟨h1, h2⟩ := isL_of C hi
  .err hk g1 g2 h1 h2 fun a oe cls d pn hz hf => hs (p := (a, oe)) (X' := X.suite a ((a, oe) :: pn))
    ⟨C.K, C.w, C.N, C.sc, C.nd, fun h => absurd h (by simp), takes0N, C.top, fun h => absurd h (by simp), ⟨C.roomH.dp, C.roomH.un⟩, C.wd.heat⟩
    ⟨⟨rfl, let ⟨vs, e⟩ := hf; ⟨vs, e, hz.2.2 vs e⟩⟩, List.mem_cons_self⟩
end
end DL

/-! To run data terms by simp: what comes later stands under-applied, and is left alone until it is its turn. -/
namespace DL
open PySem
theorem str_inj (a b : String) : (Str.ofString a = Str.ofString b) = (a = b) := by
  apply propext
  refine ⟨fun h => ?_, fun h => by rw [h]⟩
  rw [Str.ofString_eq_toList, Str.ofString_eq_toList] at h
  have h1 : a.toList.map Char.toNat = b.toList.map Char.toNat := by
    have h2 := congrArg (fun z : Str => z.cps.toList) h
    simpa using h2
  have inj : ∀ {l m : List Char}, l.map Char.toNat = m.map Char.toNat → l = m := by
    intro l
    induction l with
    | nil => intro m h; cases m with
      | nil => rfl
      | cons x m => cases h
    | cons c l ih => intro m h; cases m with
      | nil => cases h
      | cons x m =>
        rw [List.map_cons, List.map_cons] at h
        obtain ⟨e1, e2⟩ := List.cons.inj h
        have e3 : c = x := by
          apply Char.ext
          apply UInt32.toNat_inj.mp
          exact e1
        rw [e3, ih e2]
  have h3 := inj h1
  have h4 : String.ofList a.toList = String.ofList b.toList := by rw [h3]
  simpa using h4
theorem str_beq (a b : String) : (Str.ofString a == Str.ofString b) = decide (a = b) := by
  rw [Bool.eq_iff_iff]
  simp [str_inj]
/-- decided by a Bool -/
def pick {A : Type} (c : Bool) (a b : A) : A := if c then a else b
@[simp] theorem pick_t {A : Type} (a b : A) : pick true a b = a := rfl
@[simp] theorem pick_f {A : Type} (a b : A) : pick false a b = b := rfl
section
variable {A B : Type}
def kGiv (f : D → Option D) (x : D) (S : Store) : M U := giv (f x) S
def k2 (f : Store → M U) (g : D → D → Option D) (x : D) (S : Store) : M U := bnD (f S) (kGiv (g x))
def kNeg (x : D) (S : Store) : M U := match x with
  | .int i => some (.ok (.d (.int (-i))) S)
  | _ => none
def kNot (x : D) (S : Store) : M U := match x with
  | .bl b => some (.ok (.d (.bl (!b))) S)
  | _ => none
def kAnd (f : Store → M U) (x : D) (S : Store) : M U := match x with
  | .bl b => pick b (f S) (some (.ok (.d (.bl false)) S))
  | _ => none
def kOr (f : Store → M U) (x : D) (S : Store) : M U := match x with
  | .bl b => pick b (some (.ok (.d (.bl true)) S)) (f S)
  | _ => none
def kIf (f g : Store → A) (c : Bool) (S : Store) : A := pick c (f S) (g S)
def kCh2 (f : Store → M U) (p : Cop) (y : D) (S : Store) (c : Option Bool) : M U := match c with
  | some b => pick b (bnD (f S) (kGiv fun z => (cmpD p y z).map .bl)) (some (.ok (.d (.bl false)) S))
  | none => none
def kCh1 (f : Store → M U) (o p : Cop) (x y : D) (S : Store) : M U := kCh2 f p y S (cmpD o x y)
def kCh (f g : Store → M U) (o p : Cop) (x : D) (S : Store) : M U := bnD (f S) (kCh1 g o p x)
def kIx2 (u : U) (y : D) (S : Store) : M U := match u with
  | .d x => giv (ixD x y) S
  | .loc n => (match S[n]?, y with
    | some (.lst l), .int i => giv (at_ l i) S
    | _, _ => none)
  | .err _ => none
def kIx (f : Store → M U) (u : U) (S : Store) : M U := bnD (f S) (kIx2 u)
def kSl3 (x : D) (l h : Option Int) (S : Store) : M U := giv (slD x l h) S
def kSl2 (f : Store → M (Option Int)) (x : D) (l : Option Int) (S : Store) : M U := bnd (f S) (kSl3 x l)
def kSl (f g : Store → M (Option Int)) (x : D) (S : Store) : M U := bnd (f S) (kSl2 g x)
def kTup (us : List U) (S : Store) : M U := match lst1 us with
  | some l => if l.length ≤ line then some (.ok (.d (.tup l)) S) else none
  | none => none
def kLst (us : List U) (S : Store) : M U := match lst1 us with
  | some l => if l.length ≤ line then some (.ok (.d (.lst l)) S) else none
  | none => none
def kCel (us : List U) (S : Store) : M U := match lst1 us with
  | some l => if l.length ≤ line then some (.ok (.loc S.length) (S ++ [.lst l])) else none
  | none => none
def kCat2 (x y : D) (S : Store) : M U := match x, y with
  | .lst l, .lst m => if l.length + m.length ≤ line then some (.ok (.loc S.length) (S ++ [.lst (l ++ m)])) else none
  | _, _ => none
def kCat (f : Store → M U) (x : D) (S : Store) : M U := bnD (f S) (kCat2 x)
def kMap (ks : List Str) (us : List U) (S : Store) : M U := match lst1 us with
  | some l => if l.length = ks.length ∧ ks.length ≤ 15 then some (.ok (.d (.map (ks.zip l))) S) else none
  | none => none
def kFn (f : List U → Store → M U) (us : List U) (S : Store) : M U := f us S
def kMkd2 (k : Nat) (m : M U) : M U := match m with
  | some (.ok (.d .non) S2) => (match S2[k]? with
    | some (.ins 0 [(x, .dat t)]) => if x = ("told" : Str) then some (.ok (.d (.drv t)) (S2.take k)) else none
    | _ => none)
  | some (.ex x S2) => some (.ex x (S2.take k))
  | _ => none
def kMkd (f : List U → Store → M U) (us : List U) (S : Store) : M U := kMkd2 S.length (f (.loc S.length :: us) (S ++ [.ins 0 []]))
def kProp (f : List U → Store → M U) (x : D) (S : Store) : M U := match x with
  | .drv t => noX (f [.d (.drv t)] S)
  | _ => none
def kFld (nc : Nat) (x : Str) (u : U) (S : Store) : M U := match u with
  | .loc n => (match S[n]? with
    | some (.ins c fs) => (match fs.lookup x with
      | some (.dat d) => if c < nc then some (.ok (.d d) S) else none
      | _ => none)
    | _ => none)
  | .d (.drv t) => if x = ("told" : Str) ∧ 0 < nc then some (.ok (.d t) S) else none
  | _ => none
def kBi (b : Bi) (us : List U) (S : Store) : M U := giv (biU b us S) S
def kIsi (t : Ty) (x : D) (S : Store) : M U := some (.ok (.d (.bl (isiD t x))) S)
def kApp2 (u : U) (x : D) (S : Store) : M U := match u with
  | .loc n => (match S[n]? with
    | some (.lst l) => if l.length < line then some (.ok (.d .non) (S.set n (.lst (l ++ [x])))) else none
    | _ => none)
  | _ => none
def kApp (f : Store → M U) (u : U) (S : Store) : M U := pick (isLst u S) (bnD (f S) (kApp2 u)) none
def kPop2 (u : U) (y : D) (S : Store) : M U := match u, y with
  | .loc n, .int i => (match S[n]? with
    | some (.lst l) => (match plc l.length i with
      | some j => (match l[j]? with
        | some z => if small62 i then some (.ok (.d z) (S.set n (.lst (l.eraseIdx j)))) else none
        | none => none)
      | none => none)
    | _ => none)
  | _, _ => none
def kPop (f : Store → M U) (u : U) (S : Store) : M U := pick (isLst u S) (bnD (f S) (kPop2 u)) none
def kOkL (r : List D) (S : Store) : M U := some (.ok (.d (.lst r)) S)
def kLc (f : D → Store → M (Option D)) (l : List D) (S : Store) : M U := if l.length ≤ line then bnd (walk f [] l S) kOkL else none
def kIt1 (x : D) (S : Store) : M (Option D) := some (.ok (some x) S)
def kIt2 (f : Store → M U) (c : Bool) (S : Store) : M (Option D) := pick c (bnD (f S) kIt1) (some (.ok none S))
/-- an item of a comprehension -/
def item (t : Env → Store → M Bool) (el : Env → Store → M U) (vs g : List Nat) (e : Env) (d : D) (S : Store) : M (Option D) := noX (match bindTo g d (wipeE e vs) with
  | none => none
  | some e1 => bnd (t e1 S) (kIt2 (el e1)))
def kTnot (c : Bool) (S : Store) : M Bool := some (.ok (!c) S)
def kTand (f : Store → M Bool) (c : Bool) (S : Store) : M Bool := pick c (f S) (some (.ok false S))
def kTor (f : Store → M Bool) (c : Bool) (S : Store) : M Bool := pick c (some (.ok true S)) (f S)
def oB (o : Option Bool) (S : Store) : M Bool := match o with
  | some c => some (.ok c S)
  | none => none
def kTcmp2 (o : Cop) (x y : D) (S : Store) : M Bool := oB (cmpD o x y) S
def kTcmp (f : Store → M U) (o : Cop) (x : D) (S : Store) : M Bool := bnD (f S) (kTcmp2 o x)
def kTb (d : D) (S : Store) : M Bool := match d with
  | .bl c => some (.ok c S)
  | _ => none
def kTfn (f : List U → Store → M U) (us : List U) (S : Store) : M Bool := bnD (f us S) kTb
def kTisi (t : Ty) (x : D) (S : Store) : M Bool := some (.ok (isiD t x) S)
def kTbi (b : Bi) (us : List U) (S : Store) : M Bool := match biU b us S with
  | some (.bl c) => some (.ok c S)
  | _ => none
def kL2 (u : U) (us : List U) (S : Store) : M (List U) := some (.ok (u :: us) S)
def kL (f : Store → M (List U)) (u : U) (S : Store) : M (List U) := bnd (f S) (kL2 u)
def kP (x : D) (S : Store) : M (Option Int) := match x with
  | .int i => some (.ok (some i) S)
  | _ => none
def kR1 (x : D) (S : Store) : M (List D) := match x with
  | .int j => pick (small62 j) (some (.ok (rngL 0 j) S)) none
  | _ => none
def kSeq (x : D) (S : Store) : M (List D) := match seqOf x with
  | some l => some (.ok l S)
  | none => none
def kEnum (x : D) (S : Store) : M (List D) := match seqOf x with
  | some l => some (.ok (enumL 0 l) S)
  | none => none
def kZip2 (x y : D) (S : Store) : M (List D) := match seqOf x, seqOf y with
  | some l, some m => some (.ok (zipL l m) S)
  | _, _ => none
def kZip (f : Store → M U) (x : D) (S : Store) : M (List D) := bnD (f S) (kZip2 x)
def kSet (g : List Nat) (e : Env) (u : U) (S : Store) : MS := match bindU g u e with
  | some e1 => some (.nx e1 S)
  | none => none
def kPar (g : List Nat) (e : Env) (us : List U) (S : Store) : MS := match setAll g us e with
  | some e1 => some (.nx e1 S)
  | none => none
def kAug (i : Nat) (o : Bop) (e : Env) (x : Int) (u : U) (S : Store) : MS := match o, u with
  | .add, .d (.int y) => some (.nx (e.set i (some (.d (.int (x + y))))) S)
  | .sub, .d (.int y) => some (.nx (e.set i (some (.d (.int (x - y))))) S)
  | _, _ => none
def kSi3 (e : Env) (v u y : U) (S : Store) : MS := match u, y, v with
  | .loc n, .d (.int k), .d d => (match S[n]? with
    | some (.lst l) => (match plc l.length k with
      | some j => some (.nx e (S.set n (.lst (l.set j d))))
      | none => none)
    | _ => none)
  | _, _, _ => none
def kSi2 (f : Store → M U) (e : Env) (v u : U) (S : Store) : MS := inS (f S) e (kSi3 e v u)
def kSi (f g : Store → M U) (e : Env) (v : U) (S : Store) : MS := inS (f S) e (kSi2 g e v)
def kSf2 (nc : Nat) (x : Str) (e : Env) (v u : U) (S : Store) : MS := match u, v with
  | .loc n, .d d => (match S[n]? with
    | some (.ins c fs) => if c < nc ∧ fs.length < 100 then (match fs.lookup x with
      | some (.own _) => none
      | _ => some (.nx e (S.set n (.ins c (putD x (.dat d) fs))))) else none
    | _ => none)
  | _, _ => none
def kSf (f : Store → M U) (nc : Nat) (x : Str) (e : Env) (v : U) (S : Store) : MS := inS (f S) e (kSf2 nc x e v)
def kEx (e : Env) (u : U) (S : Store) : MS := some (.nx e S)
def kRet (u : U) (S : Store) : MS := some (.rt u S)
def kLoop (g : List Nat) (f : Env → Store → MS) (e : Env) (l : List D) (S : Store) : MS := loopS g f l e S
end
section
variable (Γ : Ev) (e : Env) (S : Store)
theorem ev_int (i : Int) : evE Γ (.int i) e S = some (.ok (.d (.int i)) S) := rfl
theorem ev_str (i : Str) : evE Γ (.str i) e S = some (.ok (.d (.str i)) S) := rfl
theorem ev_bl (i : Bool) : evE Γ (.bl i) e S = some (.ok (.d (.bl i)) S) := rfl
theorem ev_non : evE Γ .non e S = some (.ok (.d .non) S) := rfl
def kVar (o : Option (Option U)) (S : Store) : M U := match o with
  | some (some u) => some (.ok u S)
  | _ => none
theorem ev_var (i : Nat) : evE Γ (.var i) e S = kVar e[i]? S := rfl
theorem ev_con (k : Nat) : evE Γ (.con k) e S = some (.ok (.d (Γ.con k)) S) := rfl
theorem ev_bop (o : Bop) (a b : E) : evE Γ (.bop o a b) e S = bnD (evE Γ a e S) (k2 (evE Γ b e) (bopD o)) := rfl
theorem ev_neg (a : E) : evE Γ (.neg a) e S = bnD (evE Γ a e S) kNeg := rfl
def cmpO (o : Cop) (x y : D) : Option D := (cmpD o x y).map .bl
theorem ev_cmp (o : Cop) (a b : E) : evE Γ (.cmp o a b) e S = bnD (evE Γ a e S) (k2 (evE Γ b e) (cmpO o)) := rfl
theorem ev_chain (o p : Cop) (a b c : E) : evE Γ (.chain o p a b c) e S = bnD (evE Γ a e S) (kCh (evE Γ b e) (evE Γ c e) o p) := by
  rw [evE]
  congr 1
  funext x S1
  unfold kCh
  congr 1
  funext y S2
  unfold kCh1 kCh2
  cases cmpD o x y with
  | none => rfl
  | some b => cases b <;> rfl
theorem ev_not (a : E) : evE Γ (.not a) e S = bnD (evE Γ a e S) kNot := rfl
theorem ev_and (a b : E) : evE Γ (.and a b) e S = bnD (evE Γ a e S) (kAnd (evE Γ b e)) := by
  rw [evE]
  congr 1
  funext x S1
  cases x <;> first | rfl | skip
  rename_i c
  cases c <;> rfl
theorem ev_or (a b : E) : evE Γ (.or a b) e S = bnD (evE Γ a e S) (kOr (evE Γ b e)) := by
  rw [evE]
  congr 1
  funext x S1
  cases x <;> first | rfl | skip
  rename_i c
  cases c <;> rfl
theorem ev_ite (t a b : E) : evE Γ (.ite t a b) e S = bnd (evT Γ t e S) (kIf (evE Γ a e) (evE Γ b e)) := rfl
theorem ev_ix (a i : E) : evE Γ (.ix a i) e S = bnd (evE Γ a e S) (kIx (evE Γ i e)) := rfl
theorem ev_sl (a l h : E) : evE Γ (.sl a l h) e S = bnD (evE Γ a e S) (kSl (evP Γ l e) (evP Γ h e)) := rfl
theorem ev_tup (es : E) : evE Γ (.tup es) e S = bnd (evL Γ es e S) kTup := rfl
theorem ev_lst (es : E) : evE Γ (.lst es) e S = bnd (evL Γ es e S) kLst := rfl
theorem ev_cel (es : E) : evE Γ (.cel es) e S = bnd (evL Γ es e S) kCel := rfl
theorem ev_catc (a b : E) : evE Γ (.catc a b) e S = bnD (evE Γ a e S) (kCat (evE Γ b e)) := rfl
theorem ev_map (ks : List Str) (es : E) : evE Γ (.map ks es) e S = bnd (evL Γ es e S) (kMap ks) := rfl
theorem ev_call (f : Nat) (es : E) : evE Γ (.call f es) e S = bnd (evL Γ es e S) (kFn (Γ.fn f)) := rfl
theorem ev_mkd (f : Nat) (es : E) : evE Γ (.mkd f es) e S = bnd (evL Γ es e S) (kMkd (Γ.fn f)) := rfl
theorem ev_prop (f : Nat) (a : E) : evE Γ (.prop f a) e S = bnD (evE Γ a e S) (kProp (Γ.fn f)) := rfl
theorem ev_fld (a : E) (x : Str) : evE Γ (.fld a x) e S = bnd (evE Γ a e S) (kFld Γ.nc x) := rfl
theorem ev_bi (b : Bi) (es : E) : evE Γ (.bi b es) e S = bnd (evL Γ es e S) (kBi b) := rfl
theorem ev_isi (t : Ty) (a : E) : evE Γ (.isi t a) e S = bnD (evE Γ a e S) (kIsi t) := rfl
theorem ev_cix (k : Nat) (a : E) : evE Γ (.cix k a) e S = bnD (evE Γ a e S) (kGiv (cixD (Γ.con k))) := rfl
theorem ev_app (o a : E) : evE Γ (.app o a) e S = bnd (evE Γ o e S) (kApp (evE Γ a e)) := rfl
theorem ev_popa (o a : E) : evE Γ (.popa o a) e S = bnd (evE Γ o e S) (kPop (evE Γ a e)) := rfl
theorem ev_lc (vs : List Nat) (it : E) (g : List Nat) (t el : E) : evE Γ (.lc vs it g t el) e S = bnd (evI Γ it e S) (kLc (item (evT Γ t) (evE Γ el) vs g e)) := rfl
theorem et_yes : evT Γ .yes e S = some (.ok true S) := rfl
theorem et_not (a : E) : evT Γ (.not a) e S = bnd (evT Γ a e S) kTnot := rfl
theorem et_and (a b : E) : evT Γ (.and a b) e S = bnd (evT Γ a e S) (kTand (evT Γ b e)) := rfl
theorem et_or (a b : E) : evT Γ (.or a b) e S = bnd (evT Γ a e S) (kTor (evT Γ b e)) := rfl
theorem et_ite (t a b : E) : evT Γ (.ite t a b) e S = bnd (evT Γ t e S) (kIf (evT Γ a e) (evT Γ b e)) := rfl
theorem et_cmp (o : Cop) (a b : E) : evT Γ (.cmp o a b) e S = bnD (evE Γ a e S) (kTcmp (evE Γ b e) o) := rfl
theorem et_call (f : Nat) (es : E) : evT Γ (.call f es) e S = bnd (evL Γ es e S) (kTfn (Γ.fn f)) := rfl
theorem et_isi (t : Ty) (a : E) : evT Γ (.isi t a) e S = bnD (evE Γ a e S) (kTisi t) := rfl
theorem et_bi (b : Bi) (es : E) : evT Γ (.bi b es) e S = bnd (evL Γ es e S) (kTbi b) := rfl
def kTvar (o : Option (Option U)) (S : Store) : M Bool := match o with
  | some (some (.d (.bl c))) => some (.ok c S)
  | _ => none
theorem et_var (i : Nat) : evT Γ (.var i) e S = kTvar e[i]? S := rfl
theorem el_nil : evL Γ .nil e S = some (.ok [] S) := rfl
theorem el_cons (a r : E) : evL Γ (.cons a r) e S = bnd (evE Γ a e S) (kL (evL Γ r e)) := rfl
theorem ep_nil : evP Γ .nil e S = some (.ok none S) := rfl
theorem ep_cons (a r : E) : evP Γ (.cons a r) e S = bnD (evE Γ a e S) kP := rfl
theorem ei_rng1 (a : E) : evI Γ (.rng1 a) e S = bnD (evE Γ a e S) kR1 := rfl
theorem ei_seq (a : E) : evI Γ (.cons a .nil) e S = bnD (evE Γ a e S) kSeq := rfl
theorem ei_enum (a : E) : evI Γ (.enum a) e S = bnD (evE Γ a e S) kEnum := rfl
theorem ei_zip (a b : E) : evI Γ (.zip a b) e S = bnD (evE Γ a e S) (kZip (evE Γ b e)) := rfl
theorem es_nop : evS Γ .nop e S = some (.nx e S) := rfl
theorem es_seq (a b : Stm) : evS Γ (.seq a b) e S = bndS (evS Γ a e S) (evS Γ b) := rfl
theorem es_asg (g : List Nat) (a : E) : evS Γ (.asg g a) e S = inS (evE Γ a e S) e (kSet g e) := rfl
theorem es_par (g : List Nat) (a : E) : evS Γ (.par g a) e S = inS (evL Γ a e S) e (kPar g e) := rfl
def kAug0 (o : Option (Option U)) (m : M U) (k : Int → U → Store → MS) (e : Env) : MS := match o with
  | some (some (.d (.int x))) => inS m e (k x)
  | _ => none
theorem es_aug (i : Nat) (o : Bop) (a : E) : evS Γ (.aug i o a) e S = kAug0 e[i]? (evE Γ a e S) (kAug i o e) e := rfl
theorem es_seti (o i a : E) : evS Γ (.seti o i a) e S = inS (evE Γ a e S) e (kSi (evE Γ o e) (evE Γ i e) e) := rfl
def kAi4 (b : Bop) (e : Env) (n : Nat) (k x : Int) (v : U) (S : Store) : MS := match b, v, S[n]? with
  | .add, .d (.int z), some (.lst l3) => (match plc l3.length k with
    | some j => some (.nx e (S.set n (.lst (l3.set j (.int (x + z))))))
    | none => none)
  | .sub, .d (.int z), some (.lst l3) => (match plc l3.length k with
    | some j => some (.nx e (S.set n (.lst (l3.set j (.int (x - z))))))
    | none => none)
  | _, _, _ => none
def kAi3 (f : Store → M U) (b : Bop) (e : Env) (u y : U) (S : Store) : MS := match u, y with
  | .loc n, .d (.int k) => (match S[n]? with
    | some (.lst l) => (match at_ l k with
      | some (.int x) => inS (f S) e (kAi4 b e n k x)
      | _ => none)
    | _ => none)
  | _, _ => none
def kAi2 (f g : Store → M U) (b : Bop) (e : Env) (u : U) (S : Store) : MS := inS (f S) e (kAi3 g b e u)
theorem es_augi (o i : E) (b : Bop) (a : E) : evS Γ (.augi o i b a) e S = inS (evE Γ o e S) e (kAi2 (evE Γ i e) (evE Γ a e) b e) := rfl
theorem es_setf (o : E) (x : Str) (a : E) : evS Γ (.setf o x a) e S = inS (evE Γ a e S) e (kSf (evE Γ o e) Γ.nc x e) := rfl
theorem es_ex (a : E) : evS Γ (.ex a) e S = inS (evE Γ a e S) e (kEx e) := rfl
theorem es_ret (a : E) : evS Γ (.ret a) e S = inS (evE Γ a e S) e kRet := rfl
theorem es_retN : evS Γ .retN e S = some (.rt (.d .non) S) := rfl
theorem es_whil (n : Nat) (t : E) (b : Stm) : evS Γ (.whil n t b) e S = whilS (evT Γ t) (evS Γ b) n e S := rfl
theorem es_ite (t : E) (a b : Stm) : evS Γ (.ite t a b) e S = inS (evT Γ t e S) e (kIf (evS Γ a e) (evS Γ b e)) := rfl
theorem es_loop (it : E) (g : List Nat) (b : Stm) : evS Γ (.loop it g b) e S = inS (evI Γ it e S) e (kLoop g (evS Γ b) e) := rfl
def kFrz (i : Nat) (e : Env) (S : Store) (o : Option (Option U)) : MS := match o with
  | some (some (.loc n)) => (match S[n]? with
    | some (.lst l) => some (.nx (e.set i (some (.d (.lst l)))) (S.set n .dead))
    | _ => none)
  | _ => none
theorem es_frz (i : Nat) : evS Γ (.frz i) e S = kFrz i e S e[i]? := rfl
end
section
variable (Γ : Ev) (e : Env) (S : Store)
def kRais (c : Nat) (xs : List Str) (e : Env) (us : List U) (S : Store) : MS := match lst1 us with
  | some l => if l.length = xs.length then some (.ex ⟨c, xs.zip l⟩ e S) else none
  | none => none
theorem es_rais (c : Nat) (xs : List Str) (es : E) : evS Γ (.rais c xs es) e S = inS (evL Γ es e S) e (kRais c xs e) := rfl
def kTri (f : Xn → Env → Store → MS) (m : MS) : MS := match m with
  | some (.ex x e1 S1) => if x.c < 8 then f x e1 S1 else none
  | r => r
theorem kTri_ex (f : Xn → Env → Store → MS) (x : Xn) (e1 : Env) (S1 : Store) : kTri f (some (.ex x e1 S1)) = if x.c < 8 then f x e1 S1 else none := rfl
theorem kTri_nx (f : Xn → Env → Store → MS) (e1 : Env) (S1 : Store) : kTri f (some (.nx e1 S1)) = some (.nx e1 S1) := rfl
theorem kTri_rt (f : Xn → Env → Store → MS) (u : U) (S1 : Store) : kTri f (some (.rt u S1)) = some (.rt u S1) := rfl
theorem es_tri (b h : Stm) : evS Γ (.tri b h) e S = kTri (evH Γ h) (evS Γ b e S) := rfl
theorem eh_hand (c : Nat) (b r : Stm) (x : Xn) : evH Γ (.hand c b r) x e S = if x.c = c then noXS (evS Γ b e S) else evH Γ r x e S := rfl
theorem eh_handX (c j t : Nat) (z : EX) (r : Stm) (x : Xn) : evH Γ (.handX c j t z r) x e S = if x.c = c then (if j < e.length then (match evX x.fs z with
    | some d => some (.nx ((e.set t (some (.d d))).set j none) S)
    | none => none) else none) else evH Γ r x e S := rfl
theorem eh_nop (x : Xn) : evH Γ .nop x e S = some (.ex x e S) := rfl
end
def kRn2 (x : D) (y : D) (S : Store) : M (List D) := match x, y with
  | .int i, .int j => pick (small62 i && small62 j) (some (.ok (rngL i j) S)) none
  | _, _ => none
def kRn (f : Store → M U) (x : D) (S : Store) : M (List D) := bnD (f S) (kRn2 x)
def kRev (x : D) (S : Store) : M U := match x with
  | .tup l => some (.ok (.d (.tup l.reverse)) S)
  | _ => none
def kLeno (c : Nat) (fn : List U → Store → M U) (u : U) (S : Store) : M U := if insOk c "__len__" u S then (match noX (fn [u] S) with
    | some (.ok (.d (.int n)) S2) => if 0 ≤ n ∧ n < 2 ^ 63 then some (.ok (.d (.int n)) S2) else none
    | _ => none) else none
def kEqo2 (fn : Nat → List U → Store → M U) (f : Nat) (u v : D) (S : Store) : M U := match eqO fn f u v S with
  | some (.ok c S3) => some (.ok (.d (.bl c)) S3)
  | _ => none
def kEqo (g : Store → M U) (fn : Nat → List U → Store → M U) (f : Nat) (u : D) (S : Store) : M U := bnD (g S) (kEqo2 fn f u)
def kTeqo2 (fn : Nat → List U → Store → M U) (f : Nat) (u v : D) (S : Store) : M Bool := match eqO fn f u v S with
  | some (.ok c S3) => some (.ok c S3)
  | _ => none
def kTeqo (g : Store → M U) (fn : Nat → List U → Store → M U) (f : Nat) (u : D) (S : Store) : M Bool := bnD (g S) (kTeqo2 fn f u)
section
variable (Γ : Ev) (e : Env) (S : Store)
theorem ei_rng2 (a b : E) : evI Γ (.rng2 a b) e S = bnD (evE Γ a e S) (kRn (evE Γ b e)) := rfl
theorem ev_rev (a : E) : evE Γ (.rev a) e S = bnD (evE Γ a e S) kRev := rfl
theorem ev_srt (a : E) : evE Γ (.srt a) e S = bnD (evE Γ a e S) (kGiv srtD) := rfl
theorem ev_leno (c f : Nat) (a : E) : evE Γ (.leno c f a) e S = bnd (evE Γ a e S) (kLeno c (Γ.fn f)) := rfl
theorem ev_eqo (f : Nat) (a b : E) : evE Γ (.eqo f a b) e S = bnD (evE Γ a e S) (kEqo (evE Γ b e) Γ.fn f) := rfl
theorem et_eqo (f : Nat) (a b : E) : evT Γ (.eqo f a b) e S = bnD (evE Γ a e S) (kTeqo (evE Γ b e) Γ.fn f) := rfl
def kSdef3 (u : U) (y : D) (d : D) (S3 : Store) : M U := match u, y with
  | .loc n, .bl b => (match S3[n]? with
    | some (.bdc kvs) => (match kvs.lookup b with
      | some z => some (.ok (.d z) S3)
      | none => some (.ok (.d d) (S3.set n (.bdc (kvs ++ [(b, d)])))))
    | _ => none)
  | _, _ => none
def kSdef2 (f : Store → M U) (u : U) (y : D) (S : Store) : M U := bnD (f S) (kSdef3 u y)
def kSdef (f g : Store → M U) (u : U) (S : Store) : M U := pick (isBdc u S) (bnD (f S) (kSdef2 g u)) none
def kBget2 (u : U) (y : D) (S2 : Store) : M U := match u, y with
  | .loc n, .bl b => (match S2[n]? with
    | some (.bdc kvs) => some (.ok (.d ((kvs.lookup b).getD .non)) S2)
    | _ => none)
  | _, _ => none
def kBget (f : Store → M U) (u : U) (S : Store) : M U := pick (isBdc u S) (bnD (f S) (kBget2 u)) none
theorem ev_bdn : evE Γ .bdn e S = some (.ok (.loc S.length) (S ++ [.bdc []])) := rfl
theorem ev_sdef (a k v : E) : evE Γ (.sdef a k v) e S = bnd (evE Γ a e S) (kSdef (evE Γ k e) (evE Γ v e)) := rfl
theorem ev_bget (a k : E) : evE Γ (.bget a k) e S = bnd (evE Γ a e S) (kBget (evE Γ k e)) := rfl
def kTx (g : D → D → Option D) (f : Store → M U) (x : D) (S : Store) : M U := pick (isiD .str x) (bnD (f S) (kGiv (g x))) none
theorem ev_join (a b : E) : evE Γ (.join a b) e S = bnD (evE Γ a e S) (kTx joinD (evE Γ b e)) := rfl
theorem ev_split (a b : E) : evE Γ (.split a b) e S = bnD (evE Γ a e S) (kTx splitD (evE Γ b e)) := rfl
theorem ev_nset (a : E) : evE Γ (.nset a) e S = bnD (evE Γ a e S) (kGiv nsetD) := rfl
def kMkc2 (k : Nat) (m : M U) : M U := match m with
  | some (.ok (.d .non) S2) => some (.ok (.loc k) S2)
  | some (.ex x S2) => some (.ex x (S2.take k))
  | _ => none
def kMkc (c : Nat) (f : List U → Store → M U) (us : List U) (S : Store) : M U := kMkc2 S.length (f (.loc S.length :: us) (S ++ [.ins c []]))
theorem ev_mkc (c f : Nat) (es : E) : evE Γ (.mkc c f es) e S = bnd (evL Γ es e S) (kMkc c (Γ.fn f)) := rfl
def kMeth2 (f : List U → Store → M U) (u : U) (us : List U) (S : Store) : M U := f (u :: us) S
def kMeth (c : Nat) (m : Str) (g : Store → M (List U)) (f : List U → Store → M U) (u : U) (S : Store) : M U := pick (insOk c m u S) (bnd (g S) (kMeth2 f u)) none
theorem ev_meth (c f : Nat) (m : Str) (a es : E) : evE Γ (.meth c f m a es) e S = bnd (evE Γ a e S) (kMeth c m (evL Γ es e) (Γ.fn f)) := rfl
def kFapp2 (x : Str) (u : U) (S1 : Store) (d : D) (S2 : Store) : M U := pick (sameO u S1 S2) (match ownL x u S2 with
  | some l => if l.length < line then some (.ok (.d .non) (ownW x u S2 (l ++ [d]))) else none
  | none => none) none
def kFapp (nc : Nat) (x : Str) (g : Store → M U) (u : U) (S1 : Store) : M U := pick (ownB nc x u S1) (bnD (g S1) (kFapp2 x u S1)) none
theorem ev_fapp (a v : E) (x : Str) : evE Γ (.fapp a x v) e S = bnd (evE Γ a e S) (kFapp Γ.nc x (evE Γ v e)) := rfl
def kFpop (nc : Nat) (x : Str) (u : U) (S1 : Store) : M U := pick (ownB nc x u S1) (match ownL x u S1 with
  | some l => (match l[l.length - 1]? with
    | some y => some (.ok (.d y) (ownW x u S1 l.dropLast))
    | none => none)
  | none => none) none
theorem ev_fpop (a : E) (x : Str) : evE Γ (.fpop a x) e S = bnd (evE Γ a e S) (kFpop Γ.nc x) := rfl
def kFix2 (x : Str) (u : U) (S1 : Store) (y : D) (S2 : Store) : M U := pick (sameO u S1 S2) (match ownL x u S2, y with
  | some l, .int j => giv (at_ l j) S2
  | _, _ => none) none
def kFix (nc : Nat) (x : Str) (g : Store → M U) (u : U) (S1 : Store) : M U := pick (ownB nc x u S1) (bnD (g S1) (kFix2 x u S1)) none
theorem ev_fix (a i : E) (x : Str) : evE Γ (.fix a x i) e S = bnd (evE Γ a e S) (kFix Γ.nc x (evE Γ i e)) := rfl
def kFlen (nc : Nat) (x : Str) (u : U) (S1 : Store) : M U := pick (ownB nc x u S1) (match ownL x u S1 with
  | some l => some (.ok (.d (.int l.length)) S1)
  | none => none) none
theorem ev_flen (a : E) (x : Str) : evE Γ (.flen a x) e S = bnd (evE Γ a e S) (kFlen Γ.nc x) := rfl
def kFtup (nc : Nat) (x : Str) (u : U) (S1 : Store) : M U := pick (ownB nc x u S1) (match ownL x u S1 with
  | some l => some (.ok (.d (.tup l)) S1)
  | none => none) none
theorem ev_ftup (a : E) (x : Str) : evE Γ (.ftup a x) e S = bnd (evE Γ a e S) (kFtup Γ.nc x) := rfl
def kTfeq0 (nc : Nat) (x : Str) (u : U) (S1 : Store) : M Bool := pick (ownB nc x u S1) (match ownL x u S1 with
  | some l => if okDs 49 l then some (.ok l.isEmpty S1) else none
  | none => none) none
theorem et_feq0 (a : E) (x : Str) : evT Γ (.feq0 a x) e S = bnd (evE Γ a e S) (kTfeq0 Γ.nc x) := rfl
def kSo2 (nc : Nat) (x : Str) (k : Nat) (e : Env) (u : U) (S2 : Store) : MS := match u with
  | .loc n => (match S2[n]?, S2[k]? with
    | some (.ins c fs), some (.lst l2) => if c < nc ∧ fs.length < 100 then (match fs.lookup x with
      | none => some (.nx e ((S2.set k .dead).set n (.ins c (putD x (.own l2) fs))))
      | _ => none) else none
    | _, _ => none)
  | _ => none
def kSo (nc : Nat) (x : Str) (g : Store → M U) (e : Env) (us : List U) (S1 : Store) : MS := match lst1 us with
  | some l => if l.length ≤ line then inS (g (S1 ++ [.lst l])) e (kSo2 nc x S1.length e) else none
  | none => none
theorem es_seto (o es : E) (x : Str) : evS Γ (.seto o x es) e S = inS (evL Γ es e S) e (kSo Γ.nc x (evE Γ o e) e) := rfl
def kAf2 (x : Str) (n c : Nat) (y : Int) (e : Env) (v : U) (S2 : Store) : MS := match v, S2[n]? with
  | .d (.int z), some (.ins c2 fs2) => if c2 = c ∧ fs2.length < 100 then (match fs2.lookup x with
      | some (.dat _) => some (.nx e (S2.set n (.ins c (putD x (.dat (.int (y + z))) fs2))))
      | _ => none) else none
  | _, _ => none
def kAf (nc : Nat) (x : Str) (g : Store → M U) (e : Env) (u : U) (S1 : Store) : MS := match u with
  | .loc n => (match S1[n]? with
    | some (.ins c fs) => if c < nc then (match fs.lookup x with
      | some (.dat (.int y)) => inS (g S1) e (kAf2 x n c y e)
      | _ => none) else none
    | _ => none)
  | _ => none
theorem es_augf (o a : E) (x : Str) : evS Γ (.augf o x .add a) e S = inS (evE Γ o e S) e (kAf Γ.nc x (evE Γ a e) e) := by
  rw [evS]
  congr 1
  funext u S1
  unfold kAf
  cases u with
  | d _ => rfl
  | err _ => rfl
  | loc n =>
    simp only
    cases S1[n]? with
    | none => rfl
    | some cc =>
      cases cc with
      | ins c fs =>
        simp only
        by_cases h : c < Γ.nc
        · rw [if_pos h, if_pos h]
          cases fs.lookup x with
          | none => rfl
          | some f =>
            cases f with
            | own _ => rfl
            | dat d =>
              cases d <;> first | rfl | skip
              rename_i y
              simp only
              congr 1
              funext v S2
              unfold kAf2
              cases v with
              | loc _ => cases S2[n]? <;> rfl
              | err _ => cases S2[n]? <;> rfl
              | d d2 =>
                cases d2 <;> first | (cases S2[n]? <;> rfl) | skip
                rename_i z
                cases S2[n]? with
                | none => rfl
                | some c2 => cases c2 <;> rfl
        · rw [if_neg h, if_neg h]
      | _ => rfl
/-- a turn of the inner walk, of the outer one -/
def inW (Γ : Ev) (n : Nat) (vs1 g1 : List Nat) (t1 el : E) (e1 : Env) : D → Store → M Unit := fun d1 S5 => noX (match bindTo g1 d1 (wipeE e1 vs1) with
  | none => none
  | some e2 => bnd (evT Γ t1 e2 S5) fun c1 S6 => if c1 then bnD (evE Γ el e2 S6) fun x S7 => (match S7[n]? with
      | some (.lst acc) => if acc.length < line then some (.ok () (S7.set n (.lst (acc ++ [x])))) else none
      | _ => none) else some (.ok () S6))
def outW (Γ : Ev) (n : Nat) (vs g : List Nat) (t : E) (vs1 : List Nat) (it1 : E) (g1 : List Nat) (t1 el : E) (e : Env) : D → Store → M Unit := fun d S2 => noX (match bindTo g d (wipeE e vs) with
  | none => none
  | some e1 => bnd (evT Γ t e1 S2) fun c S3 => if c then bnd (evI Γ it1 e1 S3) fun l1 S4 => walks (inW Γ n vs1 g1 t1 el e1) l1 S4 else some (.ok () S3))
def kLc2b (n : Nat) (_ : Unit) (S8 : Store) : M U := match S8[n]? with
  | some (.lst r) => some (.ok (.d (.lst r)) (S8.take n))
  | _ => none
def kLc2 (f : Nat → D → Store → M Unit) (l : List D) (S1 : Store) : M U := bnd (walks (f S1.length) l (S1 ++ [.lst []])) (kLc2b S1.length)
theorem ev_lc2 (vs : List Nat) (it : E) (g : List Nat) (t : E) (vs1 : List Nat) (it1 : E) (g1 : List Nat) (t1 el : E) : evE Γ (.lc2 vs it g t vs1 it1 g1 t1 el) e S = bnd (evI Γ it e S) (kLc2 fun n => outW Γ n vs g t vs1 it1 g1 t1 el e) := rfl
end
theorem ev_callD {Γ : Ev} {f : Nat} {es : E} {e : Env} {S S1 : Store} {us : List U} {r : M U} (h : evL Γ es e S = some (.ok us S1)) (h2 : Γ.fn f us S1 = r) : evE Γ (.call f es) e S = r := by
  rw [ev_call, h, bnd_ok]
  exact h2
theorem et_callD {Γ : Ev} {f : Nat} {es : E} {e : Env} {S S1 S2 : Store} {us : List U} {b : Bool} (h : evL Γ es e S = some (.ok us S1)) (h2 : Γ.fn f us S1 = some (.ok (.d (.bl b)) S2)) : evT Γ (.call f es) e S = some (.ok b S2) := by
  rw [et_call, h, bnd_ok]
  unfold kTfn
  rw [h2]
  rfl
theorem el_two {Γ : Ev} {a b : E} {e : Env} {S S1 S2 : Store} {u v : U} (h : evE Γ a e S = some (.ok u S1)) (h2 : evE Γ b e S1 = some (.ok v S2)) : evL Γ (.cons a (.cons b .nil)) e S = some (.ok [u, v] S2) := by
  rw [el_cons, h, bnd_ok]
  unfold kL
  rw [el_cons, h2, bnd_ok]
  rfl
theorem es_passes {Γ : Ev} {t : E} {a : Stm} {e : Env} {S S1 : Store} (h : evT Γ t e S = some (.ok true S1)) : evS Γ (.ite (.not t) a .nop) e S = some (.nx e S1) := by
  rw [es_ite, et_not, h]
  rfl
theorem ei_rngD {Γ : Ev} {a : E} {e : Env} {S S1 : Store} {j : Int} (h : evE Γ a e S = some (.ok (.d (.int j)) S1)) (hj : small62 j = true) : evI Γ (.rng1 a) e S = some (.ok (rngL 0 j) S1) := by
  rw [ei_rng1, h, bnD_ok]
  show pick (small62 j) _ _ = _
  rw [hj]
  rfl
/-- a call: its body is run -/
theorem run_at {df : Nat → Option Df} {con : Nat → D} {nc n f : Nat} {us : List U} {S : Store} {d : Df} {r : MS} (h1 : df f = some d) (h2 : us.length = d.np) (h : evS ⟨run df con nc n, con, nc⟩ d.body (start0 d us) S = r) :
    run df con nc (n + 1) f us S = fin S.length r := by
  unfold run
  rw [h1]
  simp only
  rw [if_pos h2, h]
theorem fin_d (d : D) (S T : Store) (h : T.take S.length = S) : fin S.length (some (.rt (.d d) T)) = some (.ok (.d d) S) := by
  show some (R.ok (U.d d) (T.take S.length)) = _
  rw [h]
end DL

namespace GI
open DL
/-- _law_random: 0 _law_script, 1 _law_salt, 2 _law_seed, 3 _law_cell -/
def ir1 : Stm := (.seq (.asg [2] (.var 1)) (.seq (.loop (.cons (.var 0) .nil) [3] (.asg [2] (.bop .mod (.bi .int (.cons (.bop .add (.bop .mul (.var 2) (.int 31)) (.bi .abs (.cons (.var 3) .nil))) .nil)) (.int 2147483647)))) (.ret (.catc (.lst (.cons (.var 2) (.cons (.int 0) .nil))) (.lc [3] (.cons (.var 0) .nil) [3] (.cmp .ge (.var 3) (.bop .pow (.int 10) (.int 18))) (.var 3))))))
/-- _law_pick: 0 _law_d, 1 _law_items -/
def ir2 : Stm := (.ret (.ix (.var 1) (.call 6 (.cons (.var 0) (.cons (.bi .len (.cons (.var 1) .nil)) .nil)))))
/-- _law_below: 0 _law_d, 1 _law_size, 2 _law_result -/
def ir6 : Stm := (.seq (.ite (.and (.cmp .eq (.ix (.var 0) (.int 1)) (.int 0)) (.cmp .gt (.bi .len (.cons (.var 0) .nil)) (.int 2))) (.seti (.var 0) (.int 1) (.popa (.var 0) (.int 2))) .nop) (.seq (.ite (.cmp .gt (.ix (.var 0) (.int 1)) (.int 0)) (.seq (.asg [2] (.bop .mod (.bi .int (.cons (.ix (.var 0) (.int 1)) .nil)) (.var 1))) (.seq (.seti (.var 0) (.int 1) (.bop .fdiv (.ix (.var 0) (.int 1)) (.var 1))) (.ret (.var 2)))) .nop) (.seq (.seti (.var 0) (.int 0) (.bop .mod (.bi .int (.cons (.bop .add (.bop .mul (.ix (.var 0) (.int 0)) (.int 48271)) (.int 11)) .nil)) (.int 2147483647))) (.ret (.bop .mod (.bi .int (.cons (.bop .fdiv (.ix (.var 0) (.int 0)) (.int 64)) .nil)) (.var 1))))))
/-- _law_equal: 0 _law_actual, 1 _law_expected, 2 _law_key, 3 _law_k -/
def ir8 : Stm := (.seq (.ite (.cmp .is (.var 1) .non) (.ret (.cmp .is (.var 0) .non)) .nop) (.seq (.ite (.isi .bool (.var 1)) (.ret (.and (.isi .bool (.var 0)) (.cmp .eq (.var 0) (.var 1)))) .nop) (.seq (.ite (.isi .int (.var 1)) (.ret (.and (.isi .int (.var 0)) (.and (.not (.isi .bool (.var 0))) (.cmp .eq (.var 0) (.var 1))))) .nop) (.seq (.ite (.isi .str (.var 1)) (.ret (.and (.isi .str (.var 0)) (.cmp .eq (.var 0) (.var 1)))) .nop) (.seq (.ite (.isi .dict (.var 1)) .stop .nop) (.seq (.ite (.cmp .ne (.isi .tup (.var 1)) (.isi .tup (.var 0))) (.ret (.bl false)) .nop) (.seq (.ite (.cmp .ne (.isi .lst (.var 1)) (.isi .lst (.var 0))) (.ret (.bl false)) .nop) (.seq (.ite (.cmp .ne (.bi .len (.cons (.var 0) .nil)) (.bi .len (.cons (.var 1) .nil))) (.ret (.bl false)) .nop) (.ret (.bi .all (.cons (.lc [3] (.rng1 (.bi .len (.cons (.var 1) .nil))) [3] .yes (.call 8 (.cons (.ix (.var 0) (.var 3)) (.cons (.ix (.var 1) (.var 3)) .nil)))) .nil)))))))))))
/-- law: 0 _law_script, 1 _law_d, 2 _law_k, 3 _law_one, 4 _law_two, 5 _law_due, 6 _law_good, 7 _law_e, 8 _law_other -/
def ir109 : Stm := (.seq (.asg [1] (.call 1 (.cons (.var 0) (.cons (.int 965) .nil)))) (.seq (.loop (.rng1 (.int 8)) [2] (.seq (.asg [3] (.call 2 (.cons (.var 1) (.cons (.lst (.cons (.str "a") (.cons (.str "") (.cons (.int 7) (.cons .non (.cons (.tup (.cons (.int 1) .nil)) (.cons (.lst (.cons (.int 2) .nil)) .nil))))))) .nil)))) (.seq (.asg [4] (.call 2 (.cons (.var 1) (.cons (.lst (.cons (.int 0) (.cons .non (.cons (.str "b") (.cons (.neg (.int 1)) .nil))))) .nil)))) (.seq (.asg [5] (.lst .nil)) (.seq (.ite (.cmp .gt (.var 2) (.int 4)) (.asg [5] (.ite (.cmp .lt (.var 2) (.int 7)) (.lst (.cons (.var 3) .nil)) (.lst (.cons (.var 3) (.cons (.var 4) .nil))))) .nop) (.seq (.asg [6] (.bl false)) (.seq (.tri (.ex (.call 110 (.cons (.var 2) (.cons (.var 3) (.cons (.var 4) .nil))))) (.handE 7 (.seq (.asg [6] (.and (.xiv (.var 7)) (.cmp .eq (.call 111 (.cons (.var 7) .nil)) (.lc [8] (.rng1 (.int 8)) [8] .yes (.cmp .eq (.var 8) (.var 2)))))) (.asg [6] (.and (.var 6) (.call 8 (.cons (.call 112 (.cons (.var 2) (.cons (.var 7) .nil))) (.cons (.var 5) .nil)))))))) (.ite (.not (.var 6)) (.ret (.bl false)) .nop)))))))) (.ret (.bl true))))
/-- _law_thrown: 0 _law_k, 1 _law_one, 2 _law_two -/
def ir110 : Stm := (.seq (.ite (.cmp .eq (.var 0) (.int 0)) (.rais 4 [] .nil) .nop) (.seq (.ite (.cmp .eq (.var 0) (.int 1)) (.rais 3 [] .nil) .nop) (.seq (.ite (.cmp .eq (.var 0) (.int 2)) (.rais 0 [] .nil) .nop) (.seq (.ite (.cmp .eq (.var 0) (.int 3)) (.rais 1 [] .nil) .nop) (.seq (.ite (.cmp .eq (.var 0) (.int 4)) (.rais 6 [] .nil) .nop) (.seq (.ite (.cmp .eq (.var 0) (.int 5)) (.rais 5 ["index"] (.cons (.var 1) .nil)) .nop) (.seq (.ite (.cmp .eq (.var 0) (.int 6)) (.rais 2 ["index"] (.cons (.var 1) .nil)) .nop) (.rais 7 ["line", "word"] (.cons (.var 1) (.cons (.var 2) .nil))))))))))
/-- _law_classes: 0 _law_e, 1 _law_found -/
def ir111 : Stm := (.seq (.asg [1] (.lst (.cons (.xis 4 (.var 0)) (.cons (.xis 3 (.var 0)) (.cons (.xis 0 (.var 0)) (.cons (.xis 1 (.var 0)) .nil)))))) (.seq (.asg [1] (.bop .add (.var 1) (.lst (.cons (.xis 6 (.var 0)) (.cons (.xis 5 (.var 0)) .nil))))) (.ret (.bop .add (.var 1) (.lst (.cons (.xis 2 (.var 0)) (.cons (.xis 7 (.var 0)) .nil)))))))
/-- _law_fields: 0 _law_k, 1 _law_e -/
def ir112 : Stm := (.seq (.ite (.cmp .lt (.var 0) (.int 5)) (.ret (.lst .nil)) .nop) (.ret (.ite (.cmp .lt (.var 0) (.int 7)) (.lst (.cons (.xfl (.var 1) "index") .nil)) (.lst (.cons (.xfl (.var 1) "line") (.cons (.xfl (.var 1) "word") .nil))))))
def df : Nat → Option Df
  | 1 => some ⟨2, 4, ir1⟩
  | 2 => some ⟨2, 2, ir2⟩
  | 6 => some ⟨2, 3, ir6⟩
  | 8 => some ⟨2, 4, ir8⟩
  | 109 => some ⟨1, 9, ir109⟩
  | 110 => some ⟨3, 3, ir110⟩
  | 111 => some ⟨1, 2, ir111⟩
  | 112 => some ⟨2, 2, ir112⟩
  | _ => none
def con : Nat → D
  | _ => .non
end GI

namespace GP
open DL GI
open PySem (Str)
/-! The law k15, run. -/
theorem at0 {A : Type} (x : A) (l : List A) : at_ (x :: l) 0 = some x := by
  have e : plc (x :: l).length 0 = some 0 := by unfold plc; rw [if_pos (by omega), if_pos (by first | (simp; done) | (simp; omega))]; rfl
  unfold at_; rw [e]; rfl
theorem at1 {A : Type} (x y : A) (l : List A) : at_ (x :: y :: l) 1 = some y := by
  have e : plc (x :: y :: l).length 1 = some 1 := by unfold plc; rw [if_pos (by omega), if_pos (by first | (simp; done) | (simp; omega))]; rfl
  unfold at_; rw [e]; rfl
theorem plc0 (n : Nat) : plc (n + 1) 0 = some 0 := by unfold plc; rw [if_pos (by omega), if_pos (by omega)]; rfl
theorem plc1 (n : Nat) : plc (n + 1 + 1) 1 = some 1 := by unfold plc; rw [if_pos (by omega), if_pos (by omega)]; rfl
theorem plc2 (n : Nat) : plc (n + 1 + 1 + 1) 2 = some 2 := by unfold plc; rw [if_pos (by omega), if_pos (by omega)]; rfl

/-- the law's source of numbers -/
structure Src where
  a : Int
  b : Int
  rest : List Int
def Src.c (q : Src) : Cell := .lst (.int q.a :: .int q.b :: q.rest.map D.int)
def below1 : Stm := (.ite (.and (.cmp .eq (.ix (.var 0) (.int 1)) (.int 0)) (.cmp .gt (.bi .len (.cons (.var 0) .nil)) (.int 2))) (.seti (.var 0) (.int 1) (.popa (.var 0) (.int 2))) .nop)
def below2 : Stm := (.seq (.ite (.cmp .gt (.ix (.var 0) (.int 1)) (.int 0)) (.seq (.asg [2] (.bop .mod (.bi .int (.cons (.ix (.var 0) (.int 1)) .nil)) (.var 1))) (.seq (.seti (.var 0) (.int 1) (.bop .fdiv (.ix (.var 0) (.int 1)) (.var 1))) (.ret (.var 2)))) .nop) (.seq (.seti (.var 0) (.int 0) (.bop .mod (.bi .int (.cons (.bop .add (.bop .mul (.ix (.var 0) (.int 0)) (.int 48271)) (.int 11)) .nil)) (.int 2147483647))) (.ret (.bop .mod (.bi .int (.cons (.bop .fdiv (.ix (.var 0) (.int 0)) (.int 64)) .nil)) (.var 1)))))
theorem below_1 (Γ : Ev) (sz : Int) (x : Option U) (q : Src) (T : Store) : ∃ q' : Src, evS Γ below1 [some (.loc 0), some (.d (.int sz)), x] (q.c :: T) = some (.nx [some (.loc 0), some (.d (.int sz)), x] (q'.c :: T)) := by
  obtain ⟨a, b, rest⟩ := q
  by_cases hb : b = 0
  · cases rest with
    | nil => exact ⟨⟨a, b, []⟩, by simp [below1, Src.c, at1, hb, ev_join, ev_split, kTx, ev_nset, ev_mkc, kMkc, kMkc2, ev_meth, kMeth, kMeth2, ev_fapp, kFapp, kFapp2, ev_fpop, kFpop, ev_fix, kFix, kFix2, ev_flen, kFlen, ev_ftup, kFtup, et_feq0, kTfeq0, es_seto, kSo, kSo2, es_augf, kAf, kAf2, ownB, ownL, ownW, sameO, ownN, insOk, ev_bdn, ev_sdef, ev_bget, ei_rng2, ev_rev, ev_srt, kRn2, kRn, kRev, mapTup, es_rais, kRais, es_tri, kTri_ex, kTri_nx, kTri_rt, eh_hand, eh_handX, eh_nop, evX, noXS_nx, noXS_rt, bnd_ex, bnD_ex, bndS_ex, inS_ex, line, es_augi, kAi2, kAi3, kAi4, repl, ev_int, ev_str, ev_bl, ev_non, ev_var, ev_con, ev_bop, ev_neg, ev_cmp, ev_chain, ev_not, ev_and, ev_or, ev_ite, ev_ix, ev_sl, ev_tup, ev_lst, ev_cel, ev_catc, ev_map, ev_call, ev_mkd, ev_prop, ev_fld, ev_bi, ev_isi, ev_cix, ev_app, ev_popa, ev_lc, et_yes, et_not, et_and, et_or, et_ite, et_cmp, et_call, et_isi, et_bi, et_var, el_nil, el_cons, ep_nil, ep_cons, ei_rng1, ei_seq, ei_enum, ei_zip, es_nop, es_seq, es_asg, es_par, es_aug, es_seti, es_setf, es_ex, es_ret, es_retN, es_ite, es_loop, es_frz, kGiv, k2, kNeg, kNot, kAnd, kOr, kIf, kCh2, kCh1, kCh, kIx2, kIx, kSl3, kSl2, kSl, kTup, kLst, kCel, kCat2, kCat, kMap, kFn, kProp, kFld, kBi, kIsi, kApp2, kApp, kPop2, kPop, kOkL, kLc, kIt1, kIt2, item, kTnot, kTand, kTor, oB, kTcmp2, kTcmp, kTb, kTfn, kTisi, kTbi, kL2, kL, kP, kR1, kSeq, kEnum, kZip2, kZip, kSet, kPar, kAug, kAug0, kSi3, kSi2, kSi, kSf2, kSf, kEx, kRet, kLoop, kVar, kTvar, kFrz, cmpO, start0, bindU, bindTo, setAll, wipeE, lst1, seqOf, biU, biD, bopD, cmpD, ixD, isiD, cixD, idxS, strsOf, intC, eqC, eqD, eqDs, scal, memD, flat, str_inj, str_beq, List.lookup_cons, List.lookup_nil, putD, isLst, loopS, walk, noX, bnd_ok, bnd_none, bnD_ok, bnD_none, bndS_nx, bndS_rt, bndS_none, inS_ok, inS_none, giv_some, giv_none, pick_t, pick_f]⟩
    | cons v rest =>
      refine ⟨⟨a, v, rest⟩, ?_⟩
      have h2 : (2 : Int) < (rest.length : Int) + 1 + 1 + 1 := by omega
      simp [below1, Src.c, at1, hb, plc1, plc2, h2, small62, ev_join, ev_split, kTx, ev_nset, ev_mkc, kMkc, kMkc2, ev_meth, kMeth, kMeth2, ev_fapp, kFapp, kFapp2, ev_fpop, kFpop, ev_fix, kFix, kFix2, ev_flen, kFlen, ev_ftup, kFtup, et_feq0, kTfeq0, es_seto, kSo, kSo2, es_augf, kAf, kAf2, ownB, ownL, ownW, sameO, ownN, insOk, ev_bdn, ev_sdef, ev_bget, ei_rng2, ev_rev, ev_srt, kRn2, kRn, kRev, mapTup, es_rais, kRais, es_tri, kTri_ex, kTri_nx, kTri_rt, eh_hand, eh_handX, eh_nop, evX, noXS_nx, noXS_rt, bnd_ex, bnD_ex, bndS_ex, inS_ex, line, es_augi, kAi2, kAi3, kAi4, repl, ev_int, ev_str, ev_bl, ev_non, ev_var, ev_con, ev_bop, ev_neg, ev_cmp, ev_chain, ev_not, ev_and, ev_or, ev_ite, ev_ix, ev_sl, ev_tup, ev_lst, ev_cel, ev_catc, ev_map, ev_call, ev_mkd, ev_prop, ev_fld, ev_bi, ev_isi, ev_cix, ev_app, ev_popa, ev_lc, et_yes, et_not, et_and, et_or, et_ite, et_cmp, et_call, et_isi, et_bi, et_var, el_nil, el_cons, ep_nil, ep_cons, ei_rng1, ei_seq, ei_enum, ei_zip, es_nop, es_seq, es_asg, es_par, es_aug, es_seti, es_setf, es_ex, es_ret, es_retN, es_ite, es_loop, es_frz, kGiv, k2, kNeg, kNot, kAnd, kOr, kIf, kCh2, kCh1, kCh, kIx2, kIx, kSl3, kSl2, kSl, kTup, kLst, kCel, kCat2, kCat, kMap, kFn, kProp, kFld, kBi, kIsi, kApp2, kApp, kPop2, kPop, kOkL, kLc, kIt1, kIt2, item, kTnot, kTand, kTor, oB, kTcmp2, kTcmp, kTb, kTfn, kTisi, kTbi, kL2, kL, kP, kR1, kSeq, kEnum, kZip2, kZip, kSet, kPar, kAug, kAug0, kSi3, kSi2, kSi, kSf2, kSf, kEx, kRet, kLoop, kVar, kTvar, kFrz, cmpO, start0, bindU, bindTo, setAll, wipeE, lst1, seqOf, biU, biD, bopD, cmpD, ixD, isiD, cixD, idxS, strsOf, intC, eqC, eqD, eqDs, scal, memD, flat, str_inj, str_beq, List.lookup_cons, List.lookup_nil, putD, isLst, loopS, walk, noX, bnd_ok, bnd_none, bnD_ok, bnD_none, bndS_nx, bndS_rt, bndS_none, inS_ok, inS_none, giv_some, giv_none, pick_t, pick_f]
  · exact ⟨⟨a, b, rest⟩, by simp [below1, Src.c, at1, beq_false_of_ne hb, ev_join, ev_split, kTx, ev_nset, ev_mkc, kMkc, kMkc2, ev_meth, kMeth, kMeth2, ev_fapp, kFapp, kFapp2, ev_fpop, kFpop, ev_fix, kFix, kFix2, ev_flen, kFlen, ev_ftup, kFtup, et_feq0, kTfeq0, es_seto, kSo, kSo2, es_augf, kAf, kAf2, ownB, ownL, ownW, sameO, ownN, insOk, ev_bdn, ev_sdef, ev_bget, ei_rng2, ev_rev, ev_srt, kRn2, kRn, kRev, mapTup, es_rais, kRais, es_tri, kTri_ex, kTri_nx, kTri_rt, eh_hand, eh_handX, eh_nop, evX, noXS_nx, noXS_rt, bnd_ex, bnD_ex, bndS_ex, inS_ex, line, es_augi, kAi2, kAi3, kAi4, repl, ev_int, ev_str, ev_bl, ev_non, ev_var, ev_con, ev_bop, ev_neg, ev_cmp, ev_chain, ev_not, ev_and, ev_or, ev_ite, ev_ix, ev_sl, ev_tup, ev_lst, ev_cel, ev_catc, ev_map, ev_call, ev_mkd, ev_prop, ev_fld, ev_bi, ev_isi, ev_cix, ev_app, ev_popa, ev_lc, et_yes, et_not, et_and, et_or, et_ite, et_cmp, et_call, et_isi, et_bi, et_var, el_nil, el_cons, ep_nil, ep_cons, ei_rng1, ei_seq, ei_enum, ei_zip, es_nop, es_seq, es_asg, es_par, es_aug, es_seti, es_setf, es_ex, es_ret, es_retN, es_ite, es_loop, es_frz, kGiv, k2, kNeg, kNot, kAnd, kOr, kIf, kCh2, kCh1, kCh, kIx2, kIx, kSl3, kSl2, kSl, kTup, kLst, kCel, kCat2, kCat, kMap, kFn, kProp, kFld, kBi, kIsi, kApp2, kApp, kPop2, kPop, kOkL, kLc, kIt1, kIt2, item, kTnot, kTand, kTor, oB, kTcmp2, kTcmp, kTb, kTfn, kTisi, kTbi, kL2, kL, kP, kR1, kSeq, kEnum, kZip2, kZip, kSet, kPar, kAug, kAug0, kSi3, kSi2, kSi, kSf2, kSf, kEx, kRet, kLoop, kVar, kTvar, kFrz, cmpO, start0, bindU, bindTo, setAll, wipeE, lst1, seqOf, biU, biD, bopD, cmpD, ixD, isiD, cixD, idxS, strsOf, intC, eqC, eqD, eqDs, scal, memD, flat, str_inj, str_beq, List.lookup_cons, List.lookup_nil, putD, isLst, loopS, walk, noX, bnd_ok, bnd_none, bnD_ok, bnD_none, bndS_nx, bndS_rt, bndS_none, inS_ok, inS_none, giv_some, giv_none, pick_t, pick_f]⟩
theorem below_2 (Γ : Ev) (sz : Int) (h1 : 0 < sz) (h2 : sz < 1073741824) (q : Src) (T : Store) : ∃ (r : Int) (q' : Src), evS Γ below2 [some (.loc 0), some (.d (.int sz)), none] (q.c :: T) = some (.rt (.d (.int r)) (q'.c :: T)) ∧ 0 ≤ r ∧ r < sz := by
  obtain ⟨a, b, rest⟩ := q
  by_cases hb : 0 < b
  · refine ⟨b % sz, ⟨a, b / sz, rest⟩, ?_, Int.emod_nonneg _ (by omega), Int.emod_lt_of_pos _ h1⟩
    simp [below2, Src.c, at1, hb, plc1, h1, h2, ev_join, ev_split, kTx, ev_nset, ev_mkc, kMkc, kMkc2, ev_meth, kMeth, kMeth2, ev_fapp, kFapp, kFapp2, ev_fpop, kFpop, ev_fix, kFix, kFix2, ev_flen, kFlen, ev_ftup, kFtup, et_feq0, kTfeq0, es_seto, kSo, kSo2, es_augf, kAf, kAf2, ownB, ownL, ownW, sameO, ownN, insOk, ev_bdn, ev_sdef, ev_bget, ei_rng2, ev_rev, ev_srt, kRn2, kRn, kRev, mapTup, es_rais, kRais, es_tri, kTri_ex, kTri_nx, kTri_rt, eh_hand, eh_handX, eh_nop, evX, noXS_nx, noXS_rt, bnd_ex, bnD_ex, bndS_ex, inS_ex, line, es_augi, kAi2, kAi3, kAi4, repl, ev_int, ev_str, ev_bl, ev_non, ev_var, ev_con, ev_bop, ev_neg, ev_cmp, ev_chain, ev_not, ev_and, ev_or, ev_ite, ev_ix, ev_sl, ev_tup, ev_lst, ev_cel, ev_catc, ev_map, ev_call, ev_mkd, ev_prop, ev_fld, ev_bi, ev_isi, ev_cix, ev_app, ev_popa, ev_lc, et_yes, et_not, et_and, et_or, et_ite, et_cmp, et_call, et_isi, et_bi, et_var, el_nil, el_cons, ep_nil, ep_cons, ei_rng1, ei_seq, ei_enum, ei_zip, es_nop, es_seq, es_asg, es_par, es_aug, es_seti, es_setf, es_ex, es_ret, es_retN, es_ite, es_loop, es_frz, kGiv, k2, kNeg, kNot, kAnd, kOr, kIf, kCh2, kCh1, kCh, kIx2, kIx, kSl3, kSl2, kSl, kTup, kLst, kCel, kCat2, kCat, kMap, kFn, kProp, kFld, kBi, kIsi, kApp2, kApp, kPop2, kPop, kOkL, kLc, kIt1, kIt2, item, kTnot, kTand, kTor, oB, kTcmp2, kTcmp, kTb, kTfn, kTisi, kTbi, kL2, kL, kP, kR1, kSeq, kEnum, kZip2, kZip, kSet, kPar, kAug, kAug0, kSi3, kSi2, kSi, kSf2, kSf, kEx, kRet, kLoop, kVar, kTvar, kFrz, cmpO, start0, bindU, bindTo, setAll, wipeE, lst1, seqOf, biU, biD, bopD, cmpD, ixD, isiD, cixD, idxS, strsOf, intC, eqC, eqD, eqDs, scal, memD, flat, str_inj, str_beq, List.lookup_cons, List.lookup_nil, putD, isLst, loopS, walk, noX, bnd_ok, bnd_none, bnD_ok, bnD_none, bndS_nx, bndS_rt, bndS_none, inS_ok, inS_none, giv_some, giv_none, pick_t, pick_f]
  · refine ⟨(((a * 48271 + 11) % 2147483647) / 64) % sz, ⟨(a * 48271 + 11) % 2147483647, b, rest⟩, ?_, Int.emod_nonneg _ (by omega), Int.emod_lt_of_pos _ h1⟩
    simp [below2, Src.c, at1, at0, hb, plc0, h1, h2, small64, ev_join, ev_split, kTx, ev_nset, ev_mkc, kMkc, kMkc2, ev_meth, kMeth, kMeth2, ev_fapp, kFapp, kFapp2, ev_fpop, kFpop, ev_fix, kFix, kFix2, ev_flen, kFlen, ev_ftup, kFtup, et_feq0, kTfeq0, es_seto, kSo, kSo2, es_augf, kAf, kAf2, ownB, ownL, ownW, sameO, ownN, insOk, ev_bdn, ev_sdef, ev_bget, ei_rng2, ev_rev, ev_srt, kRn2, kRn, kRev, mapTup, es_rais, kRais, es_tri, kTri_ex, kTri_nx, kTri_rt, eh_hand, eh_handX, eh_nop, evX, noXS_nx, noXS_rt, bnd_ex, bnD_ex, bndS_ex, inS_ex, line, es_augi, kAi2, kAi3, kAi4, repl, ev_int, ev_str, ev_bl, ev_non, ev_var, ev_con, ev_bop, ev_neg, ev_cmp, ev_chain, ev_not, ev_and, ev_or, ev_ite, ev_ix, ev_sl, ev_tup, ev_lst, ev_cel, ev_catc, ev_map, ev_call, ev_mkd, ev_prop, ev_fld, ev_bi, ev_isi, ev_cix, ev_app, ev_popa, ev_lc, et_yes, et_not, et_and, et_or, et_ite, et_cmp, et_call, et_isi, et_bi, et_var, el_nil, el_cons, ep_nil, ep_cons, ei_rng1, ei_seq, ei_enum, ei_zip, es_nop, es_seq, es_asg, es_par, es_aug, es_seti, es_setf, es_ex, es_ret, es_retN, es_ite, es_loop, es_frz, kGiv, k2, kNeg, kNot, kAnd, kOr, kIf, kCh2, kCh1, kCh, kIx2, kIx, kSl3, kSl2, kSl, kTup, kLst, kCel, kCat2, kCat, kMap, kFn, kProp, kFld, kBi, kIsi, kApp2, kApp, kPop2, kPop, kOkL, kLc, kIt1, kIt2, item, kTnot, kTand, kTor, oB, kTcmp2, kTcmp, kTb, kTfn, kTisi, kTbi, kL2, kL, kP, kR1, kSeq, kEnum, kZip2, kZip, kSet, kPar, kAug, kAug0, kSi3, kSi2, kSi, kSf2, kSf, kEx, kRet, kLoop, kVar, kTvar, kFrz, cmpO, start0, bindU, bindTo, setAll, wipeE, lst1, seqOf, biU, biD, bopD, cmpD, ixD, isiD, cixD, idxS, strsOf, intC, eqC, eqD, eqDs, scal, memD, flat, str_inj, str_beq, List.lookup_cons, List.lookup_nil, putD, isLst, loopS, walk, noX, bnd_ok, bnd_none, bnD_ok, bnD_none, bndS_nx, bndS_rt, bndS_none, inS_ok, inS_none, giv_some, giv_none, pick_t, pick_f]
/-- behind a def's end -/
theorem fin_q (d : D) (c c' : Cell) (T : Store) : fin (c :: T).length (some (.rt (.d d) (c' :: T))) = some (.ok (.d d) (c' :: T)) := by
  simp [fin]
theorem r_below (k : Nat) (sz : Int) (h1 : 0 < sz) (h2 : sz < 1073741824) (q : Src) (T : Store) : ∃ (r : Int) (q' : Src), run df con 0 (k + 1) 6 [.loc 0, .d (.int sz)] (q.c :: T) = some (.ok (.d (.int r)) (q'.c :: T)) ∧ 0 ≤ r ∧ r < sz := by
  obtain ⟨q1, e1⟩ := below_1 ⟨run df con 0 k, con, 0⟩ sz none q T
  obtain ⟨r, q', e2, h3, h4⟩ := below_2 ⟨run df con 0 k, con, 0⟩ sz h1 h2 q1 T
  refine ⟨r, q', ?_, h3, h4⟩
  refine (run_at (d := ⟨2, 3, ir6⟩) (r := some (.rt (.d (.int r)) (q'.c :: T))) rfl rfl ?_).trans (fin_q _ _ _ _)
  show bndS (evS _ below1 _ _) (evS _ below2) = _
  rw [show start0 ⟨2, 3, ir6⟩ [.loc 0, .d (.int sz)] = [some (.loc 0), some (.d (.int sz)), none] from rfl, e1, bndS_nx, e2]
/-- one of the items -/
theorem at_in {A : Type} (l : List A) (r : Int) (h0 : 0 ≤ r) (h1 : r < l.length) : ∃ x, at_ l r = some x ∧ x ∈ l := by
  have e : plc l.length r = some r.toNat := by unfold plc; rw [if_pos h0, if_pos h1]
  have h2 : r.toNat < l.length := by omega
  refine ⟨l[r.toNat], ?_, List.getElem_mem _⟩
  unfold at_; rw [e]; simp [h2]
theorem r_pick (k : Nat) (items : List D) (h1 : items ≠ []) (h2 : items.length < 1000) (q : Src) (T : Store) : ∃ (x : D) (q' : Src), run df con 0 (k + 2) 2 [.loc 0, .d (.lst items)] (q.c :: T) = some (.ok (.d x) (q'.c :: T)) ∧ x ∈ items := by
  have hp : (0 : Int) < items.length := by have := List.length_pos_iff.mpr h1; omega
  obtain ⟨r, q', e, h3, h4⟩ := r_below k items.length hp (by omega) q T
  obtain ⟨x, e2, hx⟩ := at_in items r h3 h4
  refine ⟨x, q', ?_, hx⟩
  refine (run_at (r := some (.rt (.d x) (q'.c :: T))) rfl rfl ?_).trans (fin_q _ _ _ _)
  simp [ir2, e, e2, ev_join, ev_split, kTx, ev_nset, ev_mkc, kMkc, kMkc2, ev_meth, kMeth, kMeth2, ev_fapp, kFapp, kFapp2, ev_fpop, kFpop, ev_fix, kFix, kFix2, ev_flen, kFlen, ev_ftup, kFtup, et_feq0, kTfeq0, es_seto, kSo, kSo2, es_augf, kAf, kAf2, ownB, ownL, ownW, sameO, ownN, insOk, ev_bdn, ev_sdef, ev_bget, ei_rng2, ev_rev, ev_srt, kRn2, kRn, kRev, mapTup, es_rais, kRais, es_tri, kTri_ex, kTri_nx, kTri_rt, eh_hand, eh_handX, eh_nop, evX, noXS_nx, noXS_rt, bnd_ex, bnD_ex, bndS_ex, inS_ex, line, es_augi, kAi2, kAi3, kAi4, repl, ev_int, ev_str, ev_bl, ev_non, ev_var, ev_con, ev_bop, ev_neg, ev_cmp, ev_chain, ev_not, ev_and, ev_or, ev_ite, ev_ix, ev_sl, ev_tup, ev_lst, ev_cel, ev_catc, ev_map, ev_call, ev_mkd, ev_prop, ev_fld, ev_bi, ev_isi, ev_cix, ev_app, ev_popa, ev_lc, et_yes, et_not, et_and, et_or, et_ite, et_cmp, et_call, et_isi, et_bi, et_var, el_nil, el_cons, ep_nil, ep_cons, ei_rng1, ei_seq, ei_enum, ei_zip, es_nop, es_seq, es_asg, es_par, es_aug, es_seti, es_setf, es_ex, es_ret, es_retN, es_ite, es_loop, es_frz, kGiv, k2, kNeg, kNot, kAnd, kOr, kIf, kCh2, kCh1, kCh, kIx2, kIx, kSl3, kSl2, kSl, kTup, kLst, kCel, kCat2, kCat, kMap, kFn, kProp, kFld, kBi, kIsi, kApp2, kApp, kPop2, kPop, kOkL, kLc, kIt1, kIt2, item, kTnot, kTand, kTor, oB, kTcmp2, kTcmp, kTb, kTfn, kTisi, kTbi, kL2, kL, kP, kR1, kSeq, kEnum, kZip2, kZip, kSet, kPar, kAug, kAug0, kSi3, kSi2, kSi, kSf2, kSf, kEx, kRet, kLoop, kVar, kTvar, kFrz, cmpO, start0, bindU, bindTo, setAll, wipeE, lst1, seqOf, biU, biD, bopD, cmpD, ixD, isiD, cixD, idxS, strsOf, intC, eqC, eqD, eqDs, scal, memD, flat, str_inj, str_beq, List.lookup_cons, List.lookup_nil, putD, isLst, loopS, walk, noX, bnd_ok, bnd_none, bnD_ok, bnD_none, bndS_nx, bndS_rt, bndS_none, inS_ok, inS_none, giv_some, giv_none, pick_t, pick_f]
/-! ### the source -/
def rnd1 : Stm := (.asg [2] (.bop .mod (.bi .int (.cons (.bop .add (.bop .mul (.var 2) (.int 31)) (.bi .abs (.cons (.var 3) .nil))) .nil)) (.int 2147483647)))
theorem loop1 (Γ : Ev) (u v : Option U) : ∀ (l : List Int) (seed : Int) (x : Option U), ∃ seed' x', loopS [3] (evS Γ rnd1) (l.map D.int) [u, v, some (.d (.int seed)), x] [] = some (.nx [u, v, some (.d (.int seed')), x'] [])
  | [], seed, x => ⟨seed, x, rfl⟩
  | i :: l, seed, x => by
    obtain ⟨seed', x', ih⟩ := loop1 Γ u v l ((seed * 31 + (if i < 0 then -i else i)) % 2147483647) (some (.d (.int i)))
    refine ⟨seed', x', ?_⟩
    have e : evS Γ rnd1 [u, v, some (.d (.int seed)), some (.d (.int i))] [] = some (.nx [u, v, some (.d (.int ((seed * 31 + (if i < 0 then -i else i)) % 2147483647))), some (.d (.int i))] []) := by
      simp [rnd1, small64, ev_join, ev_split, kTx, ev_nset, ev_mkc, kMkc, kMkc2, ev_meth, kMeth, kMeth2, ev_fapp, kFapp, kFapp2, ev_fpop, kFpop, ev_fix, kFix, kFix2, ev_flen, kFlen, ev_ftup, kFtup, et_feq0, kTfeq0, es_seto, kSo, kSo2, es_augf, kAf, kAf2, ownB, ownL, ownW, sameO, ownN, insOk, ev_bdn, ev_sdef, ev_bget, ei_rng2, ev_rev, ev_srt, kRn2, kRn, kRev, mapTup, es_rais, kRais, es_tri, kTri_ex, kTri_nx, kTri_rt, eh_hand, eh_handX, eh_nop, evX, noXS_nx, noXS_rt, bnd_ex, bnD_ex, bndS_ex, inS_ex, line, es_augi, kAi2, kAi3, kAi4, repl, ev_int, ev_str, ev_bl, ev_non, ev_var, ev_con, ev_bop, ev_neg, ev_cmp, ev_chain, ev_not, ev_and, ev_or, ev_ite, ev_ix, ev_sl, ev_tup, ev_lst, ev_cel, ev_catc, ev_map, ev_call, ev_mkd, ev_prop, ev_fld, ev_bi, ev_isi, ev_cix, ev_app, ev_popa, ev_lc, et_yes, et_not, et_and, et_or, et_ite, et_cmp, et_call, et_isi, et_bi, et_var, el_nil, el_cons, ep_nil, ep_cons, ei_rng1, ei_seq, ei_enum, ei_zip, es_nop, es_seq, es_asg, es_par, es_aug, es_seti, es_setf, es_ex, es_ret, es_retN, es_ite, es_loop, es_frz, kGiv, k2, kNeg, kNot, kAnd, kOr, kIf, kCh2, kCh1, kCh, kIx2, kIx, kSl3, kSl2, kSl, kTup, kLst, kCel, kCat2, kCat, kMap, kFn, kProp, kFld, kBi, kIsi, kApp2, kApp, kPop2, kPop, kOkL, kLc, kIt1, kIt2, item, kTnot, kTand, kTor, oB, kTcmp2, kTcmp, kTb, kTfn, kTisi, kTbi, kL2, kL, kP, kR1, kSeq, kEnum, kZip2, kZip, kSet, kPar, kAug, kAug0, kSi3, kSi2, kSi, kSf2, kSf, kEx, kRet, kLoop, kVar, kTvar, kFrz, cmpO, start0, bindU, bindTo, setAll, wipeE, lst1, seqOf, biU, biD, bopD, cmpD, ixD, isiD, cixD, idxS, strsOf, intC, eqC, eqD, eqDs, scal, memD, flat, str_inj, str_beq, List.lookup_cons, List.lookup_nil, putD, isLst, loopS, walk, noX, bnd_ok, bnd_none, bnD_ok, bnD_none, bndS_nx, bndS_rt, bndS_none, inS_ok, inS_none, giv_some, giv_none, pick_t, pick_f]
    show bndS (evS Γ rnd1 [u, v, some (.d (.int seed)), some (.d (.int i))] []) _ = _
    rw [e, bndS_nx]
    exact ih
theorem walk1 (Γ : Ev) (u v w x : Option U) : ∀ (l : List Int) (acc : List D), ∃ m : List Int, walk (item (evT Γ (.cmp .ge (.var 3) (.bop .pow (.int 10) (.int 18)))) (evE Γ (.var 3)) [3] [3] [u, v, w, x]) acc (l.map D.int) [] = some (.ok (acc ++ m.map D.int) []) ∧ m.length ≤ l.length
  | [], acc => ⟨[], by simp [walk], Nat.le_refl _⟩
  | i :: l, acc => by
    by_cases h : 1000000000000000000 ≤ i
    · obtain ⟨m, ih, hm⟩ := walk1 Γ u v w x l (acc ++ [.int i])
      refine ⟨i :: m, ?_, by simp; exact hm⟩
      have e : item (evT Γ (.cmp .ge (.var 3) (.bop .pow (.int 10) (.int 18)))) (evE Γ (.var 3)) [3] [3] [u, v, w, x] (.int i) [] = some (.ok (some (.int i)) []) := by simp [h, ev_join, ev_split, kTx, ev_nset, ev_mkc, kMkc, kMkc2, ev_meth, kMeth, kMeth2, ev_fapp, kFapp, kFapp2, ev_fpop, kFpop, ev_fix, kFix, kFix2, ev_flen, kFlen, ev_ftup, kFtup, et_feq0, kTfeq0, es_seto, kSo, kSo2, es_augf, kAf, kAf2, ownB, ownL, ownW, sameO, ownN, insOk, ev_bdn, ev_sdef, ev_bget, ei_rng2, ev_rev, ev_srt, kRn2, kRn, kRev, mapTup, es_rais, kRais, es_tri, kTri_ex, kTri_nx, kTri_rt, eh_hand, eh_handX, eh_nop, evX, noXS_nx, noXS_rt, bnd_ex, bnD_ex, bndS_ex, inS_ex, line, es_augi, kAi2, kAi3, kAi4, repl, ev_int, ev_str, ev_bl, ev_non, ev_var, ev_con, ev_bop, ev_neg, ev_cmp, ev_chain, ev_not, ev_and, ev_or, ev_ite, ev_ix, ev_sl, ev_tup, ev_lst, ev_cel, ev_catc, ev_map, ev_call, ev_mkd, ev_prop, ev_fld, ev_bi, ev_isi, ev_cix, ev_app, ev_popa, ev_lc, et_yes, et_not, et_and, et_or, et_ite, et_cmp, et_call, et_isi, et_bi, et_var, el_nil, el_cons, ep_nil, ep_cons, ei_rng1, ei_seq, ei_enum, ei_zip, es_nop, es_seq, es_asg, es_par, es_aug, es_seti, es_setf, es_ex, es_ret, es_retN, es_ite, es_loop, es_frz, kGiv, k2, kNeg, kNot, kAnd, kOr, kIf, kCh2, kCh1, kCh, kIx2, kIx, kSl3, kSl2, kSl, kTup, kLst, kCel, kCat2, kCat, kMap, kFn, kProp, kFld, kBi, kIsi, kApp2, kApp, kPop2, kPop, kOkL, kLc, kIt1, kIt2, item, kTnot, kTand, kTor, oB, kTcmp2, kTcmp, kTb, kTfn, kTisi, kTbi, kL2, kL, kP, kR1, kSeq, kEnum, kZip2, kZip, kSet, kPar, kAug, kAug0, kSi3, kSi2, kSi, kSf2, kSf, kEx, kRet, kLoop, kVar, kTvar, kFrz, cmpO, start0, bindU, bindTo, setAll, wipeE, lst1, seqOf, biU, biD, bopD, cmpD, ixD, isiD, cixD, idxS, strsOf, intC, eqC, eqD, eqDs, scal, memD, flat, str_inj, str_beq, List.lookup_cons, List.lookup_nil, putD, isLst, loopS, walk, noX, bnd_ok, bnd_none, bnD_ok, bnD_none, bndS_nx, bndS_rt, bndS_none, inS_ok, inS_none, giv_some, giv_none, pick_t, pick_f]
      rw [List.map_cons]
      unfold walk
      rw [e, bnd_ok]
      simp only
      rw [ih]
      simp
    · obtain ⟨m, ih, hm⟩ := walk1 Γ u v w x l acc
      refine ⟨m, ?_, by simp; omega⟩
      have e : item (evT Γ (.cmp .ge (.var 3) (.bop .pow (.int 10) (.int 18)))) (evE Γ (.var 3)) [3] [3] [u, v, w, x] (.int i) [] = some (.ok none []) := by simp [h, ev_join, ev_split, kTx, ev_nset, ev_mkc, kMkc, kMkc2, ev_meth, kMeth, kMeth2, ev_fapp, kFapp, kFapp2, ev_fpop, kFpop, ev_fix, kFix, kFix2, ev_flen, kFlen, ev_ftup, kFtup, et_feq0, kTfeq0, es_seto, kSo, kSo2, es_augf, kAf, kAf2, ownB, ownL, ownW, sameO, ownN, insOk, ev_bdn, ev_sdef, ev_bget, ei_rng2, ev_rev, ev_srt, kRn2, kRn, kRev, mapTup, es_rais, kRais, es_tri, kTri_ex, kTri_nx, kTri_rt, eh_hand, eh_handX, eh_nop, evX, noXS_nx, noXS_rt, bnd_ex, bnD_ex, bndS_ex, inS_ex, line, es_augi, kAi2, kAi3, kAi4, repl, ev_int, ev_str, ev_bl, ev_non, ev_var, ev_con, ev_bop, ev_neg, ev_cmp, ev_chain, ev_not, ev_and, ev_or, ev_ite, ev_ix, ev_sl, ev_tup, ev_lst, ev_cel, ev_catc, ev_map, ev_call, ev_mkd, ev_prop, ev_fld, ev_bi, ev_isi, ev_cix, ev_app, ev_popa, ev_lc, et_yes, et_not, et_and, et_or, et_ite, et_cmp, et_call, et_isi, et_bi, et_var, el_nil, el_cons, ep_nil, ep_cons, ei_rng1, ei_seq, ei_enum, ei_zip, es_nop, es_seq, es_asg, es_par, es_aug, es_seti, es_setf, es_ex, es_ret, es_retN, es_ite, es_loop, es_frz, kGiv, k2, kNeg, kNot, kAnd, kOr, kIf, kCh2, kCh1, kCh, kIx2, kIx, kSl3, kSl2, kSl, kTup, kLst, kCel, kCat2, kCat, kMap, kFn, kProp, kFld, kBi, kIsi, kApp2, kApp, kPop2, kPop, kOkL, kLc, kIt1, kIt2, item, kTnot, kTand, kTor, oB, kTcmp2, kTcmp, kTb, kTfn, kTisi, kTbi, kL2, kL, kP, kR1, kSeq, kEnum, kZip2, kZip, kSet, kPar, kAug, kAug0, kSi3, kSi2, kSi, kSf2, kSf, kEx, kRet, kLoop, kVar, kTvar, kFrz, cmpO, start0, bindU, bindTo, setAll, wipeE, lst1, seqOf, biU, biD, bopD, cmpD, ixD, isiD, cixD, idxS, strsOf, intC, eqC, eqD, eqDs, scal, memD, flat, str_inj, str_beq, List.lookup_cons, List.lookup_nil, putD, isLst, loopS, walk, noX, bnd_ok, bnd_none, bnD_ok, bnD_none, bndS_nx, bndS_rt, bndS_none, inS_ok, inS_none, giv_some, giv_none, pick_t, pick_f]
      rw [List.map_cons]
      unfold walk
      rw [e, bnd_ok]
      simp only
      exact ih
theorem r_random (k : Nat) (l : List Int) (hl : l.length ≤ 63) (salt : Int) : ∃ q : Src, run df con 0 (k + 1) 1 [.d (.scr (l.map D.int)), .d (.int salt)] [] = some (.ok (.loc 0) [q.c]) := by
  obtain ⟨seed, x', e1⟩ := loop1 ⟨run df con 0 k, con, 0⟩ (some (.d (.scr (l.map D.int)))) (some (.d (.int salt))) l salt none
  obtain ⟨m, e2, hm⟩ := walk1 ⟨run df con 0 k, con, 0⟩ (some (.d (.scr (l.map D.int)))) (some (.d (.int salt))) (some (.d (.int seed))) x' l []
  refine ⟨⟨seed, 0, m⟩, ?_⟩
  refine (run_at (r := some (.rt (.loc 0) [Src.c ⟨seed, 0, m⟩])) rfl rfl ?_).trans rfl
  have h1 : l.length ≤ 16777216 := by omega
  have h2 : m.length + 1 + 1 ≤ 16777216 := by omega
  have h3 : 2 + m.length ≤ 16777216 := by omega
  simp [ir1, ev_join, ev_split, kTx, ev_nset, ev_mkc, kMkc, kMkc2, ev_meth, kMeth, kMeth2, ev_fapp, kFapp, kFapp2, ev_fpop, kFpop, ev_fix, kFix, kFix2, ev_flen, kFlen, ev_ftup, kFtup, et_feq0, kTfeq0, es_seto, kSo, kSo2, es_augf, kAf, kAf2, ownB, ownL, ownW, sameO, ownN, insOk, ev_bdn, ev_sdef, ev_bget, ei_rng2, ev_rev, ev_srt, kRn2, kRn, kRev, mapTup, es_rais, kRais, es_tri, kTri_ex, kTri_nx, kTri_rt, eh_hand, eh_handX, eh_nop, evX, noXS_nx, noXS_rt, bnd_ex, bnD_ex, bndS_ex, inS_ex, line, es_augi, kAi2, kAi3, kAi4, repl, ev_int, ev_str, ev_bl, ev_non, ev_var, ev_con, ev_bop, ev_neg, ev_cmp, ev_chain, ev_not, ev_and, ev_or, ev_ite, ev_ix, ev_sl, ev_tup, ev_lst, ev_cel, ev_catc, ev_map, ev_call, ev_mkd, ev_prop, ev_fld, ev_bi, ev_isi, ev_cix, ev_app, ev_popa, ev_lc, et_yes, et_not, et_and, et_or, et_ite, et_cmp, et_call, et_isi, et_bi, et_var, el_nil, el_cons, ep_nil, ep_cons, ei_rng1, ei_seq, ei_enum, ei_zip, es_nop, es_seq, es_asg, es_par, es_aug, es_seti, es_setf, es_ex, es_ret, es_retN, es_ite, es_loop, es_frz, kGiv, k2, kNeg, kNot, kAnd, kOr, kIf, kCh2, kCh1, kCh, kIx2, kIx, kSl3, kSl2, kSl, kTup, kLst, kCel, kCat2, kCat, kMap, kFn, kProp, kFld, kBi, kIsi, kApp2, kApp, kPop2, kPop, kOkL, kLc, kIt1, kIt2, item, kTnot, kTand, kTor, oB, kTcmp2, kTcmp, kTb, kTfn, kTisi, kTbi, kL2, kL, kP, kR1, kSeq, kEnum, kZip2, kZip, kSet, kPar, kAug, kAug0, kSi3, kSi2, kSi, kSf2, kSf, kEx, kRet, kLoop, kVar, kTvar, kFrz, cmpO, start0, bindU, bindTo, setAll, wipeE, lst1, seqOf, biU, biD, bopD, cmpD, ixD, isiD, cixD, idxS, strsOf, intC, eqC, eqD, eqDs, scal, memD, flat, str_inj, str_beq, List.lookup_cons, List.lookup_nil, putD, isLst, loopS, walk, noX, bnd_ok, bnd_none, bnD_ok, bnD_none, bndS_nx, bndS_rt, bndS_none, inS_ok, inS_none, giv_some, giv_none, pick_t, pick_f]
  show bndS (loopS [3] (evS _ rnd1) _ _ _) _ = _
  rw [e1]
  simp only [List.nil_append] at e2
  simp [h1, ev_join, ev_split, kTx, ev_nset, ev_mkc, kMkc, kMkc2, ev_meth, kMeth, kMeth2, ev_fapp, kFapp, kFapp2, ev_fpop, kFpop, ev_fix, kFix, kFix2, ev_flen, kFlen, ev_ftup, kFtup, et_feq0, kTfeq0, es_seto, kSo, kSo2, es_augf, kAf, kAf2, ownB, ownL, ownW, sameO, ownN, insOk, ev_bdn, ev_sdef, ev_bget, ei_rng2, ev_rev, ev_srt, kRn2, kRn, kRev, mapTup, es_rais, kRais, es_tri, kTri_ex, kTri_nx, kTri_rt, eh_hand, eh_handX, eh_nop, evX, noXS_nx, noXS_rt, bnd_ex, bnD_ex, bndS_ex, inS_ex, line, es_augi, kAi2, kAi3, kAi4, repl, ev_int, ev_str, ev_bl, ev_non, ev_var, ev_con, ev_bop, ev_neg, ev_cmp, ev_chain, ev_not, ev_and, ev_or, ev_ite, ev_ix, ev_sl, ev_tup, ev_lst, ev_cel, ev_catc, ev_map, ev_call, ev_mkd, ev_prop, ev_fld, ev_bi, ev_isi, ev_cix, ev_app, ev_popa, ev_lc, et_yes, et_not, et_and, et_or, et_ite, et_cmp, et_call, et_isi, et_bi, et_var, el_nil, el_cons, ep_nil, ep_cons, ei_rng1, ei_seq, ei_enum, ei_zip, es_nop, es_seq, es_asg, es_par, es_aug, es_seti, es_setf, es_ex, es_ret, es_retN, es_ite, es_loop, es_frz, kGiv, k2, kNeg, kNot, kAnd, kOr, kIf, kCh2, kCh1, kCh, kIx2, kIx, kSl3, kSl2, kSl, kTup, kLst, kCel, kCat2, kCat, kMap, kFn, kProp, kFld, kBi, kIsi, kApp2, kApp, kPop2, kPop, kOkL, kLc, kIt1, kIt2, item, kTnot, kTand, kTor, oB, kTcmp2, kTcmp, kTb, kTfn, kTisi, kTbi, kL2, kL, kP, kR1, kSeq, kEnum, kZip2, kZip, kSet, kPar, kAug, kAug0, kSi3, kSi2, kSi, kSf2, kSf, kEx, kRet, kLoop, kVar, kTvar, kFrz, cmpO, start0, bindU, bindTo, setAll, wipeE, lst1, seqOf, biU, biD, bopD, cmpD, ixD, isiD, cixD, idxS, strsOf, intC, eqC, eqD, eqDs, scal, memD, flat, str_inj, str_beq, List.lookup_cons, List.lookup_nil, putD, isLst, loopS, walk, noX, bnd_ok, bnd_none, bnD_ok, bnD_none, bndS_nx, bndS_rt, bndS_none, inS_ok, inS_none, giv_some, giv_none, pick_t, pick_f]
  show inS (bnd (bnd (walk (item (evT _ (.cmp .ge (.var 3) (.bop .pow (.int 10) (.int 18)))) (evE _ (.var 3)) [3] [3] _) [] _ _) _) _) _ _ = _
  rw [e2]
  simp [h2, h3, Src.c, ev_join, ev_split, kTx, ev_nset, ev_mkc, kMkc, kMkc2, ev_meth, kMeth, kMeth2, ev_fapp, kFapp, kFapp2, ev_fpop, kFpop, ev_fix, kFix, kFix2, ev_flen, kFlen, ev_ftup, kFtup, et_feq0, kTfeq0, es_seto, kSo, kSo2, es_augf, kAf, kAf2, ownB, ownL, ownW, sameO, ownN, insOk, ev_bdn, ev_sdef, ev_bget, ei_rng2, ev_rev, ev_srt, kRn2, kRn, kRev, mapTup, es_rais, kRais, es_tri, kTri_ex, kTri_nx, kTri_rt, eh_hand, eh_handX, eh_nop, evX, noXS_nx, noXS_rt, bnd_ex, bnD_ex, bndS_ex, inS_ex, line, es_augi, kAi2, kAi3, kAi4, repl, ev_int, ev_str, ev_bl, ev_non, ev_var, ev_con, ev_bop, ev_neg, ev_cmp, ev_chain, ev_not, ev_and, ev_or, ev_ite, ev_ix, ev_sl, ev_tup, ev_lst, ev_cel, ev_catc, ev_map, ev_call, ev_mkd, ev_prop, ev_fld, ev_bi, ev_isi, ev_cix, ev_app, ev_popa, ev_lc, et_yes, et_not, et_and, et_or, et_ite, et_cmp, et_call, et_isi, et_bi, et_var, el_nil, el_cons, ep_nil, ep_cons, ei_rng1, ei_seq, ei_enum, ei_zip, es_nop, es_seq, es_asg, es_par, es_aug, es_seti, es_setf, es_ex, es_ret, es_retN, es_ite, es_loop, es_frz, kGiv, k2, kNeg, kNot, kAnd, kOr, kIf, kCh2, kCh1, kCh, kIx2, kIx, kSl3, kSl2, kSl, kTup, kLst, kCel, kCat2, kCat, kMap, kFn, kProp, kFld, kBi, kIsi, kApp2, kApp, kPop2, kPop, kOkL, kLc, kIt1, kIt2, item, kTnot, kTand, kTor, oB, kTcmp2, kTcmp, kTb, kTfn, kTisi, kTbi, kL2, kL, kP, kR1, kSeq, kEnum, kZip2, kZip, kSet, kPar, kAug, kAug0, kSi3, kSi2, kSi, kSf2, kSf, kEx, kRet, kLoop, kVar, kTvar, kFrz, cmpO, start0, bindU, bindTo, setAll, wipeE, lst1, seqOf, biU, biD, bopD, cmpD, ixD, isiD, cixD, idxS, strsOf, intC, eqC, eqD, eqDs, scal, memD, flat, str_inj, str_beq, List.lookup_cons, List.lookup_nil, putD, isLst, loopS, walk, noX, bnd_ok, bnd_none, bnD_ok, bnD_none, bndS_nx, bndS_rt, bndS_none, inS_ok, inS_none, giv_some, giv_none, pick_t, pick_f]
/-! ### the law -/
def p1 : Stm := (.asg [3] (.call 2 (.cons (.var 1) (.cons (.lst (.cons (.str "a") (.cons (.str "") (.cons (.int 7) (.cons .non (.cons (.tup (.cons (.int 1) .nil)) (.cons (.lst (.cons (.int 2) .nil)) .nil))))))) .nil))))
def p2 : Stm := (.asg [4] (.call 2 (.cons (.var 1) (.cons (.lst (.cons (.int 0) (.cons .non (.cons (.str "b") (.cons (.neg (.int 1)) .nil))))) .nil))))
def rst : Stm := (.seq (.asg [5] (.lst .nil)) (.seq (.ite (.cmp .gt (.var 2) (.int 4)) (.asg [5] (.ite (.cmp .lt (.var 2) (.int 7)) (.lst (.cons (.var 3) .nil)) (.lst (.cons (.var 3) (.cons (.var 4) .nil))))) .nop) (.seq (.asg [6] (.bl false)) (.seq (.tri (.ex (.call 110 (.cons (.var 2) (.cons (.var 3) (.cons (.var 4) .nil))))) (.handE 7 (.seq (.asg [6] (.and (.xiv (.var 7)) (.cmp .eq (.call 111 (.cons (.var 7) .nil)) (.lc [8] (.rng1 (.int 8)) [8] .yes (.cmp .eq (.var 8) (.var 2)))))) (.asg [6] (.and (.var 6) (.call 8 (.cons (.call 112 (.cons (.var 2) (.cons (.var 7) .nil))) (.cons (.var 5) .nil)))))))) (.ite (.not (.var 6)) (.ret (.bl false)) .nop)))))
theorem ir109_eq : ir109 = .seq (.asg [1] (.call 1 (.cons (.var 0) (.cons (.int 965) .nil)))) (.seq (.loop (.rng1 (.int 8)) [2] (.seq p1 (.seq p2 rst))) (.ret (.bl true))) := rfl
abbrev g15 : Ev := ⟨run df con 0 6, con, 0⟩
def env9 (u : D) (k a b c d : Option U) : Env := [some (.d u), some (.loc 0), k, a, b, c, d, none, none]
def o1 : List D := [.str "a", .str "", .int 7, .non, .tup [.int 1], .lst [.int 2]]
def o2 : List D := [.int 0, .non, .str "b", .int (-1)]
theorem p1_run (Γ : Ev) (hf : Γ.fn = run df con 0 6) (u : D) (k a b c d : Option U) (q : Src) : ∃ x ∈ o1, ∃ q' : Src, evS Γ p1 (env9 u k a b c d) [q.c] = some (.nx (env9 u k (some (.d x)) b c d) [q'.c]) := by
  obtain ⟨x, q', e, hx⟩ := r_pick 4 o1 (by simp [o1]) (by simp [o1]) q []
  refine ⟨x, hx, q', ?_⟩
  unfold o1 at e
  simp [p1, env9, hf, e, ev_join, ev_split, kTx, ev_nset, ev_mkc, kMkc, kMkc2, ev_meth, kMeth, kMeth2, ev_fapp, kFapp, kFapp2, ev_fpop, kFpop, ev_fix, kFix, kFix2, ev_flen, kFlen, ev_ftup, kFtup, et_feq0, kTfeq0, es_seto, kSo, kSo2, es_augf, kAf, kAf2, ownB, ownL, ownW, sameO, ownN, insOk, ev_bdn, ev_sdef, ev_bget, ei_rng2, ev_rev, ev_srt, kRn2, kRn, kRev, mapTup, es_rais, kRais, es_tri, kTri_ex, kTri_nx, kTri_rt, eh_hand, eh_handX, eh_nop, evX, noXS_nx, noXS_rt, bnd_ex, bnD_ex, bndS_ex, inS_ex, line, es_augi, kAi2, kAi3, kAi4, repl, ev_int, ev_str, ev_bl, ev_non, ev_var, ev_con, ev_bop, ev_neg, ev_cmp, ev_chain, ev_not, ev_and, ev_or, ev_ite, ev_ix, ev_sl, ev_tup, ev_lst, ev_cel, ev_catc, ev_map, ev_call, ev_mkd, ev_prop, ev_fld, ev_bi, ev_isi, ev_cix, ev_app, ev_popa, ev_lc, et_yes, et_not, et_and, et_or, et_ite, et_cmp, et_call, et_isi, et_bi, et_var, el_nil, el_cons, ep_nil, ep_cons, ei_rng1, ei_seq, ei_enum, ei_zip, es_nop, es_seq, es_asg, es_par, es_aug, es_seti, es_setf, es_ex, es_ret, es_retN, es_ite, es_loop, es_frz, kGiv, k2, kNeg, kNot, kAnd, kOr, kIf, kCh2, kCh1, kCh, kIx2, kIx, kSl3, kSl2, kSl, kTup, kLst, kCel, kCat2, kCat, kMap, kFn, kProp, kFld, kBi, kIsi, kApp2, kApp, kPop2, kPop, kOkL, kLc, kIt1, kIt2, item, kTnot, kTand, kTor, oB, kTcmp2, kTcmp, kTb, kTfn, kTisi, kTbi, kL2, kL, kP, kR1, kSeq, kEnum, kZip2, kZip, kSet, kPar, kAug, kAug0, kSi3, kSi2, kSi, kSf2, kSf, kEx, kRet, kLoop, kVar, kTvar, kFrz, cmpO, start0, bindU, bindTo, setAll, wipeE, lst1, seqOf, biU, biD, bopD, cmpD, ixD, isiD, cixD, idxS, strsOf, intC, eqC, eqD, eqDs, scal, memD, flat, str_inj, str_beq, List.lookup_cons, List.lookup_nil, putD, isLst, loopS, walk, noX, bnd_ok, bnd_none, bnD_ok, bnD_none, bndS_nx, bndS_rt, bndS_none, inS_ok, inS_none, giv_some, giv_none, pick_t, pick_f]
theorem p2_run (Γ : Ev) (hf : Γ.fn = run df con 0 6) (u : D) (k a b c d : Option U) (q : Src) : ∃ x ∈ o2, ∃ q' : Src, evS Γ p2 (env9 u k a b c d) [q.c] = some (.nx (env9 u k a (some (.d x)) c d) [q'.c]) := by
  obtain ⟨x, q', e, hx⟩ := r_pick 4 o2 (by simp [o2]) (by simp [o2]) q []
  refine ⟨x, hx, q', ?_⟩
  unfold o2 at e
  simp [p2, env9, hf, e, ev_join, ev_split, kTx, ev_nset, ev_mkc, kMkc, kMkc2, ev_meth, kMeth, kMeth2, ev_fapp, kFapp, kFapp2, ev_fpop, kFpop, ev_fix, kFix, kFix2, ev_flen, kFlen, ev_ftup, kFtup, et_feq0, kTfeq0, es_seto, kSo, kSo2, es_augf, kAf, kAf2, ownB, ownL, ownW, sameO, ownN, insOk, ev_bdn, ev_sdef, ev_bget, ei_rng2, ev_rev, ev_srt, kRn2, kRn, kRev, mapTup, es_rais, kRais, es_tri, kTri_ex, kTri_nx, kTri_rt, eh_hand, eh_handX, eh_nop, evX, noXS_nx, noXS_rt, bnd_ex, bnD_ex, bndS_ex, inS_ex, line, es_augi, kAi2, kAi3, kAi4, repl, ev_int, ev_str, ev_bl, ev_non, ev_var, ev_con, ev_bop, ev_neg, ev_cmp, ev_chain, ev_not, ev_and, ev_or, ev_ite, ev_ix, ev_sl, ev_tup, ev_lst, ev_cel, ev_catc, ev_map, ev_call, ev_mkd, ev_prop, ev_fld, ev_bi, ev_isi, ev_cix, ev_app, ev_popa, ev_lc, et_yes, et_not, et_and, et_or, et_ite, et_cmp, et_call, et_isi, et_bi, et_var, el_nil, el_cons, ep_nil, ep_cons, ei_rng1, ei_seq, ei_enum, ei_zip, es_nop, es_seq, es_asg, es_par, es_aug, es_seti, es_setf, es_ex, es_ret, es_retN, es_ite, es_loop, es_frz, kGiv, k2, kNeg, kNot, kAnd, kOr, kIf, kCh2, kCh1, kCh, kIx2, kIx, kSl3, kSl2, kSl, kTup, kLst, kCel, kCat2, kCat, kMap, kFn, kProp, kFld, kBi, kIsi, kApp2, kApp, kPop2, kPop, kOkL, kLc, kIt1, kIt2, item, kTnot, kTand, kTor, oB, kTcmp2, kTcmp, kTb, kTfn, kTisi, kTbi, kL2, kL, kP, kR1, kSeq, kEnum, kZip2, kZip, kSet, kPar, kAug, kAug0, kSi3, kSi2, kSi, kSf2, kSf, kEx, kRet, kLoop, kVar, kTvar, kFrz, cmpO, start0, bindU, bindTo, setAll, wipeE, lst1, seqOf, biU, biD, bopD, cmpD, ixD, isiD, cixD, idxS, strsOf, intC, eqC, eqD, eqDs, scal, memD, flat, str_inj, str_beq, List.lookup_cons, List.lookup_nil, putD, isLst, loopS, walk, noX, bnd_ok, bnd_none, bnD_ok, bnD_none, bndS_nx, bndS_rt, bndS_none, inS_ok, inS_none, giv_some, giv_none, pick_t, pick_f]
def due (k : Nat) (x y : D) : D := .lst (if k < 5 then [] else if k < 7 then [x] else [x, y])
theorem t0_0_0 (u : D) (c : Cell) (z5 z6 : Option U) : evS g15 rst (env9 u (some (.d (.int 0))) (some (.d (.str "a"))) (some (.d (.int 0))) z5 z6) [c] = some (.nx (env9 u (some (.d (.int 0))) (some (.d (.str "a"))) (some (.d (.int 0))) (some (.d (due 0 (.str "a") (.int 0)))) (some (.d (.bl true)))) [c]) := by kernel_rfl
theorem t0_0_1 (u : D) (c : Cell) (z5 z6 : Option U) : evS g15 rst (env9 u (some (.d (.int 0))) (some (.d (.str "a"))) (some (.d .non)) z5 z6) [c] = some (.nx (env9 u (some (.d (.int 0))) (some (.d (.str "a"))) (some (.d .non)) (some (.d (due 0 (.str "a") .non))) (some (.d (.bl true)))) [c]) := by kernel_rfl
theorem t0_0_2 (u : D) (c : Cell) (z5 z6 : Option U) : evS g15 rst (env9 u (some (.d (.int 0))) (some (.d (.str "a"))) (some (.d (.str "b"))) z5 z6) [c] = some (.nx (env9 u (some (.d (.int 0))) (some (.d (.str "a"))) (some (.d (.str "b"))) (some (.d (due 0 (.str "a") (.str "b")))) (some (.d (.bl true)))) [c]) := by kernel_rfl
theorem t0_0_3 (u : D) (c : Cell) (z5 z6 : Option U) : evS g15 rst (env9 u (some (.d (.int 0))) (some (.d (.str "a"))) (some (.d (.int (-1)))) z5 z6) [c] = some (.nx (env9 u (some (.d (.int 0))) (some (.d (.str "a"))) (some (.d (.int (-1)))) (some (.d (due 0 (.str "a") (.int (-1))))) (some (.d (.bl true)))) [c]) := by kernel_rfl
theorem t0_1_0 (u : D) (c : Cell) (z5 z6 : Option U) : evS g15 rst (env9 u (some (.d (.int 0))) (some (.d (.str ""))) (some (.d (.int 0))) z5 z6) [c] = some (.nx (env9 u (some (.d (.int 0))) (some (.d (.str ""))) (some (.d (.int 0))) (some (.d (due 0 (.str "") (.int 0)))) (some (.d (.bl true)))) [c]) := by kernel_rfl
theorem t0_1_1 (u : D) (c : Cell) (z5 z6 : Option U) : evS g15 rst (env9 u (some (.d (.int 0))) (some (.d (.str ""))) (some (.d .non)) z5 z6) [c] = some (.nx (env9 u (some (.d (.int 0))) (some (.d (.str ""))) (some (.d .non)) (some (.d (due 0 (.str "") .non))) (some (.d (.bl true)))) [c]) := by kernel_rfl
theorem t0_1_2 (u : D) (c : Cell) (z5 z6 : Option U) : evS g15 rst (env9 u (some (.d (.int 0))) (some (.d (.str ""))) (some (.d (.str "b"))) z5 z6) [c] = some (.nx (env9 u (some (.d (.int 0))) (some (.d (.str ""))) (some (.d (.str "b"))) (some (.d (due 0 (.str "") (.str "b")))) (some (.d (.bl true)))) [c]) := by kernel_rfl
theorem t0_1_3 (u : D) (c : Cell) (z5 z6 : Option U) : evS g15 rst (env9 u (some (.d (.int 0))) (some (.d (.str ""))) (some (.d (.int (-1)))) z5 z6) [c] = some (.nx (env9 u (some (.d (.int 0))) (some (.d (.str ""))) (some (.d (.int (-1)))) (some (.d (due 0 (.str "") (.int (-1))))) (some (.d (.bl true)))) [c]) := by kernel_rfl
theorem t0_2_0 (u : D) (c : Cell) (z5 z6 : Option U) : evS g15 rst (env9 u (some (.d (.int 0))) (some (.d (.int 7))) (some (.d (.int 0))) z5 z6) [c] = some (.nx (env9 u (some (.d (.int 0))) (some (.d (.int 7))) (some (.d (.int 0))) (some (.d (due 0 (.int 7) (.int 0)))) (some (.d (.bl true)))) [c]) := by kernel_rfl
theorem t0_2_1 (u : D) (c : Cell) (z5 z6 : Option U) : evS g15 rst (env9 u (some (.d (.int 0))) (some (.d (.int 7))) (some (.d .non)) z5 z6) [c] = some (.nx (env9 u (some (.d (.int 0))) (some (.d (.int 7))) (some (.d .non)) (some (.d (due 0 (.int 7) .non))) (some (.d (.bl true)))) [c]) := by kernel_rfl
theorem t0_2_2 (u : D) (c : Cell) (z5 z6 : Option U) : evS g15 rst (env9 u (some (.d (.int 0))) (some (.d (.int 7))) (some (.d (.str "b"))) z5 z6) [c] = some (.nx (env9 u (some (.d (.int 0))) (some (.d (.int 7))) (some (.d (.str "b"))) (some (.d (due 0 (.int 7) (.str "b")))) (some (.d (.bl true)))) [c]) := by kernel_rfl
theorem t0_2_3 (u : D) (c : Cell) (z5 z6 : Option U) : evS g15 rst (env9 u (some (.d (.int 0))) (some (.d (.int 7))) (some (.d (.int (-1)))) z5 z6) [c] = some (.nx (env9 u (some (.d (.int 0))) (some (.d (.int 7))) (some (.d (.int (-1)))) (some (.d (due 0 (.int 7) (.int (-1))))) (some (.d (.bl true)))) [c]) := by kernel_rfl
theorem t0_3_0 (u : D) (c : Cell) (z5 z6 : Option U) : evS g15 rst (env9 u (some (.d (.int 0))) (some (.d .non)) (some (.d (.int 0))) z5 z6) [c] = some (.nx (env9 u (some (.d (.int 0))) (some (.d .non)) (some (.d (.int 0))) (some (.d (due 0 .non (.int 0)))) (some (.d (.bl true)))) [c]) := by kernel_rfl
theorem t0_3_1 (u : D) (c : Cell) (z5 z6 : Option U) : evS g15 rst (env9 u (some (.d (.int 0))) (some (.d .non)) (some (.d .non)) z5 z6) [c] = some (.nx (env9 u (some (.d (.int 0))) (some (.d .non)) (some (.d .non)) (some (.d (due 0 .non .non))) (some (.d (.bl true)))) [c]) := by kernel_rfl
theorem t0_3_2 (u : D) (c : Cell) (z5 z6 : Option U) : evS g15 rst (env9 u (some (.d (.int 0))) (some (.d .non)) (some (.d (.str "b"))) z5 z6) [c] = some (.nx (env9 u (some (.d (.int 0))) (some (.d .non)) (some (.d (.str "b"))) (some (.d (due 0 .non (.str "b")))) (some (.d (.bl true)))) [c]) := by kernel_rfl
theorem t0_3_3 (u : D) (c : Cell) (z5 z6 : Option U) : evS g15 rst (env9 u (some (.d (.int 0))) (some (.d .non)) (some (.d (.int (-1)))) z5 z6) [c] = some (.nx (env9 u (some (.d (.int 0))) (some (.d .non)) (some (.d (.int (-1)))) (some (.d (due 0 .non (.int (-1))))) (some (.d (.bl true)))) [c]) := by kernel_rfl
theorem t0_4_0 (u : D) (c : Cell) (z5 z6 : Option U) : evS g15 rst (env9 u (some (.d (.int 0))) (some (.d (.tup [.int 1]))) (some (.d (.int 0))) z5 z6) [c] = some (.nx (env9 u (some (.d (.int 0))) (some (.d (.tup [.int 1]))) (some (.d (.int 0))) (some (.d (due 0 (.tup [.int 1]) (.int 0)))) (some (.d (.bl true)))) [c]) := by kernel_rfl
theorem t0_4_1 (u : D) (c : Cell) (z5 z6 : Option U) : evS g15 rst (env9 u (some (.d (.int 0))) (some (.d (.tup [.int 1]))) (some (.d .non)) z5 z6) [c] = some (.nx (env9 u (some (.d (.int 0))) (some (.d (.tup [.int 1]))) (some (.d .non)) (some (.d (due 0 (.tup [.int 1]) .non))) (some (.d (.bl true)))) [c]) := by kernel_rfl
theorem t0_4_2 (u : D) (c : Cell) (z5 z6 : Option U) : evS g15 rst (env9 u (some (.d (.int 0))) (some (.d (.tup [.int 1]))) (some (.d (.str "b"))) z5 z6) [c] = some (.nx (env9 u (some (.d (.int 0))) (some (.d (.tup [.int 1]))) (some (.d (.str "b"))) (some (.d (due 0 (.tup [.int 1]) (.str "b")))) (some (.d (.bl true)))) [c]) := by kernel_rfl
theorem t0_4_3 (u : D) (c : Cell) (z5 z6 : Option U) : evS g15 rst (env9 u (some (.d (.int 0))) (some (.d (.tup [.int 1]))) (some (.d (.int (-1)))) z5 z6) [c] = some (.nx (env9 u (some (.d (.int 0))) (some (.d (.tup [.int 1]))) (some (.d (.int (-1)))) (some (.d (due 0 (.tup [.int 1]) (.int (-1))))) (some (.d (.bl true)))) [c]) := by kernel_rfl
theorem t0_5_0 (u : D) (c : Cell) (z5 z6 : Option U) : evS g15 rst (env9 u (some (.d (.int 0))) (some (.d (.lst [.int 2]))) (some (.d (.int 0))) z5 z6) [c] = some (.nx (env9 u (some (.d (.int 0))) (some (.d (.lst [.int 2]))) (some (.d (.int 0))) (some (.d (due 0 (.lst [.int 2]) (.int 0)))) (some (.d (.bl true)))) [c]) := by kernel_rfl
theorem t0_5_1 (u : D) (c : Cell) (z5 z6 : Option U) : evS g15 rst (env9 u (some (.d (.int 0))) (some (.d (.lst [.int 2]))) (some (.d .non)) z5 z6) [c] = some (.nx (env9 u (some (.d (.int 0))) (some (.d (.lst [.int 2]))) (some (.d .non)) (some (.d (due 0 (.lst [.int 2]) .non))) (some (.d (.bl true)))) [c]) := by kernel_rfl
theorem t0_5_2 (u : D) (c : Cell) (z5 z6 : Option U) : evS g15 rst (env9 u (some (.d (.int 0))) (some (.d (.lst [.int 2]))) (some (.d (.str "b"))) z5 z6) [c] = some (.nx (env9 u (some (.d (.int 0))) (some (.d (.lst [.int 2]))) (some (.d (.str "b"))) (some (.d (due 0 (.lst [.int 2]) (.str "b")))) (some (.d (.bl true)))) [c]) := by kernel_rfl
theorem t0_5_3 (u : D) (c : Cell) (z5 z6 : Option U) : evS g15 rst (env9 u (some (.d (.int 0))) (some (.d (.lst [.int 2]))) (some (.d (.int (-1)))) z5 z6) [c] = some (.nx (env9 u (some (.d (.int 0))) (some (.d (.lst [.int 2]))) (some (.d (.int (-1)))) (some (.d (due 0 (.lst [.int 2]) (.int (-1))))) (some (.d (.bl true)))) [c]) := by kernel_rfl
theorem t0 (x y : D) (hx : x ∈ o1) (hy : y ∈ o2) (u : D) (c : Cell) (z5 z6 : Option U) : evS g15 rst (env9 u (some (.d (.int 0))) (some (.d x)) (some (.d y)) z5 z6) [c] = some (.nx (env9 u (some (.d (.int 0))) (some (.d x)) (some (.d y)) (some (.d (due 0 x y))) (some (.d (.bl true)))) [c]) := by
  simp only [o1, o2, List.mem_cons, List.not_mem_nil, or_false] at hx hy
  rcases hx with rfl | rfl | rfl | rfl | rfl | rfl <;> rcases hy with rfl | rfl | rfl | rfl
  · exact t0_0_0 u c z5 z6
  · exact t0_0_1 u c z5 z6
  · exact t0_0_2 u c z5 z6
  · exact t0_0_3 u c z5 z6
  · exact t0_1_0 u c z5 z6
  · exact t0_1_1 u c z5 z6
  · exact t0_1_2 u c z5 z6
  · exact t0_1_3 u c z5 z6
  · exact t0_2_0 u c z5 z6
  · exact t0_2_1 u c z5 z6
  · exact t0_2_2 u c z5 z6
  · exact t0_2_3 u c z5 z6
  · exact t0_3_0 u c z5 z6
  · exact t0_3_1 u c z5 z6
  · exact t0_3_2 u c z5 z6
  · exact t0_3_3 u c z5 z6
  · exact t0_4_0 u c z5 z6
  · exact t0_4_1 u c z5 z6
  · exact t0_4_2 u c z5 z6
  · exact t0_4_3 u c z5 z6
  · exact t0_5_0 u c z5 z6
  · exact t0_5_1 u c z5 z6
  · exact t0_5_2 u c z5 z6
  · exact t0_5_3 u c z5 z6
theorem t1_0_0 (u : D) (c : Cell) (z5 z6 : Option U) : evS g15 rst (env9 u (some (.d (.int 1))) (some (.d (.str "a"))) (some (.d (.int 0))) z5 z6) [c] = some (.nx (env9 u (some (.d (.int 1))) (some (.d (.str "a"))) (some (.d (.int 0))) (some (.d (due 1 (.str "a") (.int 0)))) (some (.d (.bl true)))) [c]) := by kernel_rfl
theorem t1_0_1 (u : D) (c : Cell) (z5 z6 : Option U) : evS g15 rst (env9 u (some (.d (.int 1))) (some (.d (.str "a"))) (some (.d .non)) z5 z6) [c] = some (.nx (env9 u (some (.d (.int 1))) (some (.d (.str "a"))) (some (.d .non)) (some (.d (due 1 (.str "a") .non))) (some (.d (.bl true)))) [c]) := by kernel_rfl
theorem t1_0_2 (u : D) (c : Cell) (z5 z6 : Option U) : evS g15 rst (env9 u (some (.d (.int 1))) (some (.d (.str "a"))) (some (.d (.str "b"))) z5 z6) [c] = some (.nx (env9 u (some (.d (.int 1))) (some (.d (.str "a"))) (some (.d (.str "b"))) (some (.d (due 1 (.str "a") (.str "b")))) (some (.d (.bl true)))) [c]) := by kernel_rfl
theorem t1_0_3 (u : D) (c : Cell) (z5 z6 : Option U) : evS g15 rst (env9 u (some (.d (.int 1))) (some (.d (.str "a"))) (some (.d (.int (-1)))) z5 z6) [c] = some (.nx (env9 u (some (.d (.int 1))) (some (.d (.str "a"))) (some (.d (.int (-1)))) (some (.d (due 1 (.str "a") (.int (-1))))) (some (.d (.bl true)))) [c]) := by kernel_rfl
theorem t1_1_0 (u : D) (c : Cell) (z5 z6 : Option U) : evS g15 rst (env9 u (some (.d (.int 1))) (some (.d (.str ""))) (some (.d (.int 0))) z5 z6) [c] = some (.nx (env9 u (some (.d (.int 1))) (some (.d (.str ""))) (some (.d (.int 0))) (some (.d (due 1 (.str "") (.int 0)))) (some (.d (.bl true)))) [c]) := by kernel_rfl
theorem t1_1_1 (u : D) (c : Cell) (z5 z6 : Option U) : evS g15 rst (env9 u (some (.d (.int 1))) (some (.d (.str ""))) (some (.d .non)) z5 z6) [c] = some (.nx (env9 u (some (.d (.int 1))) (some (.d (.str ""))) (some (.d .non)) (some (.d (due 1 (.str "") .non))) (some (.d (.bl true)))) [c]) := by kernel_rfl
theorem t1_1_2 (u : D) (c : Cell) (z5 z6 : Option U) : evS g15 rst (env9 u (some (.d (.int 1))) (some (.d (.str ""))) (some (.d (.str "b"))) z5 z6) [c] = some (.nx (env9 u (some (.d (.int 1))) (some (.d (.str ""))) (some (.d (.str "b"))) (some (.d (due 1 (.str "") (.str "b")))) (some (.d (.bl true)))) [c]) := by kernel_rfl
theorem t1_1_3 (u : D) (c : Cell) (z5 z6 : Option U) : evS g15 rst (env9 u (some (.d (.int 1))) (some (.d (.str ""))) (some (.d (.int (-1)))) z5 z6) [c] = some (.nx (env9 u (some (.d (.int 1))) (some (.d (.str ""))) (some (.d (.int (-1)))) (some (.d (due 1 (.str "") (.int (-1))))) (some (.d (.bl true)))) [c]) := by kernel_rfl
theorem t1_2_0 (u : D) (c : Cell) (z5 z6 : Option U) : evS g15 rst (env9 u (some (.d (.int 1))) (some (.d (.int 7))) (some (.d (.int 0))) z5 z6) [c] = some (.nx (env9 u (some (.d (.int 1))) (some (.d (.int 7))) (some (.d (.int 0))) (some (.d (due 1 (.int 7) (.int 0)))) (some (.d (.bl true)))) [c]) := by kernel_rfl
theorem t1_2_1 (u : D) (c : Cell) (z5 z6 : Option U) : evS g15 rst (env9 u (some (.d (.int 1))) (some (.d (.int 7))) (some (.d .non)) z5 z6) [c] = some (.nx (env9 u (some (.d (.int 1))) (some (.d (.int 7))) (some (.d .non)) (some (.d (due 1 (.int 7) .non))) (some (.d (.bl true)))) [c]) := by kernel_rfl
theorem t1_2_2 (u : D) (c : Cell) (z5 z6 : Option U) : evS g15 rst (env9 u (some (.d (.int 1))) (some (.d (.int 7))) (some (.d (.str "b"))) z5 z6) [c] = some (.nx (env9 u (some (.d (.int 1))) (some (.d (.int 7))) (some (.d (.str "b"))) (some (.d (due 1 (.int 7) (.str "b")))) (some (.d (.bl true)))) [c]) := by kernel_rfl
theorem t1_2_3 (u : D) (c : Cell) (z5 z6 : Option U) : evS g15 rst (env9 u (some (.d (.int 1))) (some (.d (.int 7))) (some (.d (.int (-1)))) z5 z6) [c] = some (.nx (env9 u (some (.d (.int 1))) (some (.d (.int 7))) (some (.d (.int (-1)))) (some (.d (due 1 (.int 7) (.int (-1))))) (some (.d (.bl true)))) [c]) := by kernel_rfl
theorem t1_3_0 (u : D) (c : Cell) (z5 z6 : Option U) : evS g15 rst (env9 u (some (.d (.int 1))) (some (.d .non)) (some (.d (.int 0))) z5 z6) [c] = some (.nx (env9 u (some (.d (.int 1))) (some (.d .non)) (some (.d (.int 0))) (some (.d (due 1 .non (.int 0)))) (some (.d (.bl true)))) [c]) := by kernel_rfl
theorem t1_3_1 (u : D) (c : Cell) (z5 z6 : Option U) : evS g15 rst (env9 u (some (.d (.int 1))) (some (.d .non)) (some (.d .non)) z5 z6) [c] = some (.nx (env9 u (some (.d (.int 1))) (some (.d .non)) (some (.d .non)) (some (.d (due 1 .non .non))) (some (.d (.bl true)))) [c]) := by kernel_rfl
theorem t1_3_2 (u : D) (c : Cell) (z5 z6 : Option U) : evS g15 rst (env9 u (some (.d (.int 1))) (some (.d .non)) (some (.d (.str "b"))) z5 z6) [c] = some (.nx (env9 u (some (.d (.int 1))) (some (.d .non)) (some (.d (.str "b"))) (some (.d (due 1 .non (.str "b")))) (some (.d (.bl true)))) [c]) := by kernel_rfl
theorem t1_3_3 (u : D) (c : Cell) (z5 z6 : Option U) : evS g15 rst (env9 u (some (.d (.int 1))) (some (.d .non)) (some (.d (.int (-1)))) z5 z6) [c] = some (.nx (env9 u (some (.d (.int 1))) (some (.d .non)) (some (.d (.int (-1)))) (some (.d (due 1 .non (.int (-1))))) (some (.d (.bl true)))) [c]) := by kernel_rfl
theorem t1_4_0 (u : D) (c : Cell) (z5 z6 : Option U) : evS g15 rst (env9 u (some (.d (.int 1))) (some (.d (.tup [.int 1]))) (some (.d (.int 0))) z5 z6) [c] = some (.nx (env9 u (some (.d (.int 1))) (some (.d (.tup [.int 1]))) (some (.d (.int 0))) (some (.d (due 1 (.tup [.int 1]) (.int 0)))) (some (.d (.bl true)))) [c]) := by kernel_rfl
theorem t1_4_1 (u : D) (c : Cell) (z5 z6 : Option U) : evS g15 rst (env9 u (some (.d (.int 1))) (some (.d (.tup [.int 1]))) (some (.d .non)) z5 z6) [c] = some (.nx (env9 u (some (.d (.int 1))) (some (.d (.tup [.int 1]))) (some (.d .non)) (some (.d (due 1 (.tup [.int 1]) .non))) (some (.d (.bl true)))) [c]) := by kernel_rfl
theorem t1_4_2 (u : D) (c : Cell) (z5 z6 : Option U) : evS g15 rst (env9 u (some (.d (.int 1))) (some (.d (.tup [.int 1]))) (some (.d (.str "b"))) z5 z6) [c] = some (.nx (env9 u (some (.d (.int 1))) (some (.d (.tup [.int 1]))) (some (.d (.str "b"))) (some (.d (due 1 (.tup [.int 1]) (.str "b")))) (some (.d (.bl true)))) [c]) := by kernel_rfl
theorem t1_4_3 (u : D) (c : Cell) (z5 z6 : Option U) : evS g15 rst (env9 u (some (.d (.int 1))) (some (.d (.tup [.int 1]))) (some (.d (.int (-1)))) z5 z6) [c] = some (.nx (env9 u (some (.d (.int 1))) (some (.d (.tup [.int 1]))) (some (.d (.int (-1)))) (some (.d (due 1 (.tup [.int 1]) (.int (-1))))) (some (.d (.bl true)))) [c]) := by kernel_rfl
theorem t1_5_0 (u : D) (c : Cell) (z5 z6 : Option U) : evS g15 rst (env9 u (some (.d (.int 1))) (some (.d (.lst [.int 2]))) (some (.d (.int 0))) z5 z6) [c] = some (.nx (env9 u (some (.d (.int 1))) (some (.d (.lst [.int 2]))) (some (.d (.int 0))) (some (.d (due 1 (.lst [.int 2]) (.int 0)))) (some (.d (.bl true)))) [c]) := by kernel_rfl
theorem t1_5_1 (u : D) (c : Cell) (z5 z6 : Option U) : evS g15 rst (env9 u (some (.d (.int 1))) (some (.d (.lst [.int 2]))) (some (.d .non)) z5 z6) [c] = some (.nx (env9 u (some (.d (.int 1))) (some (.d (.lst [.int 2]))) (some (.d .non)) (some (.d (due 1 (.lst [.int 2]) .non))) (some (.d (.bl true)))) [c]) := by kernel_rfl
theorem t1_5_2 (u : D) (c : Cell) (z5 z6 : Option U) : evS g15 rst (env9 u (some (.d (.int 1))) (some (.d (.lst [.int 2]))) (some (.d (.str "b"))) z5 z6) [c] = some (.nx (env9 u (some (.d (.int 1))) (some (.d (.lst [.int 2]))) (some (.d (.str "b"))) (some (.d (due 1 (.lst [.int 2]) (.str "b")))) (some (.d (.bl true)))) [c]) := by kernel_rfl
theorem t1_5_3 (u : D) (c : Cell) (z5 z6 : Option U) : evS g15 rst (env9 u (some (.d (.int 1))) (some (.d (.lst [.int 2]))) (some (.d (.int (-1)))) z5 z6) [c] = some (.nx (env9 u (some (.d (.int 1))) (some (.d (.lst [.int 2]))) (some (.d (.int (-1)))) (some (.d (due 1 (.lst [.int 2]) (.int (-1))))) (some (.d (.bl true)))) [c]) := by kernel_rfl
theorem t1 (x y : D) (hx : x ∈ o1) (hy : y ∈ o2) (u : D) (c : Cell) (z5 z6 : Option U) : evS g15 rst (env9 u (some (.d (.int 1))) (some (.d x)) (some (.d y)) z5 z6) [c] = some (.nx (env9 u (some (.d (.int 1))) (some (.d x)) (some (.d y)) (some (.d (due 1 x y))) (some (.d (.bl true)))) [c]) := by
  simp only [o1, o2, List.mem_cons, List.not_mem_nil, or_false] at hx hy
  rcases hx with rfl | rfl | rfl | rfl | rfl | rfl <;> rcases hy with rfl | rfl | rfl | rfl
  · exact t1_0_0 u c z5 z6
  · exact t1_0_1 u c z5 z6
  · exact t1_0_2 u c z5 z6
  · exact t1_0_3 u c z5 z6
  · exact t1_1_0 u c z5 z6
  · exact t1_1_1 u c z5 z6
  · exact t1_1_2 u c z5 z6
  · exact t1_1_3 u c z5 z6
  · exact t1_2_0 u c z5 z6
  · exact t1_2_1 u c z5 z6
  · exact t1_2_2 u c z5 z6
  · exact t1_2_3 u c z5 z6
  · exact t1_3_0 u c z5 z6
  · exact t1_3_1 u c z5 z6
  · exact t1_3_2 u c z5 z6
  · exact t1_3_3 u c z5 z6
  · exact t1_4_0 u c z5 z6
  · exact t1_4_1 u c z5 z6
  · exact t1_4_2 u c z5 z6
  · exact t1_4_3 u c z5 z6
  · exact t1_5_0 u c z5 z6
  · exact t1_5_1 u c z5 z6
  · exact t1_5_2 u c z5 z6
  · exact t1_5_3 u c z5 z6
theorem t2_0_0 (u : D) (c : Cell) (z5 z6 : Option U) : evS g15 rst (env9 u (some (.d (.int 2))) (some (.d (.str "a"))) (some (.d (.int 0))) z5 z6) [c] = some (.nx (env9 u (some (.d (.int 2))) (some (.d (.str "a"))) (some (.d (.int 0))) (some (.d (due 2 (.str "a") (.int 0)))) (some (.d (.bl true)))) [c]) := by kernel_rfl
theorem t2_0_1 (u : D) (c : Cell) (z5 z6 : Option U) : evS g15 rst (env9 u (some (.d (.int 2))) (some (.d (.str "a"))) (some (.d .non)) z5 z6) [c] = some (.nx (env9 u (some (.d (.int 2))) (some (.d (.str "a"))) (some (.d .non)) (some (.d (due 2 (.str "a") .non))) (some (.d (.bl true)))) [c]) := by kernel_rfl
theorem t2_0_2 (u : D) (c : Cell) (z5 z6 : Option U) : evS g15 rst (env9 u (some (.d (.int 2))) (some (.d (.str "a"))) (some (.d (.str "b"))) z5 z6) [c] = some (.nx (env9 u (some (.d (.int 2))) (some (.d (.str "a"))) (some (.d (.str "b"))) (some (.d (due 2 (.str "a") (.str "b")))) (some (.d (.bl true)))) [c]) := by kernel_rfl
theorem t2_0_3 (u : D) (c : Cell) (z5 z6 : Option U) : evS g15 rst (env9 u (some (.d (.int 2))) (some (.d (.str "a"))) (some (.d (.int (-1)))) z5 z6) [c] = some (.nx (env9 u (some (.d (.int 2))) (some (.d (.str "a"))) (some (.d (.int (-1)))) (some (.d (due 2 (.str "a") (.int (-1))))) (some (.d (.bl true)))) [c]) := by kernel_rfl
theorem t2_1_0 (u : D) (c : Cell) (z5 z6 : Option U) : evS g15 rst (env9 u (some (.d (.int 2))) (some (.d (.str ""))) (some (.d (.int 0))) z5 z6) [c] = some (.nx (env9 u (some (.d (.int 2))) (some (.d (.str ""))) (some (.d (.int 0))) (some (.d (due 2 (.str "") (.int 0)))) (some (.d (.bl true)))) [c]) := by kernel_rfl
theorem t2_1_1 (u : D) (c : Cell) (z5 z6 : Option U) : evS g15 rst (env9 u (some (.d (.int 2))) (some (.d (.str ""))) (some (.d .non)) z5 z6) [c] = some (.nx (env9 u (some (.d (.int 2))) (some (.d (.str ""))) (some (.d .non)) (some (.d (due 2 (.str "") .non))) (some (.d (.bl true)))) [c]) := by kernel_rfl
theorem t2_1_2 (u : D) (c : Cell) (z5 z6 : Option U) : evS g15 rst (env9 u (some (.d (.int 2))) (some (.d (.str ""))) (some (.d (.str "b"))) z5 z6) [c] = some (.nx (env9 u (some (.d (.int 2))) (some (.d (.str ""))) (some (.d (.str "b"))) (some (.d (due 2 (.str "") (.str "b")))) (some (.d (.bl true)))) [c]) := by kernel_rfl
theorem t2_1_3 (u : D) (c : Cell) (z5 z6 : Option U) : evS g15 rst (env9 u (some (.d (.int 2))) (some (.d (.str ""))) (some (.d (.int (-1)))) z5 z6) [c] = some (.nx (env9 u (some (.d (.int 2))) (some (.d (.str ""))) (some (.d (.int (-1)))) (some (.d (due 2 (.str "") (.int (-1))))) (some (.d (.bl true)))) [c]) := by kernel_rfl
theorem t2_2_0 (u : D) (c : Cell) (z5 z6 : Option U) : evS g15 rst (env9 u (some (.d (.int 2))) (some (.d (.int 7))) (some (.d (.int 0))) z5 z6) [c] = some (.nx (env9 u (some (.d (.int 2))) (some (.d (.int 7))) (some (.d (.int 0))) (some (.d (due 2 (.int 7) (.int 0)))) (some (.d (.bl true)))) [c]) := by kernel_rfl
theorem t2_2_1 (u : D) (c : Cell) (z5 z6 : Option U) : evS g15 rst (env9 u (some (.d (.int 2))) (some (.d (.int 7))) (some (.d .non)) z5 z6) [c] = some (.nx (env9 u (some (.d (.int 2))) (some (.d (.int 7))) (some (.d .non)) (some (.d (due 2 (.int 7) .non))) (some (.d (.bl true)))) [c]) := by kernel_rfl
theorem t2_2_2 (u : D) (c : Cell) (z5 z6 : Option U) : evS g15 rst (env9 u (some (.d (.int 2))) (some (.d (.int 7))) (some (.d (.str "b"))) z5 z6) [c] = some (.nx (env9 u (some (.d (.int 2))) (some (.d (.int 7))) (some (.d (.str "b"))) (some (.d (due 2 (.int 7) (.str "b")))) (some (.d (.bl true)))) [c]) := by kernel_rfl
theorem t2_2_3 (u : D) (c : Cell) (z5 z6 : Option U) : evS g15 rst (env9 u (some (.d (.int 2))) (some (.d (.int 7))) (some (.d (.int (-1)))) z5 z6) [c] = some (.nx (env9 u (some (.d (.int 2))) (some (.d (.int 7))) (some (.d (.int (-1)))) (some (.d (due 2 (.int 7) (.int (-1))))) (some (.d (.bl true)))) [c]) := by kernel_rfl
theorem t2_3_0 (u : D) (c : Cell) (z5 z6 : Option U) : evS g15 rst (env9 u (some (.d (.int 2))) (some (.d .non)) (some (.d (.int 0))) z5 z6) [c] = some (.nx (env9 u (some (.d (.int 2))) (some (.d .non)) (some (.d (.int 0))) (some (.d (due 2 .non (.int 0)))) (some (.d (.bl true)))) [c]) := by kernel_rfl
theorem t2_3_1 (u : D) (c : Cell) (z5 z6 : Option U) : evS g15 rst (env9 u (some (.d (.int 2))) (some (.d .non)) (some (.d .non)) z5 z6) [c] = some (.nx (env9 u (some (.d (.int 2))) (some (.d .non)) (some (.d .non)) (some (.d (due 2 .non .non))) (some (.d (.bl true)))) [c]) := by kernel_rfl
theorem t2_3_2 (u : D) (c : Cell) (z5 z6 : Option U) : evS g15 rst (env9 u (some (.d (.int 2))) (some (.d .non)) (some (.d (.str "b"))) z5 z6) [c] = some (.nx (env9 u (some (.d (.int 2))) (some (.d .non)) (some (.d (.str "b"))) (some (.d (due 2 .non (.str "b")))) (some (.d (.bl true)))) [c]) := by kernel_rfl
theorem t2_3_3 (u : D) (c : Cell) (z5 z6 : Option U) : evS g15 rst (env9 u (some (.d (.int 2))) (some (.d .non)) (some (.d (.int (-1)))) z5 z6) [c] = some (.nx (env9 u (some (.d (.int 2))) (some (.d .non)) (some (.d (.int (-1)))) (some (.d (due 2 .non (.int (-1))))) (some (.d (.bl true)))) [c]) := by kernel_rfl
theorem t2_4_0 (u : D) (c : Cell) (z5 z6 : Option U) : evS g15 rst (env9 u (some (.d (.int 2))) (some (.d (.tup [.int 1]))) (some (.d (.int 0))) z5 z6) [c] = some (.nx (env9 u (some (.d (.int 2))) (some (.d (.tup [.int 1]))) (some (.d (.int 0))) (some (.d (due 2 (.tup [.int 1]) (.int 0)))) (some (.d (.bl true)))) [c]) := by kernel_rfl
theorem t2_4_1 (u : D) (c : Cell) (z5 z6 : Option U) : evS g15 rst (env9 u (some (.d (.int 2))) (some (.d (.tup [.int 1]))) (some (.d .non)) z5 z6) [c] = some (.nx (env9 u (some (.d (.int 2))) (some (.d (.tup [.int 1]))) (some (.d .non)) (some (.d (due 2 (.tup [.int 1]) .non))) (some (.d (.bl true)))) [c]) := by kernel_rfl
theorem t2_4_2 (u : D) (c : Cell) (z5 z6 : Option U) : evS g15 rst (env9 u (some (.d (.int 2))) (some (.d (.tup [.int 1]))) (some (.d (.str "b"))) z5 z6) [c] = some (.nx (env9 u (some (.d (.int 2))) (some (.d (.tup [.int 1]))) (some (.d (.str "b"))) (some (.d (due 2 (.tup [.int 1]) (.str "b")))) (some (.d (.bl true)))) [c]) := by kernel_rfl
theorem t2_4_3 (u : D) (c : Cell) (z5 z6 : Option U) : evS g15 rst (env9 u (some (.d (.int 2))) (some (.d (.tup [.int 1]))) (some (.d (.int (-1)))) z5 z6) [c] = some (.nx (env9 u (some (.d (.int 2))) (some (.d (.tup [.int 1]))) (some (.d (.int (-1)))) (some (.d (due 2 (.tup [.int 1]) (.int (-1))))) (some (.d (.bl true)))) [c]) := by kernel_rfl
theorem t2_5_0 (u : D) (c : Cell) (z5 z6 : Option U) : evS g15 rst (env9 u (some (.d (.int 2))) (some (.d (.lst [.int 2]))) (some (.d (.int 0))) z5 z6) [c] = some (.nx (env9 u (some (.d (.int 2))) (some (.d (.lst [.int 2]))) (some (.d (.int 0))) (some (.d (due 2 (.lst [.int 2]) (.int 0)))) (some (.d (.bl true)))) [c]) := by kernel_rfl
theorem t2_5_1 (u : D) (c : Cell) (z5 z6 : Option U) : evS g15 rst (env9 u (some (.d (.int 2))) (some (.d (.lst [.int 2]))) (some (.d .non)) z5 z6) [c] = some (.nx (env9 u (some (.d (.int 2))) (some (.d (.lst [.int 2]))) (some (.d .non)) (some (.d (due 2 (.lst [.int 2]) .non))) (some (.d (.bl true)))) [c]) := by kernel_rfl
theorem t2_5_2 (u : D) (c : Cell) (z5 z6 : Option U) : evS g15 rst (env9 u (some (.d (.int 2))) (some (.d (.lst [.int 2]))) (some (.d (.str "b"))) z5 z6) [c] = some (.nx (env9 u (some (.d (.int 2))) (some (.d (.lst [.int 2]))) (some (.d (.str "b"))) (some (.d (due 2 (.lst [.int 2]) (.str "b")))) (some (.d (.bl true)))) [c]) := by kernel_rfl
theorem t2_5_3 (u : D) (c : Cell) (z5 z6 : Option U) : evS g15 rst (env9 u (some (.d (.int 2))) (some (.d (.lst [.int 2]))) (some (.d (.int (-1)))) z5 z6) [c] = some (.nx (env9 u (some (.d (.int 2))) (some (.d (.lst [.int 2]))) (some (.d (.int (-1)))) (some (.d (due 2 (.lst [.int 2]) (.int (-1))))) (some (.d (.bl true)))) [c]) := by kernel_rfl
theorem t2 (x y : D) (hx : x ∈ o1) (hy : y ∈ o2) (u : D) (c : Cell) (z5 z6 : Option U) : evS g15 rst (env9 u (some (.d (.int 2))) (some (.d x)) (some (.d y)) z5 z6) [c] = some (.nx (env9 u (some (.d (.int 2))) (some (.d x)) (some (.d y)) (some (.d (due 2 x y))) (some (.d (.bl true)))) [c]) := by
  simp only [o1, o2, List.mem_cons, List.not_mem_nil, or_false] at hx hy
  rcases hx with rfl | rfl | rfl | rfl | rfl | rfl <;> rcases hy with rfl | rfl | rfl | rfl
  · exact t2_0_0 u c z5 z6
  · exact t2_0_1 u c z5 z6
  · exact t2_0_2 u c z5 z6
  · exact t2_0_3 u c z5 z6
  · exact t2_1_0 u c z5 z6
  · exact t2_1_1 u c z5 z6
  · exact t2_1_2 u c z5 z6
  · exact t2_1_3 u c z5 z6
  · exact t2_2_0 u c z5 z6
  · exact t2_2_1 u c z5 z6
  · exact t2_2_2 u c z5 z6
  · exact t2_2_3 u c z5 z6
  · exact t2_3_0 u c z5 z6
  · exact t2_3_1 u c z5 z6
  · exact t2_3_2 u c z5 z6
  · exact t2_3_3 u c z5 z6
  · exact t2_4_0 u c z5 z6
  · exact t2_4_1 u c z5 z6
  · exact t2_4_2 u c z5 z6
  · exact t2_4_3 u c z5 z6
  · exact t2_5_0 u c z5 z6
  · exact t2_5_1 u c z5 z6
  · exact t2_5_2 u c z5 z6
  · exact t2_5_3 u c z5 z6
theorem t3_0_0 (u : D) (c : Cell) (z5 z6 : Option U) : evS g15 rst (env9 u (some (.d (.int 3))) (some (.d (.str "a"))) (some (.d (.int 0))) z5 z6) [c] = some (.nx (env9 u (some (.d (.int 3))) (some (.d (.str "a"))) (some (.d (.int 0))) (some (.d (due 3 (.str "a") (.int 0)))) (some (.d (.bl true)))) [c]) := by kernel_rfl
theorem t3_0_1 (u : D) (c : Cell) (z5 z6 : Option U) : evS g15 rst (env9 u (some (.d (.int 3))) (some (.d (.str "a"))) (some (.d .non)) z5 z6) [c] = some (.nx (env9 u (some (.d (.int 3))) (some (.d (.str "a"))) (some (.d .non)) (some (.d (due 3 (.str "a") .non))) (some (.d (.bl true)))) [c]) := by kernel_rfl
theorem t3_0_2 (u : D) (c : Cell) (z5 z6 : Option U) : evS g15 rst (env9 u (some (.d (.int 3))) (some (.d (.str "a"))) (some (.d (.str "b"))) z5 z6) [c] = some (.nx (env9 u (some (.d (.int 3))) (some (.d (.str "a"))) (some (.d (.str "b"))) (some (.d (due 3 (.str "a") (.str "b")))) (some (.d (.bl true)))) [c]) := by kernel_rfl
theorem t3_0_3 (u : D) (c : Cell) (z5 z6 : Option U) : evS g15 rst (env9 u (some (.d (.int 3))) (some (.d (.str "a"))) (some (.d (.int (-1)))) z5 z6) [c] = some (.nx (env9 u (some (.d (.int 3))) (some (.d (.str "a"))) (some (.d (.int (-1)))) (some (.d (due 3 (.str "a") (.int (-1))))) (some (.d (.bl true)))) [c]) := by kernel_rfl
theorem t3_1_0 (u : D) (c : Cell) (z5 z6 : Option U) : evS g15 rst (env9 u (some (.d (.int 3))) (some (.d (.str ""))) (some (.d (.int 0))) z5 z6) [c] = some (.nx (env9 u (some (.d (.int 3))) (some (.d (.str ""))) (some (.d (.int 0))) (some (.d (due 3 (.str "") (.int 0)))) (some (.d (.bl true)))) [c]) := by kernel_rfl
theorem t3_1_1 (u : D) (c : Cell) (z5 z6 : Option U) : evS g15 rst (env9 u (some (.d (.int 3))) (some (.d (.str ""))) (some (.d .non)) z5 z6) [c] = some (.nx (env9 u (some (.d (.int 3))) (some (.d (.str ""))) (some (.d .non)) (some (.d (due 3 (.str "") .non))) (some (.d (.bl true)))) [c]) := by kernel_rfl
theorem t3_1_2 (u : D) (c : Cell) (z5 z6 : Option U) : evS g15 rst (env9 u (some (.d (.int 3))) (some (.d (.str ""))) (some (.d (.str "b"))) z5 z6) [c] = some (.nx (env9 u (some (.d (.int 3))) (some (.d (.str ""))) (some (.d (.str "b"))) (some (.d (due 3 (.str "") (.str "b")))) (some (.d (.bl true)))) [c]) := by kernel_rfl
theorem t3_1_3 (u : D) (c : Cell) (z5 z6 : Option U) : evS g15 rst (env9 u (some (.d (.int 3))) (some (.d (.str ""))) (some (.d (.int (-1)))) z5 z6) [c] = some (.nx (env9 u (some (.d (.int 3))) (some (.d (.str ""))) (some (.d (.int (-1)))) (some (.d (due 3 (.str "") (.int (-1))))) (some (.d (.bl true)))) [c]) := by kernel_rfl
theorem t3_2_0 (u : D) (c : Cell) (z5 z6 : Option U) : evS g15 rst (env9 u (some (.d (.int 3))) (some (.d (.int 7))) (some (.d (.int 0))) z5 z6) [c] = some (.nx (env9 u (some (.d (.int 3))) (some (.d (.int 7))) (some (.d (.int 0))) (some (.d (due 3 (.int 7) (.int 0)))) (some (.d (.bl true)))) [c]) := by kernel_rfl
theorem t3_2_1 (u : D) (c : Cell) (z5 z6 : Option U) : evS g15 rst (env9 u (some (.d (.int 3))) (some (.d (.int 7))) (some (.d .non)) z5 z6) [c] = some (.nx (env9 u (some (.d (.int 3))) (some (.d (.int 7))) (some (.d .non)) (some (.d (due 3 (.int 7) .non))) (some (.d (.bl true)))) [c]) := by kernel_rfl
theorem t3_2_2 (u : D) (c : Cell) (z5 z6 : Option U) : evS g15 rst (env9 u (some (.d (.int 3))) (some (.d (.int 7))) (some (.d (.str "b"))) z5 z6) [c] = some (.nx (env9 u (some (.d (.int 3))) (some (.d (.int 7))) (some (.d (.str "b"))) (some (.d (due 3 (.int 7) (.str "b")))) (some (.d (.bl true)))) [c]) := by kernel_rfl
theorem t3_2_3 (u : D) (c : Cell) (z5 z6 : Option U) : evS g15 rst (env9 u (some (.d (.int 3))) (some (.d (.int 7))) (some (.d (.int (-1)))) z5 z6) [c] = some (.nx (env9 u (some (.d (.int 3))) (some (.d (.int 7))) (some (.d (.int (-1)))) (some (.d (due 3 (.int 7) (.int (-1))))) (some (.d (.bl true)))) [c]) := by kernel_rfl
theorem t3_3_0 (u : D) (c : Cell) (z5 z6 : Option U) : evS g15 rst (env9 u (some (.d (.int 3))) (some (.d .non)) (some (.d (.int 0))) z5 z6) [c] = some (.nx (env9 u (some (.d (.int 3))) (some (.d .non)) (some (.d (.int 0))) (some (.d (due 3 .non (.int 0)))) (some (.d (.bl true)))) [c]) := by kernel_rfl
theorem t3_3_1 (u : D) (c : Cell) (z5 z6 : Option U) : evS g15 rst (env9 u (some (.d (.int 3))) (some (.d .non)) (some (.d .non)) z5 z6) [c] = some (.nx (env9 u (some (.d (.int 3))) (some (.d .non)) (some (.d .non)) (some (.d (due 3 .non .non))) (some (.d (.bl true)))) [c]) := by kernel_rfl
theorem t3_3_2 (u : D) (c : Cell) (z5 z6 : Option U) : evS g15 rst (env9 u (some (.d (.int 3))) (some (.d .non)) (some (.d (.str "b"))) z5 z6) [c] = some (.nx (env9 u (some (.d (.int 3))) (some (.d .non)) (some (.d (.str "b"))) (some (.d (due 3 .non (.str "b")))) (some (.d (.bl true)))) [c]) := by kernel_rfl
theorem t3_3_3 (u : D) (c : Cell) (z5 z6 : Option U) : evS g15 rst (env9 u (some (.d (.int 3))) (some (.d .non)) (some (.d (.int (-1)))) z5 z6) [c] = some (.nx (env9 u (some (.d (.int 3))) (some (.d .non)) (some (.d (.int (-1)))) (some (.d (due 3 .non (.int (-1))))) (some (.d (.bl true)))) [c]) := by kernel_rfl
theorem t3_4_0 (u : D) (c : Cell) (z5 z6 : Option U) : evS g15 rst (env9 u (some (.d (.int 3))) (some (.d (.tup [.int 1]))) (some (.d (.int 0))) z5 z6) [c] = some (.nx (env9 u (some (.d (.int 3))) (some (.d (.tup [.int 1]))) (some (.d (.int 0))) (some (.d (due 3 (.tup [.int 1]) (.int 0)))) (some (.d (.bl true)))) [c]) := by kernel_rfl
theorem t3_4_1 (u : D) (c : Cell) (z5 z6 : Option U) : evS g15 rst (env9 u (some (.d (.int 3))) (some (.d (.tup [.int 1]))) (some (.d .non)) z5 z6) [c] = some (.nx (env9 u (some (.d (.int 3))) (some (.d (.tup [.int 1]))) (some (.d .non)) (some (.d (due 3 (.tup [.int 1]) .non))) (some (.d (.bl true)))) [c]) := by kernel_rfl
theorem t3_4_2 (u : D) (c : Cell) (z5 z6 : Option U) : evS g15 rst (env9 u (some (.d (.int 3))) (some (.d (.tup [.int 1]))) (some (.d (.str "b"))) z5 z6) [c] = some (.nx (env9 u (some (.d (.int 3))) (some (.d (.tup [.int 1]))) (some (.d (.str "b"))) (some (.d (due 3 (.tup [.int 1]) (.str "b")))) (some (.d (.bl true)))) [c]) := by kernel_rfl
theorem t3_4_3 (u : D) (c : Cell) (z5 z6 : Option U) : evS g15 rst (env9 u (some (.d (.int 3))) (some (.d (.tup [.int 1]))) (some (.d (.int (-1)))) z5 z6) [c] = some (.nx (env9 u (some (.d (.int 3))) (some (.d (.tup [.int 1]))) (some (.d (.int (-1)))) (some (.d (due 3 (.tup [.int 1]) (.int (-1))))) (some (.d (.bl true)))) [c]) := by kernel_rfl
theorem t3_5_0 (u : D) (c : Cell) (z5 z6 : Option U) : evS g15 rst (env9 u (some (.d (.int 3))) (some (.d (.lst [.int 2]))) (some (.d (.int 0))) z5 z6) [c] = some (.nx (env9 u (some (.d (.int 3))) (some (.d (.lst [.int 2]))) (some (.d (.int 0))) (some (.d (due 3 (.lst [.int 2]) (.int 0)))) (some (.d (.bl true)))) [c]) := by kernel_rfl
theorem t3_5_1 (u : D) (c : Cell) (z5 z6 : Option U) : evS g15 rst (env9 u (some (.d (.int 3))) (some (.d (.lst [.int 2]))) (some (.d .non)) z5 z6) [c] = some (.nx (env9 u (some (.d (.int 3))) (some (.d (.lst [.int 2]))) (some (.d .non)) (some (.d (due 3 (.lst [.int 2]) .non))) (some (.d (.bl true)))) [c]) := by kernel_rfl
theorem t3_5_2 (u : D) (c : Cell) (z5 z6 : Option U) : evS g15 rst (env9 u (some (.d (.int 3))) (some (.d (.lst [.int 2]))) (some (.d (.str "b"))) z5 z6) [c] = some (.nx (env9 u (some (.d (.int 3))) (some (.d (.lst [.int 2]))) (some (.d (.str "b"))) (some (.d (due 3 (.lst [.int 2]) (.str "b")))) (some (.d (.bl true)))) [c]) := by kernel_rfl
theorem t3_5_3 (u : D) (c : Cell) (z5 z6 : Option U) : evS g15 rst (env9 u (some (.d (.int 3))) (some (.d (.lst [.int 2]))) (some (.d (.int (-1)))) z5 z6) [c] = some (.nx (env9 u (some (.d (.int 3))) (some (.d (.lst [.int 2]))) (some (.d (.int (-1)))) (some (.d (due 3 (.lst [.int 2]) (.int (-1))))) (some (.d (.bl true)))) [c]) := by kernel_rfl
theorem t3 (x y : D) (hx : x ∈ o1) (hy : y ∈ o2) (u : D) (c : Cell) (z5 z6 : Option U) : evS g15 rst (env9 u (some (.d (.int 3))) (some (.d x)) (some (.d y)) z5 z6) [c] = some (.nx (env9 u (some (.d (.int 3))) (some (.d x)) (some (.d y)) (some (.d (due 3 x y))) (some (.d (.bl true)))) [c]) := by
  simp only [o1, o2, List.mem_cons, List.not_mem_nil, or_false] at hx hy
  rcases hx with rfl | rfl | rfl | rfl | rfl | rfl <;> rcases hy with rfl | rfl | rfl | rfl
  · exact t3_0_0 u c z5 z6
  · exact t3_0_1 u c z5 z6
  · exact t3_0_2 u c z5 z6
  · exact t3_0_3 u c z5 z6
  · exact t3_1_0 u c z5 z6
  · exact t3_1_1 u c z5 z6
  · exact t3_1_2 u c z5 z6
  · exact t3_1_3 u c z5 z6
  · exact t3_2_0 u c z5 z6
  · exact t3_2_1 u c z5 z6
  · exact t3_2_2 u c z5 z6
  · exact t3_2_3 u c z5 z6
  · exact t3_3_0 u c z5 z6
  · exact t3_3_1 u c z5 z6
  · exact t3_3_2 u c z5 z6
  · exact t3_3_3 u c z5 z6
  · exact t3_4_0 u c z5 z6
  · exact t3_4_1 u c z5 z6
  · exact t3_4_2 u c z5 z6
  · exact t3_4_3 u c z5 z6
  · exact t3_5_0 u c z5 z6
  · exact t3_5_1 u c z5 z6
  · exact t3_5_2 u c z5 z6
  · exact t3_5_3 u c z5 z6
theorem t4_0_0 (u : D) (c : Cell) (z5 z6 : Option U) : evS g15 rst (env9 u (some (.d (.int 4))) (some (.d (.str "a"))) (some (.d (.int 0))) z5 z6) [c] = some (.nx (env9 u (some (.d (.int 4))) (some (.d (.str "a"))) (some (.d (.int 0))) (some (.d (due 4 (.str "a") (.int 0)))) (some (.d (.bl true)))) [c]) := by kernel_rfl
theorem t4_0_1 (u : D) (c : Cell) (z5 z6 : Option U) : evS g15 rst (env9 u (some (.d (.int 4))) (some (.d (.str "a"))) (some (.d .non)) z5 z6) [c] = some (.nx (env9 u (some (.d (.int 4))) (some (.d (.str "a"))) (some (.d .non)) (some (.d (due 4 (.str "a") .non))) (some (.d (.bl true)))) [c]) := by kernel_rfl
theorem t4_0_2 (u : D) (c : Cell) (z5 z6 : Option U) : evS g15 rst (env9 u (some (.d (.int 4))) (some (.d (.str "a"))) (some (.d (.str "b"))) z5 z6) [c] = some (.nx (env9 u (some (.d (.int 4))) (some (.d (.str "a"))) (some (.d (.str "b"))) (some (.d (due 4 (.str "a") (.str "b")))) (some (.d (.bl true)))) [c]) := by kernel_rfl
theorem t4_0_3 (u : D) (c : Cell) (z5 z6 : Option U) : evS g15 rst (env9 u (some (.d (.int 4))) (some (.d (.str "a"))) (some (.d (.int (-1)))) z5 z6) [c] = some (.nx (env9 u (some (.d (.int 4))) (some (.d (.str "a"))) (some (.d (.int (-1)))) (some (.d (due 4 (.str "a") (.int (-1))))) (some (.d (.bl true)))) [c]) := by kernel_rfl
theorem t4_1_0 (u : D) (c : Cell) (z5 z6 : Option U) : evS g15 rst (env9 u (some (.d (.int 4))) (some (.d (.str ""))) (some (.d (.int 0))) z5 z6) [c] = some (.nx (env9 u (some (.d (.int 4))) (some (.d (.str ""))) (some (.d (.int 0))) (some (.d (due 4 (.str "") (.int 0)))) (some (.d (.bl true)))) [c]) := by kernel_rfl
theorem t4_1_1 (u : D) (c : Cell) (z5 z6 : Option U) : evS g15 rst (env9 u (some (.d (.int 4))) (some (.d (.str ""))) (some (.d .non)) z5 z6) [c] = some (.nx (env9 u (some (.d (.int 4))) (some (.d (.str ""))) (some (.d .non)) (some (.d (due 4 (.str "") .non))) (some (.d (.bl true)))) [c]) := by kernel_rfl
theorem t4_1_2 (u : D) (c : Cell) (z5 z6 : Option U) : evS g15 rst (env9 u (some (.d (.int 4))) (some (.d (.str ""))) (some (.d (.str "b"))) z5 z6) [c] = some (.nx (env9 u (some (.d (.int 4))) (some (.d (.str ""))) (some (.d (.str "b"))) (some (.d (due 4 (.str "") (.str "b")))) (some (.d (.bl true)))) [c]) := by kernel_rfl
theorem t4_1_3 (u : D) (c : Cell) (z5 z6 : Option U) : evS g15 rst (env9 u (some (.d (.int 4))) (some (.d (.str ""))) (some (.d (.int (-1)))) z5 z6) [c] = some (.nx (env9 u (some (.d (.int 4))) (some (.d (.str ""))) (some (.d (.int (-1)))) (some (.d (due 4 (.str "") (.int (-1))))) (some (.d (.bl true)))) [c]) := by kernel_rfl
theorem t4_2_0 (u : D) (c : Cell) (z5 z6 : Option U) : evS g15 rst (env9 u (some (.d (.int 4))) (some (.d (.int 7))) (some (.d (.int 0))) z5 z6) [c] = some (.nx (env9 u (some (.d (.int 4))) (some (.d (.int 7))) (some (.d (.int 0))) (some (.d (due 4 (.int 7) (.int 0)))) (some (.d (.bl true)))) [c]) := by kernel_rfl
theorem t4_2_1 (u : D) (c : Cell) (z5 z6 : Option U) : evS g15 rst (env9 u (some (.d (.int 4))) (some (.d (.int 7))) (some (.d .non)) z5 z6) [c] = some (.nx (env9 u (some (.d (.int 4))) (some (.d (.int 7))) (some (.d .non)) (some (.d (due 4 (.int 7) .non))) (some (.d (.bl true)))) [c]) := by kernel_rfl
theorem t4_2_2 (u : D) (c : Cell) (z5 z6 : Option U) : evS g15 rst (env9 u (some (.d (.int 4))) (some (.d (.int 7))) (some (.d (.str "b"))) z5 z6) [c] = some (.nx (env9 u (some (.d (.int 4))) (some (.d (.int 7))) (some (.d (.str "b"))) (some (.d (due 4 (.int 7) (.str "b")))) (some (.d (.bl true)))) [c]) := by kernel_rfl
theorem t4_2_3 (u : D) (c : Cell) (z5 z6 : Option U) : evS g15 rst (env9 u (some (.d (.int 4))) (some (.d (.int 7))) (some (.d (.int (-1)))) z5 z6) [c] = some (.nx (env9 u (some (.d (.int 4))) (some (.d (.int 7))) (some (.d (.int (-1)))) (some (.d (due 4 (.int 7) (.int (-1))))) (some (.d (.bl true)))) [c]) := by kernel_rfl
theorem t4_3_0 (u : D) (c : Cell) (z5 z6 : Option U) : evS g15 rst (env9 u (some (.d (.int 4))) (some (.d .non)) (some (.d (.int 0))) z5 z6) [c] = some (.nx (env9 u (some (.d (.int 4))) (some (.d .non)) (some (.d (.int 0))) (some (.d (due 4 .non (.int 0)))) (some (.d (.bl true)))) [c]) := by kernel_rfl
theorem t4_3_1 (u : D) (c : Cell) (z5 z6 : Option U) : evS g15 rst (env9 u (some (.d (.int 4))) (some (.d .non)) (some (.d .non)) z5 z6) [c] = some (.nx (env9 u (some (.d (.int 4))) (some (.d .non)) (some (.d .non)) (some (.d (due 4 .non .non))) (some (.d (.bl true)))) [c]) := by kernel_rfl
theorem t4_3_2 (u : D) (c : Cell) (z5 z6 : Option U) : evS g15 rst (env9 u (some (.d (.int 4))) (some (.d .non)) (some (.d (.str "b"))) z5 z6) [c] = some (.nx (env9 u (some (.d (.int 4))) (some (.d .non)) (some (.d (.str "b"))) (some (.d (due 4 .non (.str "b")))) (some (.d (.bl true)))) [c]) := by kernel_rfl
theorem t4_3_3 (u : D) (c : Cell) (z5 z6 : Option U) : evS g15 rst (env9 u (some (.d (.int 4))) (some (.d .non)) (some (.d (.int (-1)))) z5 z6) [c] = some (.nx (env9 u (some (.d (.int 4))) (some (.d .non)) (some (.d (.int (-1)))) (some (.d (due 4 .non (.int (-1))))) (some (.d (.bl true)))) [c]) := by kernel_rfl
theorem t4_4_0 (u : D) (c : Cell) (z5 z6 : Option U) : evS g15 rst (env9 u (some (.d (.int 4))) (some (.d (.tup [.int 1]))) (some (.d (.int 0))) z5 z6) [c] = some (.nx (env9 u (some (.d (.int 4))) (some (.d (.tup [.int 1]))) (some (.d (.int 0))) (some (.d (due 4 (.tup [.int 1]) (.int 0)))) (some (.d (.bl true)))) [c]) := by kernel_rfl
theorem t4_4_1 (u : D) (c : Cell) (z5 z6 : Option U) : evS g15 rst (env9 u (some (.d (.int 4))) (some (.d (.tup [.int 1]))) (some (.d .non)) z5 z6) [c] = some (.nx (env9 u (some (.d (.int 4))) (some (.d (.tup [.int 1]))) (some (.d .non)) (some (.d (due 4 (.tup [.int 1]) .non))) (some (.d (.bl true)))) [c]) := by kernel_rfl
theorem t4_4_2 (u : D) (c : Cell) (z5 z6 : Option U) : evS g15 rst (env9 u (some (.d (.int 4))) (some (.d (.tup [.int 1]))) (some (.d (.str "b"))) z5 z6) [c] = some (.nx (env9 u (some (.d (.int 4))) (some (.d (.tup [.int 1]))) (some (.d (.str "b"))) (some (.d (due 4 (.tup [.int 1]) (.str "b")))) (some (.d (.bl true)))) [c]) := by kernel_rfl
theorem t4_4_3 (u : D) (c : Cell) (z5 z6 : Option U) : evS g15 rst (env9 u (some (.d (.int 4))) (some (.d (.tup [.int 1]))) (some (.d (.int (-1)))) z5 z6) [c] = some (.nx (env9 u (some (.d (.int 4))) (some (.d (.tup [.int 1]))) (some (.d (.int (-1)))) (some (.d (due 4 (.tup [.int 1]) (.int (-1))))) (some (.d (.bl true)))) [c]) := by kernel_rfl
theorem t4_5_0 (u : D) (c : Cell) (z5 z6 : Option U) : evS g15 rst (env9 u (some (.d (.int 4))) (some (.d (.lst [.int 2]))) (some (.d (.int 0))) z5 z6) [c] = some (.nx (env9 u (some (.d (.int 4))) (some (.d (.lst [.int 2]))) (some (.d (.int 0))) (some (.d (due 4 (.lst [.int 2]) (.int 0)))) (some (.d (.bl true)))) [c]) := by kernel_rfl
theorem t4_5_1 (u : D) (c : Cell) (z5 z6 : Option U) : evS g15 rst (env9 u (some (.d (.int 4))) (some (.d (.lst [.int 2]))) (some (.d .non)) z5 z6) [c] = some (.nx (env9 u (some (.d (.int 4))) (some (.d (.lst [.int 2]))) (some (.d .non)) (some (.d (due 4 (.lst [.int 2]) .non))) (some (.d (.bl true)))) [c]) := by kernel_rfl
theorem t4_5_2 (u : D) (c : Cell) (z5 z6 : Option U) : evS g15 rst (env9 u (some (.d (.int 4))) (some (.d (.lst [.int 2]))) (some (.d (.str "b"))) z5 z6) [c] = some (.nx (env9 u (some (.d (.int 4))) (some (.d (.lst [.int 2]))) (some (.d (.str "b"))) (some (.d (due 4 (.lst [.int 2]) (.str "b")))) (some (.d (.bl true)))) [c]) := by kernel_rfl
theorem t4_5_3 (u : D) (c : Cell) (z5 z6 : Option U) : evS g15 rst (env9 u (some (.d (.int 4))) (some (.d (.lst [.int 2]))) (some (.d (.int (-1)))) z5 z6) [c] = some (.nx (env9 u (some (.d (.int 4))) (some (.d (.lst [.int 2]))) (some (.d (.int (-1)))) (some (.d (due 4 (.lst [.int 2]) (.int (-1))))) (some (.d (.bl true)))) [c]) := by kernel_rfl
theorem t4 (x y : D) (hx : x ∈ o1) (hy : y ∈ o2) (u : D) (c : Cell) (z5 z6 : Option U) : evS g15 rst (env9 u (some (.d (.int 4))) (some (.d x)) (some (.d y)) z5 z6) [c] = some (.nx (env9 u (some (.d (.int 4))) (some (.d x)) (some (.d y)) (some (.d (due 4 x y))) (some (.d (.bl true)))) [c]) := by
  simp only [o1, o2, List.mem_cons, List.not_mem_nil, or_false] at hx hy
  rcases hx with rfl | rfl | rfl | rfl | rfl | rfl <;> rcases hy with rfl | rfl | rfl | rfl
  · exact t4_0_0 u c z5 z6
  · exact t4_0_1 u c z5 z6
  · exact t4_0_2 u c z5 z6
  · exact t4_0_3 u c z5 z6
  · exact t4_1_0 u c z5 z6
  · exact t4_1_1 u c z5 z6
  · exact t4_1_2 u c z5 z6
  · exact t4_1_3 u c z5 z6
  · exact t4_2_0 u c z5 z6
  · exact t4_2_1 u c z5 z6
  · exact t4_2_2 u c z5 z6
  · exact t4_2_3 u c z5 z6
  · exact t4_3_0 u c z5 z6
  · exact t4_3_1 u c z5 z6
  · exact t4_3_2 u c z5 z6
  · exact t4_3_3 u c z5 z6
  · exact t4_4_0 u c z5 z6
  · exact t4_4_1 u c z5 z6
  · exact t4_4_2 u c z5 z6
  · exact t4_4_3 u c z5 z6
  · exact t4_5_0 u c z5 z6
  · exact t4_5_1 u c z5 z6
  · exact t4_5_2 u c z5 z6
  · exact t4_5_3 u c z5 z6
theorem t5_0_0 (u : D) (c : Cell) (z5 z6 : Option U) : evS g15 rst (env9 u (some (.d (.int 5))) (some (.d (.str "a"))) (some (.d (.int 0))) z5 z6) [c] = some (.nx (env9 u (some (.d (.int 5))) (some (.d (.str "a"))) (some (.d (.int 0))) (some (.d (due 5 (.str "a") (.int 0)))) (some (.d (.bl true)))) [c]) := by kernel_rfl
theorem t5_0_1 (u : D) (c : Cell) (z5 z6 : Option U) : evS g15 rst (env9 u (some (.d (.int 5))) (some (.d (.str "a"))) (some (.d .non)) z5 z6) [c] = some (.nx (env9 u (some (.d (.int 5))) (some (.d (.str "a"))) (some (.d .non)) (some (.d (due 5 (.str "a") .non))) (some (.d (.bl true)))) [c]) := by kernel_rfl
theorem t5_0_2 (u : D) (c : Cell) (z5 z6 : Option U) : evS g15 rst (env9 u (some (.d (.int 5))) (some (.d (.str "a"))) (some (.d (.str "b"))) z5 z6) [c] = some (.nx (env9 u (some (.d (.int 5))) (some (.d (.str "a"))) (some (.d (.str "b"))) (some (.d (due 5 (.str "a") (.str "b")))) (some (.d (.bl true)))) [c]) := by kernel_rfl
theorem t5_0_3 (u : D) (c : Cell) (z5 z6 : Option U) : evS g15 rst (env9 u (some (.d (.int 5))) (some (.d (.str "a"))) (some (.d (.int (-1)))) z5 z6) [c] = some (.nx (env9 u (some (.d (.int 5))) (some (.d (.str "a"))) (some (.d (.int (-1)))) (some (.d (due 5 (.str "a") (.int (-1))))) (some (.d (.bl true)))) [c]) := by kernel_rfl
theorem t5_1_0 (u : D) (c : Cell) (z5 z6 : Option U) : evS g15 rst (env9 u (some (.d (.int 5))) (some (.d (.str ""))) (some (.d (.int 0))) z5 z6) [c] = some (.nx (env9 u (some (.d (.int 5))) (some (.d (.str ""))) (some (.d (.int 0))) (some (.d (due 5 (.str "") (.int 0)))) (some (.d (.bl true)))) [c]) := by kernel_rfl
theorem t5_1_1 (u : D) (c : Cell) (z5 z6 : Option U) : evS g15 rst (env9 u (some (.d (.int 5))) (some (.d (.str ""))) (some (.d .non)) z5 z6) [c] = some (.nx (env9 u (some (.d (.int 5))) (some (.d (.str ""))) (some (.d .non)) (some (.d (due 5 (.str "") .non))) (some (.d (.bl true)))) [c]) := by kernel_rfl
theorem t5_1_2 (u : D) (c : Cell) (z5 z6 : Option U) : evS g15 rst (env9 u (some (.d (.int 5))) (some (.d (.str ""))) (some (.d (.str "b"))) z5 z6) [c] = some (.nx (env9 u (some (.d (.int 5))) (some (.d (.str ""))) (some (.d (.str "b"))) (some (.d (due 5 (.str "") (.str "b")))) (some (.d (.bl true)))) [c]) := by kernel_rfl
theorem t5_1_3 (u : D) (c : Cell) (z5 z6 : Option U) : evS g15 rst (env9 u (some (.d (.int 5))) (some (.d (.str ""))) (some (.d (.int (-1)))) z5 z6) [c] = some (.nx (env9 u (some (.d (.int 5))) (some (.d (.str ""))) (some (.d (.int (-1)))) (some (.d (due 5 (.str "") (.int (-1))))) (some (.d (.bl true)))) [c]) := by kernel_rfl
theorem t5_2_0 (u : D) (c : Cell) (z5 z6 : Option U) : evS g15 rst (env9 u (some (.d (.int 5))) (some (.d (.int 7))) (some (.d (.int 0))) z5 z6) [c] = some (.nx (env9 u (some (.d (.int 5))) (some (.d (.int 7))) (some (.d (.int 0))) (some (.d (due 5 (.int 7) (.int 0)))) (some (.d (.bl true)))) [c]) := by kernel_rfl
theorem t5_2_1 (u : D) (c : Cell) (z5 z6 : Option U) : evS g15 rst (env9 u (some (.d (.int 5))) (some (.d (.int 7))) (some (.d .non)) z5 z6) [c] = some (.nx (env9 u (some (.d (.int 5))) (some (.d (.int 7))) (some (.d .non)) (some (.d (due 5 (.int 7) .non))) (some (.d (.bl true)))) [c]) := by kernel_rfl
theorem t5_2_2 (u : D) (c : Cell) (z5 z6 : Option U) : evS g15 rst (env9 u (some (.d (.int 5))) (some (.d (.int 7))) (some (.d (.str "b"))) z5 z6) [c] = some (.nx (env9 u (some (.d (.int 5))) (some (.d (.int 7))) (some (.d (.str "b"))) (some (.d (due 5 (.int 7) (.str "b")))) (some (.d (.bl true)))) [c]) := by kernel_rfl
theorem t5_2_3 (u : D) (c : Cell) (z5 z6 : Option U) : evS g15 rst (env9 u (some (.d (.int 5))) (some (.d (.int 7))) (some (.d (.int (-1)))) z5 z6) [c] = some (.nx (env9 u (some (.d (.int 5))) (some (.d (.int 7))) (some (.d (.int (-1)))) (some (.d (due 5 (.int 7) (.int (-1))))) (some (.d (.bl true)))) [c]) := by kernel_rfl
theorem t5_3_0 (u : D) (c : Cell) (z5 z6 : Option U) : evS g15 rst (env9 u (some (.d (.int 5))) (some (.d .non)) (some (.d (.int 0))) z5 z6) [c] = some (.nx (env9 u (some (.d (.int 5))) (some (.d .non)) (some (.d (.int 0))) (some (.d (due 5 .non (.int 0)))) (some (.d (.bl true)))) [c]) := by kernel_rfl
theorem t5_3_1 (u : D) (c : Cell) (z5 z6 : Option U) : evS g15 rst (env9 u (some (.d (.int 5))) (some (.d .non)) (some (.d .non)) z5 z6) [c] = some (.nx (env9 u (some (.d (.int 5))) (some (.d .non)) (some (.d .non)) (some (.d (due 5 .non .non))) (some (.d (.bl true)))) [c]) := by kernel_rfl
theorem t5_3_2 (u : D) (c : Cell) (z5 z6 : Option U) : evS g15 rst (env9 u (some (.d (.int 5))) (some (.d .non)) (some (.d (.str "b"))) z5 z6) [c] = some (.nx (env9 u (some (.d (.int 5))) (some (.d .non)) (some (.d (.str "b"))) (some (.d (due 5 .non (.str "b")))) (some (.d (.bl true)))) [c]) := by kernel_rfl
theorem t5_3_3 (u : D) (c : Cell) (z5 z6 : Option U) : evS g15 rst (env9 u (some (.d (.int 5))) (some (.d .non)) (some (.d (.int (-1)))) z5 z6) [c] = some (.nx (env9 u (some (.d (.int 5))) (some (.d .non)) (some (.d (.int (-1)))) (some (.d (due 5 .non (.int (-1))))) (some (.d (.bl true)))) [c]) := by kernel_rfl
theorem t5_4_0 (u : D) (c : Cell) (z5 z6 : Option U) : evS g15 rst (env9 u (some (.d (.int 5))) (some (.d (.tup [.int 1]))) (some (.d (.int 0))) z5 z6) [c] = some (.nx (env9 u (some (.d (.int 5))) (some (.d (.tup [.int 1]))) (some (.d (.int 0))) (some (.d (due 5 (.tup [.int 1]) (.int 0)))) (some (.d (.bl true)))) [c]) := by kernel_rfl
theorem t5_4_1 (u : D) (c : Cell) (z5 z6 : Option U) : evS g15 rst (env9 u (some (.d (.int 5))) (some (.d (.tup [.int 1]))) (some (.d .non)) z5 z6) [c] = some (.nx (env9 u (some (.d (.int 5))) (some (.d (.tup [.int 1]))) (some (.d .non)) (some (.d (due 5 (.tup [.int 1]) .non))) (some (.d (.bl true)))) [c]) := by kernel_rfl
theorem t5_4_2 (u : D) (c : Cell) (z5 z6 : Option U) : evS g15 rst (env9 u (some (.d (.int 5))) (some (.d (.tup [.int 1]))) (some (.d (.str "b"))) z5 z6) [c] = some (.nx (env9 u (some (.d (.int 5))) (some (.d (.tup [.int 1]))) (some (.d (.str "b"))) (some (.d (due 5 (.tup [.int 1]) (.str "b")))) (some (.d (.bl true)))) [c]) := by kernel_rfl
theorem t5_4_3 (u : D) (c : Cell) (z5 z6 : Option U) : evS g15 rst (env9 u (some (.d (.int 5))) (some (.d (.tup [.int 1]))) (some (.d (.int (-1)))) z5 z6) [c] = some (.nx (env9 u (some (.d (.int 5))) (some (.d (.tup [.int 1]))) (some (.d (.int (-1)))) (some (.d (due 5 (.tup [.int 1]) (.int (-1))))) (some (.d (.bl true)))) [c]) := by kernel_rfl
theorem t5_5_0 (u : D) (c : Cell) (z5 z6 : Option U) : evS g15 rst (env9 u (some (.d (.int 5))) (some (.d (.lst [.int 2]))) (some (.d (.int 0))) z5 z6) [c] = some (.nx (env9 u (some (.d (.int 5))) (some (.d (.lst [.int 2]))) (some (.d (.int 0))) (some (.d (due 5 (.lst [.int 2]) (.int 0)))) (some (.d (.bl true)))) [c]) := by kernel_rfl
theorem t5_5_1 (u : D) (c : Cell) (z5 z6 : Option U) : evS g15 rst (env9 u (some (.d (.int 5))) (some (.d (.lst [.int 2]))) (some (.d .non)) z5 z6) [c] = some (.nx (env9 u (some (.d (.int 5))) (some (.d (.lst [.int 2]))) (some (.d .non)) (some (.d (due 5 (.lst [.int 2]) .non))) (some (.d (.bl true)))) [c]) := by kernel_rfl
theorem t5_5_2 (u : D) (c : Cell) (z5 z6 : Option U) : evS g15 rst (env9 u (some (.d (.int 5))) (some (.d (.lst [.int 2]))) (some (.d (.str "b"))) z5 z6) [c] = some (.nx (env9 u (some (.d (.int 5))) (some (.d (.lst [.int 2]))) (some (.d (.str "b"))) (some (.d (due 5 (.lst [.int 2]) (.str "b")))) (some (.d (.bl true)))) [c]) := by kernel_rfl
theorem t5_5_3 (u : D) (c : Cell) (z5 z6 : Option U) : evS g15 rst (env9 u (some (.d (.int 5))) (some (.d (.lst [.int 2]))) (some (.d (.int (-1)))) z5 z6) [c] = some (.nx (env9 u (some (.d (.int 5))) (some (.d (.lst [.int 2]))) (some (.d (.int (-1)))) (some (.d (due 5 (.lst [.int 2]) (.int (-1))))) (some (.d (.bl true)))) [c]) := by kernel_rfl
theorem t5 (x y : D) (hx : x ∈ o1) (hy : y ∈ o2) (u : D) (c : Cell) (z5 z6 : Option U) : evS g15 rst (env9 u (some (.d (.int 5))) (some (.d x)) (some (.d y)) z5 z6) [c] = some (.nx (env9 u (some (.d (.int 5))) (some (.d x)) (some (.d y)) (some (.d (due 5 x y))) (some (.d (.bl true)))) [c]) := by
  simp only [o1, o2, List.mem_cons, List.not_mem_nil, or_false] at hx hy
  rcases hx with rfl | rfl | rfl | rfl | rfl | rfl <;> rcases hy with rfl | rfl | rfl | rfl
  · exact t5_0_0 u c z5 z6
  · exact t5_0_1 u c z5 z6
  · exact t5_0_2 u c z5 z6
  · exact t5_0_3 u c z5 z6
  · exact t5_1_0 u c z5 z6
  · exact t5_1_1 u c z5 z6
  · exact t5_1_2 u c z5 z6
  · exact t5_1_3 u c z5 z6
  · exact t5_2_0 u c z5 z6
  · exact t5_2_1 u c z5 z6
  · exact t5_2_2 u c z5 z6
  · exact t5_2_3 u c z5 z6
  · exact t5_3_0 u c z5 z6
  · exact t5_3_1 u c z5 z6
  · exact t5_3_2 u c z5 z6
  · exact t5_3_3 u c z5 z6
  · exact t5_4_0 u c z5 z6
  · exact t5_4_1 u c z5 z6
  · exact t5_4_2 u c z5 z6
  · exact t5_4_3 u c z5 z6
  · exact t5_5_0 u c z5 z6
  · exact t5_5_1 u c z5 z6
  · exact t5_5_2 u c z5 z6
  · exact t5_5_3 u c z5 z6
theorem t6_0_0 (u : D) (c : Cell) (z5 z6 : Option U) : evS g15 rst (env9 u (some (.d (.int 6))) (some (.d (.str "a"))) (some (.d (.int 0))) z5 z6) [c] = some (.nx (env9 u (some (.d (.int 6))) (some (.d (.str "a"))) (some (.d (.int 0))) (some (.d (due 6 (.str "a") (.int 0)))) (some (.d (.bl true)))) [c]) := by kernel_rfl
theorem t6_0_1 (u : D) (c : Cell) (z5 z6 : Option U) : evS g15 rst (env9 u (some (.d (.int 6))) (some (.d (.str "a"))) (some (.d .non)) z5 z6) [c] = some (.nx (env9 u (some (.d (.int 6))) (some (.d (.str "a"))) (some (.d .non)) (some (.d (due 6 (.str "a") .non))) (some (.d (.bl true)))) [c]) := by kernel_rfl
theorem t6_0_2 (u : D) (c : Cell) (z5 z6 : Option U) : evS g15 rst (env9 u (some (.d (.int 6))) (some (.d (.str "a"))) (some (.d (.str "b"))) z5 z6) [c] = some (.nx (env9 u (some (.d (.int 6))) (some (.d (.str "a"))) (some (.d (.str "b"))) (some (.d (due 6 (.str "a") (.str "b")))) (some (.d (.bl true)))) [c]) := by kernel_rfl
theorem t6_0_3 (u : D) (c : Cell) (z5 z6 : Option U) : evS g15 rst (env9 u (some (.d (.int 6))) (some (.d (.str "a"))) (some (.d (.int (-1)))) z5 z6) [c] = some (.nx (env9 u (some (.d (.int 6))) (some (.d (.str "a"))) (some (.d (.int (-1)))) (some (.d (due 6 (.str "a") (.int (-1))))) (some (.d (.bl true)))) [c]) := by kernel_rfl
theorem t6_1_0 (u : D) (c : Cell) (z5 z6 : Option U) : evS g15 rst (env9 u (some (.d (.int 6))) (some (.d (.str ""))) (some (.d (.int 0))) z5 z6) [c] = some (.nx (env9 u (some (.d (.int 6))) (some (.d (.str ""))) (some (.d (.int 0))) (some (.d (due 6 (.str "") (.int 0)))) (some (.d (.bl true)))) [c]) := by kernel_rfl
theorem t6_1_1 (u : D) (c : Cell) (z5 z6 : Option U) : evS g15 rst (env9 u (some (.d (.int 6))) (some (.d (.str ""))) (some (.d .non)) z5 z6) [c] = some (.nx (env9 u (some (.d (.int 6))) (some (.d (.str ""))) (some (.d .non)) (some (.d (due 6 (.str "") .non))) (some (.d (.bl true)))) [c]) := by kernel_rfl
theorem t6_1_2 (u : D) (c : Cell) (z5 z6 : Option U) : evS g15 rst (env9 u (some (.d (.int 6))) (some (.d (.str ""))) (some (.d (.str "b"))) z5 z6) [c] = some (.nx (env9 u (some (.d (.int 6))) (some (.d (.str ""))) (some (.d (.str "b"))) (some (.d (due 6 (.str "") (.str "b")))) (some (.d (.bl true)))) [c]) := by kernel_rfl
theorem t6_1_3 (u : D) (c : Cell) (z5 z6 : Option U) : evS g15 rst (env9 u (some (.d (.int 6))) (some (.d (.str ""))) (some (.d (.int (-1)))) z5 z6) [c] = some (.nx (env9 u (some (.d (.int 6))) (some (.d (.str ""))) (some (.d (.int (-1)))) (some (.d (due 6 (.str "") (.int (-1))))) (some (.d (.bl true)))) [c]) := by kernel_rfl
theorem t6_2_0 (u : D) (c : Cell) (z5 z6 : Option U) : evS g15 rst (env9 u (some (.d (.int 6))) (some (.d (.int 7))) (some (.d (.int 0))) z5 z6) [c] = some (.nx (env9 u (some (.d (.int 6))) (some (.d (.int 7))) (some (.d (.int 0))) (some (.d (due 6 (.int 7) (.int 0)))) (some (.d (.bl true)))) [c]) := by kernel_rfl
theorem t6_2_1 (u : D) (c : Cell) (z5 z6 : Option U) : evS g15 rst (env9 u (some (.d (.int 6))) (some (.d (.int 7))) (some (.d .non)) z5 z6) [c] = some (.nx (env9 u (some (.d (.int 6))) (some (.d (.int 7))) (some (.d .non)) (some (.d (due 6 (.int 7) .non))) (some (.d (.bl true)))) [c]) := by kernel_rfl
theorem t6_2_2 (u : D) (c : Cell) (z5 z6 : Option U) : evS g15 rst (env9 u (some (.d (.int 6))) (some (.d (.int 7))) (some (.d (.str "b"))) z5 z6) [c] = some (.nx (env9 u (some (.d (.int 6))) (some (.d (.int 7))) (some (.d (.str "b"))) (some (.d (due 6 (.int 7) (.str "b")))) (some (.d (.bl true)))) [c]) := by kernel_rfl
theorem t6_2_3 (u : D) (c : Cell) (z5 z6 : Option U) : evS g15 rst (env9 u (some (.d (.int 6))) (some (.d (.int 7))) (some (.d (.int (-1)))) z5 z6) [c] = some (.nx (env9 u (some (.d (.int 6))) (some (.d (.int 7))) (some (.d (.int (-1)))) (some (.d (due 6 (.int 7) (.int (-1))))) (some (.d (.bl true)))) [c]) := by kernel_rfl
theorem t6_3_0 (u : D) (c : Cell) (z5 z6 : Option U) : evS g15 rst (env9 u (some (.d (.int 6))) (some (.d .non)) (some (.d (.int 0))) z5 z6) [c] = some (.nx (env9 u (some (.d (.int 6))) (some (.d .non)) (some (.d (.int 0))) (some (.d (due 6 .non (.int 0)))) (some (.d (.bl true)))) [c]) := by kernel_rfl
theorem t6_3_1 (u : D) (c : Cell) (z5 z6 : Option U) : evS g15 rst (env9 u (some (.d (.int 6))) (some (.d .non)) (some (.d .non)) z5 z6) [c] = some (.nx (env9 u (some (.d (.int 6))) (some (.d .non)) (some (.d .non)) (some (.d (due 6 .non .non))) (some (.d (.bl true)))) [c]) := by kernel_rfl
theorem t6_3_2 (u : D) (c : Cell) (z5 z6 : Option U) : evS g15 rst (env9 u (some (.d (.int 6))) (some (.d .non)) (some (.d (.str "b"))) z5 z6) [c] = some (.nx (env9 u (some (.d (.int 6))) (some (.d .non)) (some (.d (.str "b"))) (some (.d (due 6 .non (.str "b")))) (some (.d (.bl true)))) [c]) := by kernel_rfl
theorem t6_3_3 (u : D) (c : Cell) (z5 z6 : Option U) : evS g15 rst (env9 u (some (.d (.int 6))) (some (.d .non)) (some (.d (.int (-1)))) z5 z6) [c] = some (.nx (env9 u (some (.d (.int 6))) (some (.d .non)) (some (.d (.int (-1)))) (some (.d (due 6 .non (.int (-1))))) (some (.d (.bl true)))) [c]) := by kernel_rfl
theorem t6_4_0 (u : D) (c : Cell) (z5 z6 : Option U) : evS g15 rst (env9 u (some (.d (.int 6))) (some (.d (.tup [.int 1]))) (some (.d (.int 0))) z5 z6) [c] = some (.nx (env9 u (some (.d (.int 6))) (some (.d (.tup [.int 1]))) (some (.d (.int 0))) (some (.d (due 6 (.tup [.int 1]) (.int 0)))) (some (.d (.bl true)))) [c]) := by kernel_rfl
theorem t6_4_1 (u : D) (c : Cell) (z5 z6 : Option U) : evS g15 rst (env9 u (some (.d (.int 6))) (some (.d (.tup [.int 1]))) (some (.d .non)) z5 z6) [c] = some (.nx (env9 u (some (.d (.int 6))) (some (.d (.tup [.int 1]))) (some (.d .non)) (some (.d (due 6 (.tup [.int 1]) .non))) (some (.d (.bl true)))) [c]) := by kernel_rfl
theorem t6_4_2 (u : D) (c : Cell) (z5 z6 : Option U) : evS g15 rst (env9 u (some (.d (.int 6))) (some (.d (.tup [.int 1]))) (some (.d (.str "b"))) z5 z6) [c] = some (.nx (env9 u (some (.d (.int 6))) (some (.d (.tup [.int 1]))) (some (.d (.str "b"))) (some (.d (due 6 (.tup [.int 1]) (.str "b")))) (some (.d (.bl true)))) [c]) := by kernel_rfl
theorem t6_4_3 (u : D) (c : Cell) (z5 z6 : Option U) : evS g15 rst (env9 u (some (.d (.int 6))) (some (.d (.tup [.int 1]))) (some (.d (.int (-1)))) z5 z6) [c] = some (.nx (env9 u (some (.d (.int 6))) (some (.d (.tup [.int 1]))) (some (.d (.int (-1)))) (some (.d (due 6 (.tup [.int 1]) (.int (-1))))) (some (.d (.bl true)))) [c]) := by kernel_rfl
theorem t6_5_0 (u : D) (c : Cell) (z5 z6 : Option U) : evS g15 rst (env9 u (some (.d (.int 6))) (some (.d (.lst [.int 2]))) (some (.d (.int 0))) z5 z6) [c] = some (.nx (env9 u (some (.d (.int 6))) (some (.d (.lst [.int 2]))) (some (.d (.int 0))) (some (.d (due 6 (.lst [.int 2]) (.int 0)))) (some (.d (.bl true)))) [c]) := by kernel_rfl
theorem t6_5_1 (u : D) (c : Cell) (z5 z6 : Option U) : evS g15 rst (env9 u (some (.d (.int 6))) (some (.d (.lst [.int 2]))) (some (.d .non)) z5 z6) [c] = some (.nx (env9 u (some (.d (.int 6))) (some (.d (.lst [.int 2]))) (some (.d .non)) (some (.d (due 6 (.lst [.int 2]) .non))) (some (.d (.bl true)))) [c]) := by kernel_rfl
theorem t6_5_2 (u : D) (c : Cell) (z5 z6 : Option U) : evS g15 rst (env9 u (some (.d (.int 6))) (some (.d (.lst [.int 2]))) (some (.d (.str "b"))) z5 z6) [c] = some (.nx (env9 u (some (.d (.int 6))) (some (.d (.lst [.int 2]))) (some (.d (.str "b"))) (some (.d (due 6 (.lst [.int 2]) (.str "b")))) (some (.d (.bl true)))) [c]) := by kernel_rfl
theorem t6_5_3 (u : D) (c : Cell) (z5 z6 : Option U) : evS g15 rst (env9 u (some (.d (.int 6))) (some (.d (.lst [.int 2]))) (some (.d (.int (-1)))) z5 z6) [c] = some (.nx (env9 u (some (.d (.int 6))) (some (.d (.lst [.int 2]))) (some (.d (.int (-1)))) (some (.d (due 6 (.lst [.int 2]) (.int (-1))))) (some (.d (.bl true)))) [c]) := by kernel_rfl
theorem t6 (x y : D) (hx : x ∈ o1) (hy : y ∈ o2) (u : D) (c : Cell) (z5 z6 : Option U) : evS g15 rst (env9 u (some (.d (.int 6))) (some (.d x)) (some (.d y)) z5 z6) [c] = some (.nx (env9 u (some (.d (.int 6))) (some (.d x)) (some (.d y)) (some (.d (due 6 x y))) (some (.d (.bl true)))) [c]) := by
  simp only [o1, o2, List.mem_cons, List.not_mem_nil, or_false] at hx hy
  rcases hx with rfl | rfl | rfl | rfl | rfl | rfl <;> rcases hy with rfl | rfl | rfl | rfl
  · exact t6_0_0 u c z5 z6
  · exact t6_0_1 u c z5 z6
  · exact t6_0_2 u c z5 z6
  · exact t6_0_3 u c z5 z6
  · exact t6_1_0 u c z5 z6
  · exact t6_1_1 u c z5 z6
  · exact t6_1_2 u c z5 z6
  · exact t6_1_3 u c z5 z6
  · exact t6_2_0 u c z5 z6
  · exact t6_2_1 u c z5 z6
  · exact t6_2_2 u c z5 z6
  · exact t6_2_3 u c z5 z6
  · exact t6_3_0 u c z5 z6
  · exact t6_3_1 u c z5 z6
  · exact t6_3_2 u c z5 z6
  · exact t6_3_3 u c z5 z6
  · exact t6_4_0 u c z5 z6
  · exact t6_4_1 u c z5 z6
  · exact t6_4_2 u c z5 z6
  · exact t6_4_3 u c z5 z6
  · exact t6_5_0 u c z5 z6
  · exact t6_5_1 u c z5 z6
  · exact t6_5_2 u c z5 z6
  · exact t6_5_3 u c z5 z6
theorem t7_0_0 (u : D) (c : Cell) (z5 z6 : Option U) : evS g15 rst (env9 u (some (.d (.int 7))) (some (.d (.str "a"))) (some (.d (.int 0))) z5 z6) [c] = some (.nx (env9 u (some (.d (.int 7))) (some (.d (.str "a"))) (some (.d (.int 0))) (some (.d (due 7 (.str "a") (.int 0)))) (some (.d (.bl true)))) [c]) := by kernel_rfl
theorem t7_0_1 (u : D) (c : Cell) (z5 z6 : Option U) : evS g15 rst (env9 u (some (.d (.int 7))) (some (.d (.str "a"))) (some (.d .non)) z5 z6) [c] = some (.nx (env9 u (some (.d (.int 7))) (some (.d (.str "a"))) (some (.d .non)) (some (.d (due 7 (.str "a") .non))) (some (.d (.bl true)))) [c]) := by kernel_rfl
theorem t7_0_2 (u : D) (c : Cell) (z5 z6 : Option U) : evS g15 rst (env9 u (some (.d (.int 7))) (some (.d (.str "a"))) (some (.d (.str "b"))) z5 z6) [c] = some (.nx (env9 u (some (.d (.int 7))) (some (.d (.str "a"))) (some (.d (.str "b"))) (some (.d (due 7 (.str "a") (.str "b")))) (some (.d (.bl true)))) [c]) := by kernel_rfl
theorem t7_0_3 (u : D) (c : Cell) (z5 z6 : Option U) : evS g15 rst (env9 u (some (.d (.int 7))) (some (.d (.str "a"))) (some (.d (.int (-1)))) z5 z6) [c] = some (.nx (env9 u (some (.d (.int 7))) (some (.d (.str "a"))) (some (.d (.int (-1)))) (some (.d (due 7 (.str "a") (.int (-1))))) (some (.d (.bl true)))) [c]) := by kernel_rfl
theorem t7_1_0 (u : D) (c : Cell) (z5 z6 : Option U) : evS g15 rst (env9 u (some (.d (.int 7))) (some (.d (.str ""))) (some (.d (.int 0))) z5 z6) [c] = some (.nx (env9 u (some (.d (.int 7))) (some (.d (.str ""))) (some (.d (.int 0))) (some (.d (due 7 (.str "") (.int 0)))) (some (.d (.bl true)))) [c]) := by kernel_rfl
theorem t7_1_1 (u : D) (c : Cell) (z5 z6 : Option U) : evS g15 rst (env9 u (some (.d (.int 7))) (some (.d (.str ""))) (some (.d .non)) z5 z6) [c] = some (.nx (env9 u (some (.d (.int 7))) (some (.d (.str ""))) (some (.d .non)) (some (.d (due 7 (.str "") .non))) (some (.d (.bl true)))) [c]) := by kernel_rfl
theorem t7_1_2 (u : D) (c : Cell) (z5 z6 : Option U) : evS g15 rst (env9 u (some (.d (.int 7))) (some (.d (.str ""))) (some (.d (.str "b"))) z5 z6) [c] = some (.nx (env9 u (some (.d (.int 7))) (some (.d (.str ""))) (some (.d (.str "b"))) (some (.d (due 7 (.str "") (.str "b")))) (some (.d (.bl true)))) [c]) := by kernel_rfl
theorem t7_1_3 (u : D) (c : Cell) (z5 z6 : Option U) : evS g15 rst (env9 u (some (.d (.int 7))) (some (.d (.str ""))) (some (.d (.int (-1)))) z5 z6) [c] = some (.nx (env9 u (some (.d (.int 7))) (some (.d (.str ""))) (some (.d (.int (-1)))) (some (.d (due 7 (.str "") (.int (-1))))) (some (.d (.bl true)))) [c]) := by kernel_rfl
theorem t7_2_0 (u : D) (c : Cell) (z5 z6 : Option U) : evS g15 rst (env9 u (some (.d (.int 7))) (some (.d (.int 7))) (some (.d (.int 0))) z5 z6) [c] = some (.nx (env9 u (some (.d (.int 7))) (some (.d (.int 7))) (some (.d (.int 0))) (some (.d (due 7 (.int 7) (.int 0)))) (some (.d (.bl true)))) [c]) := by kernel_rfl
theorem t7_2_1 (u : D) (c : Cell) (z5 z6 : Option U) : evS g15 rst (env9 u (some (.d (.int 7))) (some (.d (.int 7))) (some (.d .non)) z5 z6) [c] = some (.nx (env9 u (some (.d (.int 7))) (some (.d (.int 7))) (some (.d .non)) (some (.d (due 7 (.int 7) .non))) (some (.d (.bl true)))) [c]) := by kernel_rfl
theorem t7_2_2 (u : D) (c : Cell) (z5 z6 : Option U) : evS g15 rst (env9 u (some (.d (.int 7))) (some (.d (.int 7))) (some (.d (.str "b"))) z5 z6) [c] = some (.nx (env9 u (some (.d (.int 7))) (some (.d (.int 7))) (some (.d (.str "b"))) (some (.d (due 7 (.int 7) (.str "b")))) (some (.d (.bl true)))) [c]) := by kernel_rfl
theorem t7_2_3 (u : D) (c : Cell) (z5 z6 : Option U) : evS g15 rst (env9 u (some (.d (.int 7))) (some (.d (.int 7))) (some (.d (.int (-1)))) z5 z6) [c] = some (.nx (env9 u (some (.d (.int 7))) (some (.d (.int 7))) (some (.d (.int (-1)))) (some (.d (due 7 (.int 7) (.int (-1))))) (some (.d (.bl true)))) [c]) := by kernel_rfl
theorem t7_3_0 (u : D) (c : Cell) (z5 z6 : Option U) : evS g15 rst (env9 u (some (.d (.int 7))) (some (.d .non)) (some (.d (.int 0))) z5 z6) [c] = some (.nx (env9 u (some (.d (.int 7))) (some (.d .non)) (some (.d (.int 0))) (some (.d (due 7 .non (.int 0)))) (some (.d (.bl true)))) [c]) := by kernel_rfl
theorem t7_3_1 (u : D) (c : Cell) (z5 z6 : Option U) : evS g15 rst (env9 u (some (.d (.int 7))) (some (.d .non)) (some (.d .non)) z5 z6) [c] = some (.nx (env9 u (some (.d (.int 7))) (some (.d .non)) (some (.d .non)) (some (.d (due 7 .non .non))) (some (.d (.bl true)))) [c]) := by kernel_rfl
theorem t7_3_2 (u : D) (c : Cell) (z5 z6 : Option U) : evS g15 rst (env9 u (some (.d (.int 7))) (some (.d .non)) (some (.d (.str "b"))) z5 z6) [c] = some (.nx (env9 u (some (.d (.int 7))) (some (.d .non)) (some (.d (.str "b"))) (some (.d (due 7 .non (.str "b")))) (some (.d (.bl true)))) [c]) := by kernel_rfl
theorem t7_3_3 (u : D) (c : Cell) (z5 z6 : Option U) : evS g15 rst (env9 u (some (.d (.int 7))) (some (.d .non)) (some (.d (.int (-1)))) z5 z6) [c] = some (.nx (env9 u (some (.d (.int 7))) (some (.d .non)) (some (.d (.int (-1)))) (some (.d (due 7 .non (.int (-1))))) (some (.d (.bl true)))) [c]) := by kernel_rfl
theorem t7_4_0 (u : D) (c : Cell) (z5 z6 : Option U) : evS g15 rst (env9 u (some (.d (.int 7))) (some (.d (.tup [.int 1]))) (some (.d (.int 0))) z5 z6) [c] = some (.nx (env9 u (some (.d (.int 7))) (some (.d (.tup [.int 1]))) (some (.d (.int 0))) (some (.d (due 7 (.tup [.int 1]) (.int 0)))) (some (.d (.bl true)))) [c]) := by kernel_rfl
theorem t7_4_1 (u : D) (c : Cell) (z5 z6 : Option U) : evS g15 rst (env9 u (some (.d (.int 7))) (some (.d (.tup [.int 1]))) (some (.d .non)) z5 z6) [c] = some (.nx (env9 u (some (.d (.int 7))) (some (.d (.tup [.int 1]))) (some (.d .non)) (some (.d (due 7 (.tup [.int 1]) .non))) (some (.d (.bl true)))) [c]) := by kernel_rfl
theorem t7_4_2 (u : D) (c : Cell) (z5 z6 : Option U) : evS g15 rst (env9 u (some (.d (.int 7))) (some (.d (.tup [.int 1]))) (some (.d (.str "b"))) z5 z6) [c] = some (.nx (env9 u (some (.d (.int 7))) (some (.d (.tup [.int 1]))) (some (.d (.str "b"))) (some (.d (due 7 (.tup [.int 1]) (.str "b")))) (some (.d (.bl true)))) [c]) := by kernel_rfl
theorem t7_4_3 (u : D) (c : Cell) (z5 z6 : Option U) : evS g15 rst (env9 u (some (.d (.int 7))) (some (.d (.tup [.int 1]))) (some (.d (.int (-1)))) z5 z6) [c] = some (.nx (env9 u (some (.d (.int 7))) (some (.d (.tup [.int 1]))) (some (.d (.int (-1)))) (some (.d (due 7 (.tup [.int 1]) (.int (-1))))) (some (.d (.bl true)))) [c]) := by kernel_rfl
theorem t7_5_0 (u : D) (c : Cell) (z5 z6 : Option U) : evS g15 rst (env9 u (some (.d (.int 7))) (some (.d (.lst [.int 2]))) (some (.d (.int 0))) z5 z6) [c] = some (.nx (env9 u (some (.d (.int 7))) (some (.d (.lst [.int 2]))) (some (.d (.int 0))) (some (.d (due 7 (.lst [.int 2]) (.int 0)))) (some (.d (.bl true)))) [c]) := by kernel_rfl
theorem t7_5_1 (u : D) (c : Cell) (z5 z6 : Option U) : evS g15 rst (env9 u (some (.d (.int 7))) (some (.d (.lst [.int 2]))) (some (.d .non)) z5 z6) [c] = some (.nx (env9 u (some (.d (.int 7))) (some (.d (.lst [.int 2]))) (some (.d .non)) (some (.d (due 7 (.lst [.int 2]) .non))) (some (.d (.bl true)))) [c]) := by kernel_rfl
theorem t7_5_2 (u : D) (c : Cell) (z5 z6 : Option U) : evS g15 rst (env9 u (some (.d (.int 7))) (some (.d (.lst [.int 2]))) (some (.d (.str "b"))) z5 z6) [c] = some (.nx (env9 u (some (.d (.int 7))) (some (.d (.lst [.int 2]))) (some (.d (.str "b"))) (some (.d (due 7 (.lst [.int 2]) (.str "b")))) (some (.d (.bl true)))) [c]) := by kernel_rfl
theorem t7_5_3 (u : D) (c : Cell) (z5 z6 : Option U) : evS g15 rst (env9 u (some (.d (.int 7))) (some (.d (.lst [.int 2]))) (some (.d (.int (-1)))) z5 z6) [c] = some (.nx (env9 u (some (.d (.int 7))) (some (.d (.lst [.int 2]))) (some (.d (.int (-1)))) (some (.d (due 7 (.lst [.int 2]) (.int (-1))))) (some (.d (.bl true)))) [c]) := by kernel_rfl
theorem t7 (x y : D) (hx : x ∈ o1) (hy : y ∈ o2) (u : D) (c : Cell) (z5 z6 : Option U) : evS g15 rst (env9 u (some (.d (.int 7))) (some (.d x)) (some (.d y)) z5 z6) [c] = some (.nx (env9 u (some (.d (.int 7))) (some (.d x)) (some (.d y)) (some (.d (due 7 x y))) (some (.d (.bl true)))) [c]) := by
  simp only [o1, o2, List.mem_cons, List.not_mem_nil, or_false] at hx hy
  rcases hx with rfl | rfl | rfl | rfl | rfl | rfl <;> rcases hy with rfl | rfl | rfl | rfl
  · exact t7_0_0 u c z5 z6
  · exact t7_0_1 u c z5 z6
  · exact t7_0_2 u c z5 z6
  · exact t7_0_3 u c z5 z6
  · exact t7_1_0 u c z5 z6
  · exact t7_1_1 u c z5 z6
  · exact t7_1_2 u c z5 z6
  · exact t7_1_3 u c z5 z6
  · exact t7_2_0 u c z5 z6
  · exact t7_2_1 u c z5 z6
  · exact t7_2_2 u c z5 z6
  · exact t7_2_3 u c z5 z6
  · exact t7_3_0 u c z5 z6
  · exact t7_3_1 u c z5 z6
  · exact t7_3_2 u c z5 z6
  · exact t7_3_3 u c z5 z6
  · exact t7_4_0 u c z5 z6
  · exact t7_4_1 u c z5 z6
  · exact t7_4_2 u c z5 z6
  · exact t7_4_3 u c z5 z6
  · exact t7_5_0 u c z5 z6
  · exact t7_5_1 u c z5 z6
  · exact t7_5_2 u c z5 z6
  · exact t7_5_3 u c z5 z6
theorem t_all (k : Nat) (hk : k < 8) (x y : D) (hx : x ∈ o1) (hy : y ∈ o2) (u : D) (c : Cell) (z5 z6 : Option U) : evS g15 rst (env9 u (some (.d (.int (k : Int)))) (some (.d x)) (some (.d y)) z5 z6) [c] = some (.nx (env9 u (some (.d (.int (k : Int)))) (some (.d x)) (some (.d y)) (some (.d (due k x y))) (some (.d (.bl true)))) [c]) := by
  match k, hk with
  | 0, _ => exact t0 x y hx hy u c z5 z6
  | 1, _ => exact t1 x y hx hy u c z5 z6
  | 2, _ => exact t2 x y hx hy u c z5 z6
  | 3, _ => exact t3 x y hx hy u c z5 z6
  | 4, _ => exact t4 x y hx hy u c z5 z6
  | 5, _ => exact t5 x y hx hy u c z5 z6
  | 6, _ => exact t6 x y hx hy u c z5 z6
  | 7, _ => exact t7 x y hx hy u c z5 z6
theorem loopK (u : D) : ∀ (ks : List Nat), (∀ k ∈ ks, k < 8) → ∀ (z2 z3 z4 z5 z6 : Option U) (q : Src), ∃ (y2 y3 y4 y5 y6 : Option U) (q' : Src), loopS [2] (evS g15 (.seq p1 (.seq p2 rst))) (ks.map fun (k : Nat) => D.int (k : Int)) (env9 u z2 z3 z4 z5 z6) [q.c] = some (.nx (env9 u y2 y3 y4 y5 y6) [q'.c])
  | [], _, z2, z3, z4, z5, z6, q => ⟨z2, z3, z4, z5, z6, q, rfl⟩
  | k :: ks, h, z2, z3, z4, z5, z6, q => by
    obtain ⟨x, hx, q1, e1⟩ := p1_run g15 rfl u (some (.d (.int (k : Int)))) z3 z4 z5 z6 q
    obtain ⟨y, hy, q2, e2⟩ := p2_run g15 rfl u (some (.d (.int (k : Int)))) (some (.d x)) z4 z5 z6 q1
    have e3 := t_all k (h k List.mem_cons_self) x y hx hy u q2.c z5 z6
    obtain ⟨y2, y3, y4, y5, y6, q', e4⟩ := loopK u ks (fun k hk => h k (List.mem_cons_of_mem _ hk)) (some (.d (.int (k : Int)))) (some (.d x)) (some (.d y)) (some (.d (due k x y))) (some (.d (.bl true))) q2
    refine ⟨y2, y3, y4, y5, y6, q', ?_⟩
    show bndS (evS g15 (.seq p1 (.seq p2 rst)) (env9 u (some (.d (.int (k : Int)))) z3 z4 z5 z6) [q.c]) _ = _
    rw [es_seq, e1, bndS_nx, es_seq, e2, bndS_nx, e3, bndS_nx]
    exact e4
theorem k15 (l : List Int) (hl : l.length ≤ 63) : run df con 0 7 109 [.d (.scr (l.map D.int))] [] = some (.ok (.d (.bl true)) []) := by
  obtain ⟨q, e1⟩ := r_random 5 l hl 965
  obtain ⟨y2, y3, y4, y5, y6, q', e2⟩ := loopK (.scr (l.map D.int)) [0, 1, 2, 3, 4, 5, 6, 7] (by simp) none none none none none q
  refine (run_at (d := ⟨1, 9, ir109⟩) (r := some (.rt (.d (.bl true)) [q'.c])) (us := [.d (.scr (l.map D.int))]) rfl rfl ?_).trans (by simp [fin])
  rw [ir109_eq]
  show evS g15 _ [some (.d (.scr (l.map D.int))), none, none, none, none, none, none, none, none] [] = _
  have h1 : evS g15 (.asg [1] (.call 1 (.cons (.var 0) (.cons (.int 965) .nil)))) [some (.d (.scr (l.map D.int))), none, none, none, none, none, none, none, none] [] = some (.nx (env9 (.scr (l.map D.int)) none none none none none) [q.c]) := by simp [e1, env9, ev_join, ev_split, kTx, ev_nset, ev_mkc, kMkc, kMkc2, ev_meth, kMeth, kMeth2, ev_fapp, kFapp, kFapp2, ev_fpop, kFpop, ev_fix, kFix, kFix2, ev_flen, kFlen, ev_ftup, kFtup, et_feq0, kTfeq0, es_seto, kSo, kSo2, es_augf, kAf, kAf2, ownB, ownL, ownW, sameO, ownN, insOk, ev_bdn, ev_sdef, ev_bget, ei_rng2, ev_rev, ev_srt, kRn2, kRn, kRev, mapTup, es_rais, kRais, es_tri, kTri_ex, kTri_nx, kTri_rt, eh_hand, eh_handX, eh_nop, evX, noXS_nx, noXS_rt, bnd_ex, bnD_ex, bndS_ex, inS_ex, line, es_augi, kAi2, kAi3, kAi4, repl, ev_int, ev_str, ev_bl, ev_non, ev_var, ev_con, ev_bop, ev_neg, ev_cmp, ev_chain, ev_not, ev_and, ev_or, ev_ite, ev_ix, ev_sl, ev_tup, ev_lst, ev_cel, ev_catc, ev_map, ev_call, ev_mkd, ev_prop, ev_fld, ev_bi, ev_isi, ev_cix, ev_app, ev_popa, ev_lc, et_yes, et_not, et_and, et_or, et_ite, et_cmp, et_call, et_isi, et_bi, et_var, el_nil, el_cons, ep_nil, ep_cons, ei_rng1, ei_seq, ei_enum, ei_zip, es_nop, es_seq, es_asg, es_par, es_aug, es_seti, es_setf, es_ex, es_ret, es_retN, es_ite, es_loop, es_frz, kGiv, k2, kNeg, kNot, kAnd, kOr, kIf, kCh2, kCh1, kCh, kIx2, kIx, kSl3, kSl2, kSl, kTup, kLst, kCel, kCat2, kCat, kMap, kFn, kProp, kFld, kBi, kIsi, kApp2, kApp, kPop2, kPop, kOkL, kLc, kIt1, kIt2, item, kTnot, kTand, kTor, oB, kTcmp2, kTcmp, kTb, kTfn, kTisi, kTbi, kL2, kL, kP, kR1, kSeq, kEnum, kZip2, kZip, kSet, kPar, kAug, kAug0, kSi3, kSi2, kSi, kSf2, kSf, kEx, kRet, kLoop, kVar, kTvar, kFrz, cmpO, start0, bindU, bindTo, setAll, wipeE, lst1, seqOf, biU, biD, bopD, cmpD, ixD, isiD, cixD, idxS, strsOf, intC, eqC, eqD, eqDs, scal, memD, flat, str_inj, str_beq, List.lookup_cons, List.lookup_nil, putD, isLst, loopS, walk, noX, bnd_ok, bnd_none, bnD_ok, bnD_none, bndS_nx, bndS_rt, bndS_none, inS_ok, inS_none, giv_some, giv_none, pick_t, pick_f]
  have h2 : evI g15 (.rng1 (.int 8)) (env9 (.scr (l.map D.int)) none none none none none) [q.c] = some (.ok ([0, 1, 2, 3, 4, 5, 6, 7].map fun (k : Nat) => D.int (k : Int)) [q.c]) := rfl
  rw [es_seq, h1, bndS_nx, es_seq, es_loop, h2, inS_ok]
  show bndS (kLoop [2] _ _ _ _) _ = _
  unfold kLoop
  rw [e2, bndS_nx]
  rfl
end GP

namespace K15
open PySem PySem.Spec L2 DL GI
set_option autoImplicit false
def top (i : Nat) : Stmt := PySem.Challenge.pw_roundarms_k15_errors_apart.main.body.getD i (.Pass ⟨0, 0, 0, 0⟩)
def tb : Tb := { fns := [⟨some 99, ""⟩, ⟨none, "_law_random"⟩, ⟨none, "_law_pick"⟩, ⟨some 99, ""⟩, ⟨some 99, ""⟩, ⟨some 99, ""⟩, ⟨none, "_law_below"⟩, ⟨some 99, ""⟩, ⟨some 99, ""⟩, ⟨some 99, ""⟩, ⟨some 99, ""⟩, ⟨some 99, ""⟩, ⟨some 99, ""⟩, ⟨some 99, ""⟩, ⟨some 99, ""⟩, ⟨some 99, ""⟩, ⟨some 99, ""⟩, ⟨some 99, ""⟩, ⟨some 99, ""⟩, ⟨some 99, ""⟩, ⟨some 99, ""⟩, ⟨some 99, ""⟩, ⟨some 99, ""⟩, ⟨some 99, ""⟩, ⟨some 99, ""⟩, ⟨some 99, ""⟩, ⟨some 99, ""⟩, ⟨some 99, ""⟩, ⟨some 99, ""⟩, ⟨some 99, ""⟩, ⟨some 99, ""⟩, ⟨some 99, ""⟩, ⟨some 99, ""⟩, ⟨some 99, ""⟩, ⟨some 99, ""⟩, ⟨some 99, ""⟩, ⟨some 99, ""⟩, ⟨some 99, ""⟩, ⟨some 99, ""⟩, ⟨some 99, ""⟩, ⟨some 99, ""⟩, ⟨some 99, ""⟩, ⟨some 99, ""⟩, ⟨some 99, ""⟩, ⟨some 99, ""⟩, ⟨some 99, ""⟩, ⟨some 99, ""⟩, ⟨some 99, ""⟩, ⟨some 99, ""⟩, ⟨some 99, ""⟩, ⟨some 99, ""⟩, ⟨some 99, ""⟩, ⟨some 99, ""⟩, ⟨some 99, ""⟩, ⟨some 99, ""⟩, ⟨some 99, ""⟩, ⟨some 99, ""⟩, ⟨some 99, ""⟩, ⟨some 99, ""⟩, ⟨some 99, ""⟩, ⟨some 99, ""⟩, ⟨some 99, ""⟩, ⟨some 99, ""⟩, ⟨some 99, ""⟩, ⟨some 99, ""⟩, ⟨some 99, ""⟩, ⟨some 99, ""⟩, ⟨some 99, ""⟩, ⟨some 99, ""⟩, ⟨some 99, ""⟩, ⟨some 99, ""⟩, ⟨some 99, ""⟩, ⟨some 99, ""⟩, ⟨some 99, ""⟩, ⟨some 99, ""⟩, ⟨some 99, ""⟩, ⟨some 99, ""⟩, ⟨some 99, ""⟩, ⟨some 99, ""⟩, ⟨some 99, ""⟩, ⟨some 99, ""⟩, ⟨some 99, ""⟩, ⟨some 99, ""⟩, ⟨some 99, ""⟩, ⟨some 99, ""⟩, ⟨some 99, ""⟩, ⟨some 99, ""⟩, ⟨some 99, ""⟩, ⟨some 99, ""⟩, ⟨some 99, ""⟩, ⟨some 99, ""⟩, ⟨some 99, ""⟩, ⟨some 99, ""⟩, ⟨some 99, ""⟩, ⟨some 99, ""⟩, ⟨some 99, ""⟩, ⟨some 99, ""⟩, ⟨some 99, ""⟩, ⟨some 99, ""⟩, ⟨some 99, ""⟩, ⟨some 99, ""⟩, ⟨some 99, ""⟩, ⟨some 99, ""⟩, ⟨some 99, ""⟩, ⟨some 99, ""⟩, ⟨some 99, ""⟩, ⟨some 99, ""⟩, ⟨some 99, ""⟩, ⟨some 99, ""⟩, ⟨none, "law"⟩, ⟨none, "_law_thrown"⟩, ⟨some 99, ""⟩, ⟨some 99, ""⟩], cons := [], cls := [], free := ["range", "isinstance", "ValueError", "int", "abs", "len", "bool", "str", "dict", "list", "tuple", "all"], flds := [], props := [], tups := [], xcs := [none, none, none, none, none, none, none, none], xs0 := [(4, "BadFact"), (3, "BadLand"), (0, "BadSide"), (1, "BadStart"), (6, "TooLong")], xs1 := [(5, "BadSeen", ["index"]), (2, "BadSteps", ["index"]), (7, "BadText", ["line", "word"])], xfs := [], hfs := [(111, "_law_classes"), (8, "_law_equal"), (112, "_law_fields")], xb := some "ArmError", kis := [(1, "BadStart"), (0, "BadSide"), (3, "BadLand"), (4, "BadFact"), (5, "BadSeen"), (6, "TooLong"), (7, "BadText"), (2, "BadSteps")], kve := true, xfe := ["index", "word", "line"] }
instance cold : Cold tb := ⟨rfl⟩
def st1 : Stmt := (top 11)
def bd1 : List Stmt := defBody st1
def sc1 : Scope := defScope st1
def N1 : List Str := ["_law_script", "_law_salt", "_law_seed", "_law_cell"]
theorem b1 {G : Gx} {Γ : Ev} {X : Cx} {W : WX} {j : Nat} (C : Ct G Γ tb ⟨N1, sc1, true⟩ X W j) (O : Ow X) : PSs X bd1 (rdS G Γ W ir1) :=
  (ds_cons (ds_set C (by decide +kernel) (de_var C (by decide +kernel)) (by rfl))
  (ds_cons (ds_for O.po C.calm (di_seq C (de_var C (by decide +kernel))) (dg_name C (by decide +kernel))
  (ds_one (ds_set C (by decide +kernel) (de_bop C (o := .mod) (de_bi C (b := .int) (by decide +kernel) (by decide +kernel) (da_cons (de_bop C (o := .add) (de_bop C (o := .mul) (de_var C (by decide +kernel)) de_int) (de_bi C (b := .abs) (by decide +kernel) (by decide +kernel) (da_cons (de_var C (by decide +kernel)) da_nil (by rfl)) (by rfl))) da_nil (by rfl)) (by rfl)) de_int) (by rfl))) (by rfl))
  (ds_one (ds_ret (de_catc (de_lst (da_cons (de_var C (by decide +kernel)) (da_cons de_int da_nil (by rfl)) (by rfl))) (de_lc C (own := [("_law_cell", 3)]) (by decide +kernel) (by decide) (by rfl) (di_seq C (de_var C (by decide +kernel))) (fun C1 => (dg_name C1 (by decide +kernel))) (fun C1 => (dts_one (dt_cmp C1 (o := .ge) (de_var C1 (by decide +kernel)) (de_bop C1 (o := .pow) de_int de_int) (by rfl)))) (fun C1 => (de_var C1 (by decide +kernel)))))))))
def st2 : Stmt := (top 13)
def bd2 : List Stmt := defBody st2
def sc2 : Scope := defScope st2
def N2 : List Str := ["_law_d", "_law_items"]
theorem b2 {G : Gx} {Γ : Ev} {X : Cx} {W : WX} {j : Nat} (C : Ct G Γ tb ⟨N2, sc2, true⟩ X W j) (O : Ow X) : PSs X bd2 (rdS G Γ W ir2) :=
  (ds_one (ds_ret (de_ix C (de_var C (by decide +kernel)) (de_call C (by rfl) (by decide +kernel) (da_cons (de_var C (by decide +kernel)) (da_cons (de_bi C (b := .len) (by decide +kernel) (by decide +kernel) (da_cons (de_var C (by decide +kernel)) da_nil (by rfl)) (by rfl)) da_nil (by rfl)) (by rfl)) (by rfl)) (by rfl))))
def st6 : Stmt := (top 12)
def bd6 : List Stmt := defBody st6
def sc6 : Scope := defScope st6
def N6 : List Str := ["_law_d", "_law_size", "_law_result"]
theorem b6 {G : Gx} {Γ : Ev} {X : Cx} {W : WX} {j : Nat} (C : Ct G Γ tb ⟨N6, sc6, true⟩ X W j) (O : Ow X) : PSs X bd6 (rdS G Γ W ir6) :=
  (ds_cons (ds_if (PW.pt (dt_and (dt_cmp C (o := .eq) (de_ix C (de_var C (by decide +kernel)) de_int (by rfl)) de_int (by rfl)) (pw_and1 (dt_cmp C (o := .gt) (de_bi C (b := .len) (by decide +kernel) (by decide +kernel) (da_cons (de_var C (by decide +kernel)) da_nil (by rfl)) (by rfl)) de_int (by rfl)))))
  (ds_one (ds_seti C (de_var C (by decide +kernel)) de_int (de_popa C (de_var C (by decide +kernel)) de_int (by rfl) (by rfl) (by rfl)) (by rfl) (by rfl) (by rfl) (by intro _; rfl)))
  ds_nil)
  (ds_cons (ds_if (dt_cmp C (o := .gt) (de_ix C (de_var C (by decide +kernel)) de_int (by rfl)) de_int (by rfl))
  (ds_cons (ds_set C (by decide +kernel) (de_bop C (o := .mod) (de_bi C (b := .int) (by decide +kernel) (by decide +kernel) (da_cons (de_ix C (de_var C (by decide +kernel)) de_int (by rfl)) da_nil (by rfl)) (by rfl)) (de_var C (by decide +kernel))) (by rfl))
  (ds_cons (ds_seti C (de_var C (by decide +kernel)) de_int (de_bop C (o := .fdiv) (de_ix C (de_var C (by decide +kernel)) de_int (by rfl)) (de_var C (by decide +kernel))) (by rfl) (by rfl) (by rfl) (by intro _; rfl))
  (ds_one (ds_ret (de_var C (by decide +kernel))))))
  ds_nil)
  (ds_cons (ds_seti C (de_var C (by decide +kernel)) de_int (de_bop C (o := .mod) (de_bi C (b := .int) (by decide +kernel) (by decide +kernel) (da_cons (de_bop C (o := .add) (de_bop C (o := .mul) (de_ix C (de_var C (by decide +kernel)) de_int (by rfl)) de_int) de_int) da_nil (by rfl)) (by rfl)) de_int) (by rfl) (by rfl) (by rfl) (by intro _; rfl))
  (ds_one (ds_ret (de_bop C (o := .mod) (de_bi C (b := .int) (by decide +kernel) (by decide +kernel) (da_cons (de_bop C (o := .fdiv) (de_ix C (de_var C (by decide +kernel)) de_int (by rfl)) de_int) da_nil (by rfl)) (by rfl)) (de_var C (by decide +kernel))))))))
def st8 : Stmt := (top 14)
def bd8 : List Stmt := defBody st8
def sc8 : Scope := defScope st8
def N8 : List Str := ["_law_actual", "_law_expected", "_law_key", "_law_k"]
theorem b8 {G : Gx} {p : Addr × Obj} {Γ : Ev} {X : Cx} {W : WX} {j : Nat} (P : Pin X p) (C : Ct (G.hot p) Γ tb.heat ⟨N8, sc8, true⟩ X W j) : PSs X bd8 (rdS (G.hot p) Γ W ir8) :=
  (ds_cons (ds_if (dt_cmp C (o := .is) (de_var C (by decide +kernel)) de_non (by rfl))
  (ds_one (ds_ret (de_cmp C (o := .is) (de_var C (by decide +kernel)) de_non (by rfl))))
  ds_nil)
  (ds_cons (ds_if (dt_v (de_isi C (t := .bool) (by decide) (by decide +kernel) (by decide +kernel) (by decide +kernel) (by decide +kernel) (de_var C (by decide +kernel)) (by rfl)) (by rfl) he_isi)
  (ds_one (ds_ret (de_and (de_isi C (t := .bool) (by decide) (by decide +kernel) (by decide +kernel) (by decide +kernel) (by decide +kernel) (de_var C (by decide +kernel)) (by rfl)) (pe_one (de_cmp C (o := .eq) (de_var C (by decide +kernel)) (de_var C (by decide +kernel)) (by rfl))))))
  ds_nil)
  (ds_cons (ds_if (dt_v (de_isi C (t := .int) (by decide) (by decide +kernel) (by decide +kernel) (by decide +kernel) (by decide +kernel) (de_var C (by decide +kernel)) (by rfl)) (by rfl) he_isi)
  (ds_one (ds_ret (de_and (de_isi C (t := .int) (by decide) (by decide +kernel) (by decide +kernel) (by decide +kernel) (by decide +kernel) (de_var C (by decide +kernel)) (by rfl)) (de_and (de_not (de_isi C (t := .bool) (by decide) (by decide +kernel) (by decide +kernel) (by decide +kernel) (by decide +kernel) (de_var C (by decide +kernel)) (by rfl))) (pe_one (de_cmp C (o := .eq) (de_var C (by decide +kernel)) (de_var C (by decide +kernel)) (by rfl)))))))
  ds_nil)
  (ds_cons (ds_if (dt_v (de_isi C (t := .str) (by decide) (by decide +kernel) (by decide +kernel) (by decide +kernel) (by decide +kernel) (de_var C (by decide +kernel)) (by rfl)) (by rfl) he_isi)
  (ds_one (ds_ret (de_and (de_isi C (t := .str) (by decide) (by decide +kernel) (by decide +kernel) (by decide +kernel) (by decide +kernel) (de_var C (by decide +kernel)) (by rfl)) (pe_one (de_cmp C (o := .eq) (de_var C (by decide +kernel)) (de_var C (by decide +kernel)) (by rfl))))))
  ds_nil)
  (ds_cons (ds_if (dt_v (de_isi C (t := .dict) (by decide) (by decide +kernel) (by decide +kernel) (by decide +kernel) (by decide +kernel) (de_var C (by decide +kernel)) (by rfl)) (by rfl) he_isi)
  dss_stop
  ds_nil)
  (ds_cons (ds_if (dt_cmp C (o := .ne) (de_isi C (t := .tup) (by decide) (by decide +kernel) (by decide +kernel) (by decide +kernel) (by decide +kernel) (de_var C (by decide +kernel)) (by rfl)) (de_isi C (t := .tup) (by decide) (by decide +kernel) (by decide +kernel) (by decide +kernel) (by decide +kernel) (de_var C (by decide +kernel)) (by rfl)) (by rfl))
  (ds_one (ds_ret de_bl))
  ds_nil)
  (ds_cons (ds_if (dt_cmp C (o := .ne) (de_isi C (t := .lst) (by decide) (by decide +kernel) (by decide +kernel) (by decide +kernel) (by decide +kernel) (de_var C (by decide +kernel)) (by rfl)) (de_isi C (t := .lst) (by decide) (by decide +kernel) (by decide +kernel) (by decide +kernel) (by decide +kernel) (de_var C (by decide +kernel)) (by rfl)) (by rfl))
  (ds_one (ds_ret de_bl))
  ds_nil)
  (ds_cons (ds_if (dt_cmp C (o := .ne) (de_biH P C (b := .len) (by decide) (by decide +kernel) (by decide +kernel) (da_cons (de_var C (by decide +kernel)) da_nil (by rfl)) (by rfl)) (de_biH P C (b := .len) (by decide) (by decide +kernel) (by decide +kernel) (da_cons (de_var C (by decide +kernel)) da_nil (by rfl)) (by rfl)) (by rfl))
  (ds_one (ds_ret de_bl))
  ds_nil)
  (ds_one (ds_ret (de_biH P C (b := .all) (by decide) (by decide +kernel) (by decide +kernel) (da_cons (de_lcH P C (own := [("_law_k", 3)]) (by decide +kernel) (by decide) (by rfl) (di_rng1H C (by decide +kernel) (by decide +kernel) (de_biH P C (b := .len) (by decide) (by decide +kernel) (by decide +kernel) (da_cons (de_var C (by decide +kernel)) da_nil (by rfl)) (by rfl)) (by rfl)) (fun C1 P1 => (dg_name C1 (by decide +kernel))) (fun C1 P1 => dts_nil) (fun C1 P1 => (de_callH P1 C1 (by decide +kernel) (by decide +kernel) (da_cons (de_ix C1 (de_var C1 (by decide +kernel)) (de_var C1 (by decide +kernel)) (by rfl)) (da_cons (de_ix C1 (de_var C1 (by decide +kernel)) (de_var C1 (by decide +kernel)) (by rfl)) da_nil (by rfl)) (by rfl)) (by rfl)))) da_nil (by rfl)) (by rfl))))))))))))
def st109 : Stmt := (top 18)
def bd109 : List Stmt := defBody st109
def sc109 : Scope := defScope st109
def N109 : List Str := ["_law_script", "_law_d", "_law_k", "_law_one", "_law_two", "_law_due", "_law_good", "_law_e", "_law_other"]
theorem b109 {G : Gx} {Γ : Ev} {X : Cx} {W : WX} {j : Nat} (C : Ct G Γ tb ⟨N109, sc109, true⟩ X W j) (O : Ow X) : PSs X bd109 (rdS G Γ W ir109) :=
  (ds_cons (ds_set C (by decide +kernel) (de_call C (by rfl) (by decide +kernel) (da_cons (de_var C (by decide +kernel)) (da_cons de_int da_nil (by rfl)) (by rfl)) (by rfl)) (by rfl))
  (ds_cons (ds_for O.po C.calm (di_rng1 C (by decide +kernel) (by decide +kernel) de_int (by rfl)) (dg_name C (by decide +kernel))
  (ds_cons (ds_set C (by decide +kernel) (de_call C (by rfl) (by decide +kernel) (da_cons (de_var C (by decide +kernel)) (da_cons (de_lst (da_cons de_str (da_cons de_str (da_cons de_int (da_cons de_non (da_cons (de_tup (da_cons de_int da_nil (by rfl))) (da_cons (de_lst (da_cons de_int da_nil (by rfl))) da_nil (by rfl)) (by rfl)) (by rfl)) (by rfl)) (by rfl)) (by rfl))) da_nil (by rfl)) (by rfl)) (by rfl)) (by rfl))
  (ds_cons (ds_set C (by decide +kernel) (de_call C (by rfl) (by decide +kernel) (da_cons (de_var C (by decide +kernel)) (da_cons (de_lst (da_cons de_int (da_cons de_non (da_cons de_str (da_cons (de_neg de_int) da_nil (by rfl)) (by rfl)) (by rfl)) (by rfl))) da_nil (by rfl)) (by rfl)) (by rfl)) (by rfl))
  (ds_cons (ds_set C (by decide +kernel) (de_lst da_nil) (by rfl))
  (ds_cons (ds_if (dt_cmp C (o := .gt) (de_var C (by decide +kernel)) de_int (by rfl))
  (ds_one (ds_set C (by decide +kernel) (de_ite (dt_cmp C (o := .lt) (de_var C (by decide +kernel)) de_int (by rfl)) (de_lst (da_cons (de_var C (by decide +kernel)) da_nil (by rfl))) (de_lst (da_cons (de_var C (by decide +kernel)) (da_cons (de_var C (by decide +kernel)) da_nil (by rfl)) (by rfl)))) (by rfl)))
  ds_nil)
  (ds_cons (ds_set C (by decide +kernel) de_bl (by rfl))
  (ds_cons (ds_try C O (hs_err C (by rfl) (by decide +kernel) (by decide +kernel) (fun C P =>
  (ds_cons (ds_set C (by decide +kernel) (de_and (de_xiv P C (by rfl) (by rfl) (by decide +kernel) (by decide +kernel) (by decide +kernel) (by decide +kernel) (de_var C (by decide +kernel)) (by rfl)) (pe_one (de_cmp C (o := .eq) (de_callH P C (by decide +kernel) (by decide +kernel) (da_cons (de_var C (by decide +kernel)) da_nil (by rfl)) (by rfl)) (de_lcH P C (own := [("_law_other", 8)]) (by decide +kernel) (by decide) (by rfl) (di_rng1H C (by decide +kernel) (by decide +kernel) de_int (by rfl)) (fun C1 P1 => (dg_name C1 (by decide +kernel))) (fun C1 P1 => dts_nil) (fun C1 P1 => (de_cmp C1 (o := .eq) (de_var C1 (by decide +kernel)) (de_var C1 (by decide +kernel)) (by rfl)))) (by rfl)))) (by rfl))
  (ds_one (ds_set C (by decide +kernel) (de_and (de_var C (by decide +kernel)) (pe_one (de_callH P C (by decide +kernel) (by decide +kernel) (da_cons (de_callH P C (by decide +kernel) (by decide +kernel) (da_cons (de_var C (by decide +kernel)) (da_cons (de_var C (by decide +kernel)) da_nil (by rfl)) (by rfl)) (by rfl)) (da_cons (de_var C (by decide +kernel)) da_nil (by rfl)) (by rfl)) (by rfl)))) (by rfl)))))) (fun C O _ =>
  (ds_one (ds_ex (de_call C (by rfl) (by decide +kernel) (da_cons (de_var C (by decide +kernel)) (da_cons (de_var C (by decide +kernel)) (da_cons (de_var C (by decide +kernel)) da_nil (by rfl)) (by rfl)) (by rfl)) (by rfl)) (by rfl)))))
  (ds_one (ds_if (dt_not (dt_v (de_var C (by decide +kernel)) (by rfl) he_var))
  (ds_one (ds_ret de_bl))
  ds_nil)))))))) (by rfl))
  (ds_one (ds_ret de_bl))))
def st110 : Stmt := (top 15)
def bd110 : List Stmt := defBody st110
def sc110 : Scope := defScope st110
def N110 : List Str := ["_law_k", "_law_one", "_law_two"]
theorem b110 {G : Gx} {Γ : Ev} {X : Cx} {W : WX} {j : Nat} (C : Ct G Γ tb ⟨N110, sc110, true⟩ X W j) (O : Ow X) : PSs X bd110 (rdS G Γ W ir110) :=
  (ds_cons (ds_if (dt_cmp C (o := .eq) (de_var C (by decide +kernel)) de_int (by rfl))
  (ds_one (ds_rais0 C (by decide +kernel) (by decide +kernel)))
  ds_nil)
  (ds_cons (ds_if (dt_cmp C (o := .eq) (de_var C (by decide +kernel)) de_int (by rfl))
  (ds_one (ds_rais0 C (by decide +kernel) (by decide +kernel)))
  ds_nil)
  (ds_cons (ds_if (dt_cmp C (o := .eq) (de_var C (by decide +kernel)) de_int (by rfl))
  (ds_one (ds_rais0 C (by decide +kernel) (by decide +kernel)))
  ds_nil)
  (ds_cons (ds_if (dt_cmp C (o := .eq) (de_var C (by decide +kernel)) de_int (by rfl))
  (ds_one (ds_rais0 C (by decide +kernel) (by decide +kernel)))
  ds_nil)
  (ds_cons (ds_if (dt_cmp C (o := .eq) (de_var C (by decide +kernel)) de_int (by rfl))
  (ds_one (ds_rais0 C (by decide +kernel) (by decide +kernel)))
  ds_nil)
  (ds_cons (ds_if (dt_cmp C (o := .eq) (de_var C (by decide +kernel)) de_int (by rfl))
  (ds_one (ds_rais1 C (by decide +kernel) (by decide +kernel) (da_cons (de_var C (by decide +kernel)) da_nil (by rfl)) (by rfl)))
  ds_nil)
  (ds_cons (ds_if (dt_cmp C (o := .eq) (de_var C (by decide +kernel)) de_int (by rfl))
  (ds_one (ds_rais1 C (by decide +kernel) (by decide +kernel) (da_cons (de_var C (by decide +kernel)) da_nil (by rfl)) (by rfl)))
  ds_nil)
  (ds_one (ds_rais1 C (by decide +kernel) (by decide +kernel) (da_cons (de_var C (by decide +kernel)) (da_cons (de_var C (by decide +kernel)) da_nil (by rfl)) (by rfl)) (by rfl))))))))))
def st111 : Stmt := (top 16)
def bd111 : List Stmt := defBody st111
def sc111 : Scope := defScope st111
def N111 : List Str := ["_law_e", "_law_found"]
theorem b111 {G : Gx} {p : Addr × Obj} {Γ : Ev} {X : Cx} {W : WX} {j : Nat} (P : Pin X p) (C : Ct (G.hot p) Γ tb.heat ⟨N111, sc111, true⟩ X W j) : PSs X bd111 (rdS (G.hot p) Γ W ir111) :=
  (ds_cons (ds_set C (by decide +kernel) (de_lst (da_cons (de_xis P C (by rfl) (by decide +kernel) (by decide +kernel) (by decide +kernel) (by decide +kernel) (de_var C (by decide +kernel)) (by rfl)) (da_cons (de_xis P C (by rfl) (by decide +kernel) (by decide +kernel) (by decide +kernel) (by decide +kernel) (de_var C (by decide +kernel)) (by rfl)) (da_cons (de_xis P C (by rfl) (by decide +kernel) (by decide +kernel) (by decide +kernel) (by decide +kernel) (de_var C (by decide +kernel)) (by rfl)) (da_cons (de_xis P C (by rfl) (by decide +kernel) (by decide +kernel) (by decide +kernel) (by decide +kernel) (de_var C (by decide +kernel)) (by rfl)) da_nil (by rfl)) (by rfl)) (by rfl)) (by rfl))) (by rfl))
  (ds_cons (ds_set C (by decide +kernel) (de_bop C (o := .add) (de_var C (by decide +kernel)) (de_lst (da_cons (de_xis P C (by rfl) (by decide +kernel) (by decide +kernel) (by decide +kernel) (by decide +kernel) (de_var C (by decide +kernel)) (by rfl)) (da_cons (de_xis P C (by rfl) (by decide +kernel) (by decide +kernel) (by decide +kernel) (by decide +kernel) (de_var C (by decide +kernel)) (by rfl)) da_nil (by rfl)) (by rfl)))) (by rfl))
  (ds_one (ds_ret (de_bop C (o := .add) (de_var C (by decide +kernel)) (de_lst (da_cons (de_xis P C (by rfl) (by decide +kernel) (by decide +kernel) (by decide +kernel) (by decide +kernel) (de_var C (by decide +kernel)) (by rfl)) (da_cons (de_xis P C (by rfl) (by decide +kernel) (by decide +kernel) (by decide +kernel) (by decide +kernel) (de_var C (by decide +kernel)) (by rfl)) da_nil (by rfl)) (by rfl))))))))
def st112 : Stmt := (top 17)
def bd112 : List Stmt := defBody st112
def sc112 : Scope := defScope st112
def N112 : List Str := ["_law_k", "_law_e"]
theorem b112 {G : Gx} {p : Addr × Obj} {Γ : Ev} {X : Cx} {W : WX} {j : Nat} (P : Pin X p) (C : Ct (G.hot p) Γ tb.heat ⟨N112, sc112, true⟩ X W j) : PSs X bd112 (rdS (G.hot p) Γ W ir112) :=
  (ds_cons (ds_if (dt_cmp C (o := .lt) (de_var C (by decide +kernel)) de_int (by rfl))
  (ds_one (ds_ret (de_lst da_nil)))
  ds_nil)
  (ds_one (ds_ret (de_ite (dt_cmp C (o := .lt) (de_var C (by decide +kernel)) de_int (by rfl)) (de_lst (da_cons (de_xfl P C (by decide +kernel) (de_var C (by decide +kernel)) (by rfl)) da_nil (by rfl))) (de_lst (da_cons (de_xfl P C (by decide +kernel) (de_var C (by decide +kernel)) (by rfl)) (da_cons (de_xfl P C (by decide +kernel) (de_var C (by decide +kernel)) (by rfl)) da_nil (by rfl)) (by rfl)))))))
end K15

namespace K15
open PySem PySem.Spec L2 DL GI
open PyProof.Rows hiding St
set_option autoImplicit false
def stx5 : Stmt := ((clsBody (top 7)).getD 0 (.Pass ⟨0, 0, 0, 0⟩))
def bdx5 : List Stmt := defBody stx5
def scx5 : Scope := defScope stx5
def xi5 : XiD := ⟨"BadSeen", ⟨("BadSeen", some "__init__"), "__init__", "BadSeen.__init__", defArgs stx5, bdx5, scx5, [], []⟩, ["index"], PySem.Challenge.pw_roundarms_k15_errors_apart.main.file⟩
def stx2 : Stmt := ((clsBody (top 4)).getD 0 (.Pass ⟨0, 0, 0, 0⟩))
def bdx2 : List Stmt := defBody stx2
def scx2 : Scope := defScope stx2
def xi2 : XiD := ⟨"BadSteps", ⟨("BadSteps", some "__init__"), "__init__", "BadSteps.__init__", defArgs stx2, bdx2, scx2, [], []⟩, ["index"], PySem.Challenge.pw_roundarms_k15_errors_apart.main.file⟩
def stx7 : Stmt := ((clsBody (top 9)).getD 0 (.Pass ⟨0, 0, 0, 0⟩))
def bdx7 : List Stmt := defBody stx7
def scx7 : Scope := defScope stx7
def xi7 : XiD := ⟨"BadText", ⟨("BadText", some "__init__"), "__init__", "BadText.__init__", defArgs stx7, bdx7, scx7, [], []⟩, ["line", "word"], PySem.Challenge.pw_roundarms_k15_errors_apart.main.file⟩
def xs : List XiD := [xi5, xi2, xi7]
def xA (K : PySem.W.Frag) (n : Nat) : Addr := match n with | 0 => He.ga K "BadSide" | 1 => He.ga K "BadStart" | 2 => He.ga K "BadSteps" | 3 => He.ga K "BadLand" | 4 => He.ga K "BadFact" | 5 => He.ga K "BadSeen" | 6 => He.ga K "TooLong" | 7 => He.ga K "BadText" | _ => 0
def dd1 : He.DefD := ⟨("_law_random", none), "_law_random", "_law_random", defArgs st1, bd1, sc1, [], []⟩
def dd2 : He.DefD := ⟨("_law_pick", none), "_law_pick", "_law_pick", defArgs st2, bd2, sc2, [], []⟩
def dd6 : He.DefD := ⟨("_law_below", none), "_law_below", "_law_below", defArgs st6, bd6, sc6, [], []⟩
def dd8 : He.DefD := ⟨("_law_equal", none), "_law_equal", "_law_equal", defArgs st8, bd8, sc8, [], []⟩
def dd109 : He.DefD := ⟨("law", none), "law", "law", defArgs st109, bd109, sc109, [], []⟩
def dd110 : He.DefD := ⟨("_law_thrown", none), "_law_thrown", "_law_thrown", defArgs st110, bd110, sc110, [], []⟩
def dd111 : He.DefD := ⟨("_law_classes", none), "_law_classes", "_law_classes", defArgs st111, bd111, sc111, [], []⟩
def dd112 : He.DefD := ⟨("_law_fields", none), "_law_fields", "_law_fields", defArgs st112, bd112, sc112, [], []⟩
def fn : List He.DefD := [dd1, dd2, dd6, dd8, dd109, dd110, dd111, dd112]
def ps : List PrD := []
def fa : List He.Fa := [.glo "_law_random", .glo "_law_pick", .glo "_law_below", .glo "_law_equal", .glo "law", .glo "_law_thrown", .glo "_law_classes", .glo "_law_fields", .free "range", .free "isinstance", .free "ValueError", .free "int", .free "abs", .free "len", .free "bool", .free "str", .free "dict", .free "list", .free "tuple", .free "all", .glo "BadFact", .exc "BadFact", .glo "BadLand", .exc "BadLand", .glo "BadSide", .exc "BadSide", .glo "BadStart", .exc "BadStart", .glo "TooLong", .exc "TooLong", .glo "BadSeen", .glo "BadSteps", .glo "BadText", .free "super", .glo "ArmError"]
def ts : List He.Tab := []
def ex (K : PySem.W.Frag) : Bool := ((List.range 8).all fun n => decide (PySem.W.exmOne K (.ref (xA K n)) (.ref (He.ga K "ArmError")) = some true)) && (((List.range 8).all fun n => exB K (xA K n)) && (((List.range 8).all fun n => decide (PySem.W.kitOne K (.ref (xA K n)) (.ref (xA K 1)) = some (decide (n = 1)))) && (((List.range 8).all fun n => decide (PySem.W.kitOne K (.ref (xA K n)) (.ref (xA K 0)) = some (decide (n = 0)))) && (((List.range 8).all fun n => decide (PySem.W.kitOne K (.ref (xA K n)) (.ref (xA K 3)) = some (decide (n = 3)))) && (((List.range 8).all fun n => decide (PySem.W.kitOne K (.ref (xA K n)) (.ref (xA K 4)) = some (decide (n = 4)))) && (((List.range 8).all fun n => decide (PySem.W.kitOne K (.ref (xA K n)) (.ref (xA K 5)) = some (decide (n = 5)))) && (((List.range 8).all fun n => decide (PySem.W.kitOne K (.ref (xA K n)) (.ref (xA K 6)) = some (decide (n = 6)))) && (((List.range 8).all fun n => decide (PySem.W.kitOne K (.ref (xA K n)) (.ref (xA K 7)) = some (decide (n = 7)))) && (((List.range 8).all fun n => decide (PySem.W.kitOne K (.ref (xA K n)) (.ref (xA K 2)) = some (decide (n = 2)))) && (((List.range 8).all fun n => decide (PySem.W.kitOne K (.ref (xA K n)) (.type "ValueError") = some true)) && (((List.range 8).all fun n => (xfB K (xA K n) && decide (PySem.W.findIn K (.ref (xA K n)) "index" = some none))) && (((List.range 8).all fun n => (xfB K (xA K n) && decide (PySem.W.findIn K (.ref (xA K n)) "word" = some none))) && (((List.range 8).all fun n => (xfB K (xA K n) && decide (PySem.W.findIn K (.ref (xA K n)) "line" = some none))) && (true))))))))))))))
abbrev R : PySem.W.OpenRow := PySem.W.OpenLaw.row PySem.Challenge.rw_roundarms_k15_errors_apart
abbrev hk : PySem.W.Hook := hookY 7 fa fn ts ps xs ex
def ob (s : PySem.W.SharedT) : AlY := obsYG 7 fa fn ts ps xs ex (HandSHeadRun.getT s)
theorem ob_eq (s : PySem.W.SharedT) : ob s = hk.obs s.abs := obsYG_eq (HandSHeadRun.getT_eq s)
def lo0 : List PySem.Str := ["ArmError", "BadSide", "BadStart", "BadSteps", "BadLand", "BadFact", "BadSeen", "TooLong", "BadText", "_law_random", "_law_below", "_law_pick", "_law_equal", "_law_thrown", "_law_classes", "_law_fields"]
abbrev loose : List PySem.Str := lo0
set_option maxHeartbeats 0 in
theorem runF (w : World) : HandSHeadRun.RunEq R (PySem.W.view R.prog [18]) hk ob 40000 loose (w.withFollow "special-get-raises" false) := by
  intro os
  kernel_rfl
set_option maxHeartbeats 0 in
theorem runT (w : World) : HandSHeadRun.RunEq R (PySem.W.view R.prog [18]) hk ob 40000 loose (w.withFollow "special-get-raises" true) := by
  intro os
  kernel_rfl
theorem run (w : World) : HandSHeadRun.RunEq R (PySem.W.view R.prog [18]) hk ob 40000 loose w :=
  PySem.W.byRow2 "special-get-raises" (P := fun w => HandSHeadRun.RunEq R (PySem.W.view R.prog [18]) hk ob 40000 loose w) runF runT w
def gx (K : PySem.W.Frag) (w : World) : Gx := ⟨K, w, fun _ => 0, xA K, false, none⟩
section
variable {w : World} {K : PySem.W.Frag} {h : Heap} {mg : Str → Option Value} {P : Program}
theorem dk1 (c : SaysY fa fn ts ps xs ex w K) : ∃ fd, FunD K dd1.name dd1.qual dd1.params dd1.body dd1.scope [] [] (He.ga K "_law_random") fd ∧ DefOk (gx K w) tb df con 1 (He.ga K "_law_random") fd ["_law_script", "_law_salt"] := by
  obtain ⟨fd, F⟩ := c.t.d.def_ 0 (d := dd1) rfl
  have F : FunD K dd1.name dd1.qual dd1.params dd1.body dd1.scope [] [] (He.ga K "_law_random") fd := F
  exact ⟨fd, F, ⟨⟨N1, _, _, _, _, _, _, rfl, rfl, rfl, F, C8.fnScope_by (by decide +kernel), fun Γ X W j _ _ C O => b1 C O⟩, F.bindsN fun _ _ _ _ _ _ us hl => match us, hl with | [_, _], _ => rfl⟩⟩
theorem dk2 (c : SaysY fa fn ts ps xs ex w K) : ∃ fd, FunD K dd2.name dd2.qual dd2.params dd2.body dd2.scope [] [] (He.ga K "_law_pick") fd ∧ DefOk (gx K w) tb df con 2 (He.ga K "_law_pick") fd ["_law_d", "_law_items"] := by
  obtain ⟨fd, F⟩ := c.t.d.def_ 1 (d := dd2) rfl
  have F : FunD K dd2.name dd2.qual dd2.params dd2.body dd2.scope [] [] (He.ga K "_law_pick") fd := F
  exact ⟨fd, F, ⟨⟨N2, _, _, _, _, _, _, rfl, rfl, rfl, F, C8.fnScope_by (by decide +kernel), fun Γ X W j _ _ C O => b2 C O⟩, F.bindsN fun _ _ _ _ _ _ us hl => match us, hl with | [_, _], _ => rfl⟩⟩
theorem dk6 (c : SaysY fa fn ts ps xs ex w K) : ∃ fd, FunD K dd6.name dd6.qual dd6.params dd6.body dd6.scope [] [] (He.ga K "_law_below") fd ∧ DefOk (gx K w) tb df con 6 (He.ga K "_law_below") fd ["_law_d", "_law_size"] := by
  obtain ⟨fd, F⟩ := c.t.d.def_ 2 (d := dd6) rfl
  have F : FunD K dd6.name dd6.qual dd6.params dd6.body dd6.scope [] [] (He.ga K "_law_below") fd := F
  exact ⟨fd, F, ⟨⟨N6, _, _, _, _, _, _, rfl, rfl, rfl, F, C8.fnScope_by (by decide +kernel), fun Γ X W j _ _ C O => b6 C O⟩, F.bindsN fun _ _ _ _ _ _ us hl => match us, hl with | [_, _], _ => rfl⟩⟩
theorem dk8 (c : SaysY fa fn ts ps xs ex w K) : ∃ fd, FunD K dd8.name dd8.qual dd8.params dd8.body dd8.scope [] [] (He.ga K "_law_equal") fd ∧ DefH (gx K w) tb df con 8 (He.ga K "_law_equal") fd ["_law_actual", "_law_expected"] := by
  obtain ⟨fd, F⟩ := c.t.d.def_ 3 (d := dd8) rfl
  have F : FunD K dd8.name dd8.qual dd8.params dd8.body dd8.scope [] [] (He.ga K "_law_equal") fd := F
  exact ⟨fd, F, ⟨⟨N8, _, _, _, _, _, _, rfl, rfl, rfl, F, C8.fnScope_by (by decide +kernel), fun p Γ X W j C P => b8 P C⟩, F.bindsN fun _ _ _ _ _ _ us hl => match us, hl with | [_, _], _ => rfl⟩⟩
theorem dk109 (c : SaysY fa fn ts ps xs ex w K) : ∃ fd, FunD K dd109.name dd109.qual dd109.params dd109.body dd109.scope [] [] (He.ga K "law") fd ∧ DefOk (gx K w) tb df con 109 (He.ga K "law") fd ["_law_script"] := by
  obtain ⟨fd, F⟩ := c.t.d.def_ 4 (d := dd109) rfl
  have F : FunD K dd109.name dd109.qual dd109.params dd109.body dd109.scope [] [] (He.ga K "law") fd := F
  exact ⟨fd, F, ⟨⟨N109, _, _, _, _, _, _, rfl, rfl, rfl, F, C8.fnScope_by (by decide +kernel), fun Γ X W j _ _ C O => b109 C O⟩, F.bindsN fun _ _ _ _ _ _ us hl => match us, hl with | [_], _ => rfl⟩⟩
theorem dk110 (c : SaysY fa fn ts ps xs ex w K) : ∃ fd, FunD K dd110.name dd110.qual dd110.params dd110.body dd110.scope [] [] (He.ga K "_law_thrown") fd ∧ DefOk (gx K w) tb df con 110 (He.ga K "_law_thrown") fd ["_law_k", "_law_one", "_law_two"] := by
  obtain ⟨fd, F⟩ := c.t.d.def_ 5 (d := dd110) rfl
  have F : FunD K dd110.name dd110.qual dd110.params dd110.body dd110.scope [] [] (He.ga K "_law_thrown") fd := F
  exact ⟨fd, F, ⟨⟨N110, _, _, _, _, _, _, rfl, rfl, rfl, F, C8.fnScope_by (by decide +kernel), fun Γ X W j _ _ C O => b110 C O⟩, F.bindsN fun _ _ _ _ _ _ us hl => match us, hl with | [_, _, _], _ => rfl⟩⟩
theorem dk111 (c : SaysY fa fn ts ps xs ex w K) : ∃ fd, FunD K dd111.name dd111.qual dd111.params dd111.body dd111.scope [] [] (He.ga K "_law_classes") fd ∧ DefH (gx K w) tb df con 111 (He.ga K "_law_classes") fd ["_law_e"] := by
  obtain ⟨fd, F⟩ := c.t.d.def_ 6 (d := dd111) rfl
  have F : FunD K dd111.name dd111.qual dd111.params dd111.body dd111.scope [] [] (He.ga K "_law_classes") fd := F
  exact ⟨fd, F, ⟨⟨N111, _, _, _, _, _, _, rfl, rfl, rfl, F, C8.fnScope_by (by decide +kernel), fun p Γ X W j C P => b111 P C⟩, F.bindsN fun _ _ _ _ _ _ us hl => match us, hl with | [_], _ => rfl⟩⟩
theorem dk112 (c : SaysY fa fn ts ps xs ex w K) : ∃ fd, FunD K dd112.name dd112.qual dd112.params dd112.body dd112.scope [] [] (He.ga K "_law_fields") fd ∧ DefH (gx K w) tb df con 112 (He.ga K "_law_fields") fd ["_law_k", "_law_e"] := by
  obtain ⟨fd, F⟩ := c.t.d.def_ 7 (d := dd112) rfl
  have F : FunD K dd112.name dd112.qual dd112.params dd112.body dd112.scope [] [] (He.ga K "_law_fields") fd := F
  exact ⟨fd, F, ⟨⟨N112, _, _, _, _, _, _, rfl, rfl, rfl, F, C8.fnScope_by (by decide +kernel), fun p Γ X W j C P => b112 P C⟩, F.bindsN fun _ _ _ _ _ _ us hl => match us, hl with | [_, _], _ => rfl⟩⟩
theorem xm5 (hP : P.main.file = PySem.Challenge.pw_roundarms_k15_errors_apart.main.file) (hT : (P.main.scope.names.lookup ("super" : Str)).isSome = false) (c : SaysY fa fn ts ps xs ex w K) : XmOk K P (He.ga K "BadSeen") ["index"] :=
  xm_of (p := xi5) (c.xi 0 xi5 rfl).1 (c.xi 0 xi5 rfl).2 rfl rfl (by decide +kernel) hP hT rfl rfl (fun _ _ _ _ => ⟨_, rfl⟩) (fun _ _ _ _ _ _ _ us hl => match us, hl with | [_, _], _ => rfl) (.inl ⟨_, rfl, by decide +kernel⟩)
theorem xm2 (hP : P.main.file = PySem.Challenge.pw_roundarms_k15_errors_apart.main.file) (hT : (P.main.scope.names.lookup ("super" : Str)).isSome = false) (c : SaysY fa fn ts ps xs ex w K) : XmOk K P (He.ga K "BadSteps") ["index"] :=
  xm_of (p := xi2) (c.xi 1 xi2 rfl).1 (c.xi 1 xi2 rfl).2 rfl rfl (by decide +kernel) hP hT rfl rfl (fun _ _ _ _ => ⟨_, rfl⟩) (fun _ _ _ _ _ _ _ us hl => match us, hl with | [_, _], _ => rfl) (.inl ⟨_, rfl, by decide +kernel⟩)
theorem xm7 (hP : P.main.file = PySem.Challenge.pw_roundarms_k15_errors_apart.main.file) (hT : (P.main.scope.names.lookup ("super" : Str)).isSome = false) (c : SaysY fa fn ts ps xs ex w K) : XmOk K P (He.ga K "BadText") ["line", "word"] :=
  xm_of (p := xi7) (c.xi 2 xi7 rfl).1 (c.xi 2 xi7 rfl).2 rfl rfl (by decide +kernel) hP hT rfl rfl (fun _ _ _ _ => ⟨_, rfl⟩) (fun _ _ _ _ _ _ _ us hl => match us, hl with | [_, _, _], _ => rfl) (.inr ⟨_, _, rfl, by decide +kernel, by decide +kernel, by decide +kernel⟩)
theorem txt (hP : P.main.file = PySem.Challenge.pw_roundarms_k15_errors_apart.main.file) (hT : (P.main.scope.names.lookup ("super" : Str)).isSome = false) (KX : K.In h) (Gn : h.Ns mainGlobals mg) (c : SaysY fa fn ts ps xs ex w K) : Txt P (gx K w) tb df con mg where
  fn := fun f x hx => by
    match f, hx with
    | 0, hx => have e := Option.some.inj hx; cases e
    | 1, hx => have e := Option.some.inj hx; cases e; exact let ⟨fd, _, D⟩ := dk1 c; ⟨_, fd, _, (He.glo_ok KX Gn (c.t.d.fact 0 (f := .glo "_law_random") rfl)), D⟩
    | 2, hx => have e := Option.some.inj hx; cases e; exact let ⟨fd, _, D⟩ := dk2 c; ⟨_, fd, _, (He.glo_ok KX Gn (c.t.d.fact 1 (f := .glo "_law_pick") rfl)), D⟩
    | 3, hx => have e := Option.some.inj hx; cases e
    | 4, hx => have e := Option.some.inj hx; cases e
    | 5, hx => have e := Option.some.inj hx; cases e
    | 6, hx => have e := Option.some.inj hx; cases e; exact let ⟨fd, _, D⟩ := dk6 c; ⟨_, fd, _, (He.glo_ok KX Gn (c.t.d.fact 2 (f := .glo "_law_below") rfl)), D⟩
    | 7, hx => have e := Option.some.inj hx; cases e
    | 8, hx => have e := Option.some.inj hx; cases e
    | 9, hx => have e := Option.some.inj hx; cases e
    | 10, hx => have e := Option.some.inj hx; cases e
    | 11, hx => have e := Option.some.inj hx; cases e
    | 12, hx => have e := Option.some.inj hx; cases e
    | 13, hx => have e := Option.some.inj hx; cases e
    | 14, hx => have e := Option.some.inj hx; cases e
    | 15, hx => have e := Option.some.inj hx; cases e
    | 16, hx => have e := Option.some.inj hx; cases e
    | 17, hx => have e := Option.some.inj hx; cases e
    | 18, hx => have e := Option.some.inj hx; cases e
    | 19, hx => have e := Option.some.inj hx; cases e
    | 20, hx => have e := Option.some.inj hx; cases e
    | 21, hx => have e := Option.some.inj hx; cases e
    | 22, hx => have e := Option.some.inj hx; cases e
    | 23, hx => have e := Option.some.inj hx; cases e
    | 24, hx => have e := Option.some.inj hx; cases e
    | 25, hx => have e := Option.some.inj hx; cases e
    | 26, hx => have e := Option.some.inj hx; cases e
    | 27, hx => have e := Option.some.inj hx; cases e
    | 28, hx => have e := Option.some.inj hx; cases e
    | 29, hx => have e := Option.some.inj hx; cases e
    | 30, hx => have e := Option.some.inj hx; cases e
    | 31, hx => have e := Option.some.inj hx; cases e
    | 32, hx => have e := Option.some.inj hx; cases e
    | 33, hx => have e := Option.some.inj hx; cases e
    | 34, hx => have e := Option.some.inj hx; cases e
    | 35, hx => have e := Option.some.inj hx; cases e
    | 36, hx => have e := Option.some.inj hx; cases e
    | 37, hx => have e := Option.some.inj hx; cases e
    | 38, hx => have e := Option.some.inj hx; cases e
    | 39, hx => have e := Option.some.inj hx; cases e
    | 40, hx => have e := Option.some.inj hx; cases e
    | 41, hx => have e := Option.some.inj hx; cases e
    | 42, hx => have e := Option.some.inj hx; cases e
    | 43, hx => have e := Option.some.inj hx; cases e
    | 44, hx => have e := Option.some.inj hx; cases e
    | 45, hx => have e := Option.some.inj hx; cases e
    | 46, hx => have e := Option.some.inj hx; cases e
    | 47, hx => have e := Option.some.inj hx; cases e
    | 48, hx => have e := Option.some.inj hx; cases e
    | 49, hx => have e := Option.some.inj hx; cases e
    | 50, hx => have e := Option.some.inj hx; cases e
    | 51, hx => have e := Option.some.inj hx; cases e
    | 52, hx => have e := Option.some.inj hx; cases e
    | 53, hx => have e := Option.some.inj hx; cases e
    | 54, hx => have e := Option.some.inj hx; cases e
    | 55, hx => have e := Option.some.inj hx; cases e
    | 56, hx => have e := Option.some.inj hx; cases e
    | 57, hx => have e := Option.some.inj hx; cases e
    | 58, hx => have e := Option.some.inj hx; cases e
    | 59, hx => have e := Option.some.inj hx; cases e
    | 60, hx => have e := Option.some.inj hx; cases e
    | 61, hx => have e := Option.some.inj hx; cases e
    | 62, hx => have e := Option.some.inj hx; cases e
    | 63, hx => have e := Option.some.inj hx; cases e
    | 64, hx => have e := Option.some.inj hx; cases e
    | 65, hx => have e := Option.some.inj hx; cases e
    | 66, hx => have e := Option.some.inj hx; cases e
    | 67, hx => have e := Option.some.inj hx; cases e
    | 68, hx => have e := Option.some.inj hx; cases e
    | 69, hx => have e := Option.some.inj hx; cases e
    | 70, hx => have e := Option.some.inj hx; cases e
    | 71, hx => have e := Option.some.inj hx; cases e
    | 72, hx => have e := Option.some.inj hx; cases e
    | 73, hx => have e := Option.some.inj hx; cases e
    | 74, hx => have e := Option.some.inj hx; cases e
    | 75, hx => have e := Option.some.inj hx; cases e
    | 76, hx => have e := Option.some.inj hx; cases e
    | 77, hx => have e := Option.some.inj hx; cases e
    | 78, hx => have e := Option.some.inj hx; cases e
    | 79, hx => have e := Option.some.inj hx; cases e
    | 80, hx => have e := Option.some.inj hx; cases e
    | 81, hx => have e := Option.some.inj hx; cases e
    | 82, hx => have e := Option.some.inj hx; cases e
    | 83, hx => have e := Option.some.inj hx; cases e
    | 84, hx => have e := Option.some.inj hx; cases e
    | 85, hx => have e := Option.some.inj hx; cases e
    | 86, hx => have e := Option.some.inj hx; cases e
    | 87, hx => have e := Option.some.inj hx; cases e
    | 88, hx => have e := Option.some.inj hx; cases e
    | 89, hx => have e := Option.some.inj hx; cases e
    | 90, hx => have e := Option.some.inj hx; cases e
    | 91, hx => have e := Option.some.inj hx; cases e
    | 92, hx => have e := Option.some.inj hx; cases e
    | 93, hx => have e := Option.some.inj hx; cases e
    | 94, hx => have e := Option.some.inj hx; cases e
    | 95, hx => have e := Option.some.inj hx; cases e
    | 96, hx => have e := Option.some.inj hx; cases e
    | 97, hx => have e := Option.some.inj hx; cases e
    | 98, hx => have e := Option.some.inj hx; cases e
    | 99, hx => have e := Option.some.inj hx; cases e
    | 100, hx => have e := Option.some.inj hx; cases e
    | 101, hx => have e := Option.some.inj hx; cases e
    | 102, hx => have e := Option.some.inj hx; cases e
    | 103, hx => have e := Option.some.inj hx; cases e
    | 104, hx => have e := Option.some.inj hx; cases e
    | 105, hx => have e := Option.some.inj hx; cases e
    | 106, hx => have e := Option.some.inj hx; cases e
    | 107, hx => have e := Option.some.inj hx; cases e
    | 108, hx => have e := Option.some.inj hx; cases e
    | 109, hx => have e := Option.some.inj hx; cases e; exact let ⟨fd, _, D⟩ := dk109 c; ⟨_, fd, _, (He.glo_ok KX Gn (c.t.d.fact 4 (f := .glo "law") rfl)), D⟩
    | 110, hx => have e := Option.some.inj hx; cases e; exact let ⟨fd, _, D⟩ := dk110 c; ⟨_, fd, _, (He.glo_ok KX Gn (c.t.d.fact 5 (f := .glo "_law_thrown") rfl)), D⟩
    | 111, hx => have e := Option.some.inj hx; cases e
    | 112, hx => have e := Option.some.inj hx; cases e
    | _ + 113, hx => cases hx
  mt := fun f cc x hx hl => by
    match f, hx with
    | 0, hx => have e := Option.some.inj hx; cases e; exact absurd hl (by decide)
    | 1, hx => have e := Option.some.inj hx; cases e
    | 2, hx => have e := Option.some.inj hx; cases e
    | 3, hx => have e := Option.some.inj hx; cases e; exact absurd hl (by decide)
    | 4, hx => have e := Option.some.inj hx; cases e; exact absurd hl (by decide)
    | 5, hx => have e := Option.some.inj hx; cases e; exact absurd hl (by decide)
    | 6, hx => have e := Option.some.inj hx; cases e
    | 7, hx => have e := Option.some.inj hx; cases e; exact absurd hl (by decide)
    | 8, hx => have e := Option.some.inj hx; cases e; exact absurd hl (by decide)
    | 9, hx => have e := Option.some.inj hx; cases e; exact absurd hl (by decide)
    | 10, hx => have e := Option.some.inj hx; cases e; exact absurd hl (by decide)
    | 11, hx => have e := Option.some.inj hx; cases e; exact absurd hl (by decide)
    | 12, hx => have e := Option.some.inj hx; cases e; exact absurd hl (by decide)
    | 13, hx => have e := Option.some.inj hx; cases e; exact absurd hl (by decide)
    | 14, hx => have e := Option.some.inj hx; cases e; exact absurd hl (by decide)
    | 15, hx => have e := Option.some.inj hx; cases e; exact absurd hl (by decide)
    | 16, hx => have e := Option.some.inj hx; cases e; exact absurd hl (by decide)
    | 17, hx => have e := Option.some.inj hx; cases e; exact absurd hl (by decide)
    | 18, hx => have e := Option.some.inj hx; cases e; exact absurd hl (by decide)
    | 19, hx => have e := Option.some.inj hx; cases e; exact absurd hl (by decide)
    | 20, hx => have e := Option.some.inj hx; cases e; exact absurd hl (by decide)
    | 21, hx => have e := Option.some.inj hx; cases e; exact absurd hl (by decide)
    | 22, hx => have e := Option.some.inj hx; cases e; exact absurd hl (by decide)
    | 23, hx => have e := Option.some.inj hx; cases e; exact absurd hl (by decide)
    | 24, hx => have e := Option.some.inj hx; cases e; exact absurd hl (by decide)
    | 25, hx => have e := Option.some.inj hx; cases e; exact absurd hl (by decide)
    | 26, hx => have e := Option.some.inj hx; cases e; exact absurd hl (by decide)
    | 27, hx => have e := Option.some.inj hx; cases e; exact absurd hl (by decide)
    | 28, hx => have e := Option.some.inj hx; cases e; exact absurd hl (by decide)
    | 29, hx => have e := Option.some.inj hx; cases e; exact absurd hl (by decide)
    | 30, hx => have e := Option.some.inj hx; cases e; exact absurd hl (by decide)
    | 31, hx => have e := Option.some.inj hx; cases e; exact absurd hl (by decide)
    | 32, hx => have e := Option.some.inj hx; cases e; exact absurd hl (by decide)
    | 33, hx => have e := Option.some.inj hx; cases e; exact absurd hl (by decide)
    | 34, hx => have e := Option.some.inj hx; cases e; exact absurd hl (by decide)
    | 35, hx => have e := Option.some.inj hx; cases e; exact absurd hl (by decide)
    | 36, hx => have e := Option.some.inj hx; cases e; exact absurd hl (by decide)
    | 37, hx => have e := Option.some.inj hx; cases e; exact absurd hl (by decide)
    | 38, hx => have e := Option.some.inj hx; cases e; exact absurd hl (by decide)
    | 39, hx => have e := Option.some.inj hx; cases e; exact absurd hl (by decide)
    | 40, hx => have e := Option.some.inj hx; cases e; exact absurd hl (by decide)
    | 41, hx => have e := Option.some.inj hx; cases e; exact absurd hl (by decide)
    | 42, hx => have e := Option.some.inj hx; cases e; exact absurd hl (by decide)
    | 43, hx => have e := Option.some.inj hx; cases e; exact absurd hl (by decide)
    | 44, hx => have e := Option.some.inj hx; cases e; exact absurd hl (by decide)
    | 45, hx => have e := Option.some.inj hx; cases e; exact absurd hl (by decide)
    | 46, hx => have e := Option.some.inj hx; cases e; exact absurd hl (by decide)
    | 47, hx => have e := Option.some.inj hx; cases e; exact absurd hl (by decide)
    | 48, hx => have e := Option.some.inj hx; cases e; exact absurd hl (by decide)
    | 49, hx => have e := Option.some.inj hx; cases e; exact absurd hl (by decide)
    | 50, hx => have e := Option.some.inj hx; cases e; exact absurd hl (by decide)
    | 51, hx => have e := Option.some.inj hx; cases e; exact absurd hl (by decide)
    | 52, hx => have e := Option.some.inj hx; cases e; exact absurd hl (by decide)
    | 53, hx => have e := Option.some.inj hx; cases e; exact absurd hl (by decide)
    | 54, hx => have e := Option.some.inj hx; cases e; exact absurd hl (by decide)
    | 55, hx => have e := Option.some.inj hx; cases e; exact absurd hl (by decide)
    | 56, hx => have e := Option.some.inj hx; cases e; exact absurd hl (by decide)
    | 57, hx => have e := Option.some.inj hx; cases e; exact absurd hl (by decide)
    | 58, hx => have e := Option.some.inj hx; cases e; exact absurd hl (by decide)
    | 59, hx => have e := Option.some.inj hx; cases e; exact absurd hl (by decide)
    | 60, hx => have e := Option.some.inj hx; cases e; exact absurd hl (by decide)
    | 61, hx => have e := Option.some.inj hx; cases e; exact absurd hl (by decide)
    | 62, hx => have e := Option.some.inj hx; cases e; exact absurd hl (by decide)
    | 63, hx => have e := Option.some.inj hx; cases e; exact absurd hl (by decide)
    | 64, hx => have e := Option.some.inj hx; cases e; exact absurd hl (by decide)
    | 65, hx => have e := Option.some.inj hx; cases e; exact absurd hl (by decide)
    | 66, hx => have e := Option.some.inj hx; cases e; exact absurd hl (by decide)
    | 67, hx => have e := Option.some.inj hx; cases e; exact absurd hl (by decide)
    | 68, hx => have e := Option.some.inj hx; cases e; exact absurd hl (by decide)
    | 69, hx => have e := Option.some.inj hx; cases e; exact absurd hl (by decide)
    | 70, hx => have e := Option.some.inj hx; cases e; exact absurd hl (by decide)
    | 71, hx => have e := Option.some.inj hx; cases e; exact absurd hl (by decide)
    | 72, hx => have e := Option.some.inj hx; cases e; exact absurd hl (by decide)
    | 73, hx => have e := Option.some.inj hx; cases e; exact absurd hl (by decide)
    | 74, hx => have e := Option.some.inj hx; cases e; exact absurd hl (by decide)
    | 75, hx => have e := Option.some.inj hx; cases e; exact absurd hl (by decide)
    | 76, hx => have e := Option.some.inj hx; cases e; exact absurd hl (by decide)
    | 77, hx => have e := Option.some.inj hx; cases e; exact absurd hl (by decide)
    | 78, hx => have e := Option.some.inj hx; cases e; exact absurd hl (by decide)
    | 79, hx => have e := Option.some.inj hx; cases e; exact absurd hl (by decide)
    | 80, hx => have e := Option.some.inj hx; cases e; exact absurd hl (by decide)
    | 81, hx => have e := Option.some.inj hx; cases e; exact absurd hl (by decide)
    | 82, hx => have e := Option.some.inj hx; cases e; exact absurd hl (by decide)
    | 83, hx => have e := Option.some.inj hx; cases e; exact absurd hl (by decide)
    | 84, hx => have e := Option.some.inj hx; cases e; exact absurd hl (by decide)
    | 85, hx => have e := Option.some.inj hx; cases e; exact absurd hl (by decide)
    | 86, hx => have e := Option.some.inj hx; cases e; exact absurd hl (by decide)
    | 87, hx => have e := Option.some.inj hx; cases e; exact absurd hl (by decide)
    | 88, hx => have e := Option.some.inj hx; cases e; exact absurd hl (by decide)
    | 89, hx => have e := Option.some.inj hx; cases e; exact absurd hl (by decide)
    | 90, hx => have e := Option.some.inj hx; cases e; exact absurd hl (by decide)
    | 91, hx => have e := Option.some.inj hx; cases e; exact absurd hl (by decide)
    | 92, hx => have e := Option.some.inj hx; cases e; exact absurd hl (by decide)
    | 93, hx => have e := Option.some.inj hx; cases e; exact absurd hl (by decide)
    | 94, hx => have e := Option.some.inj hx; cases e; exact absurd hl (by decide)
    | 95, hx => have e := Option.some.inj hx; cases e; exact absurd hl (by decide)
    | 96, hx => have e := Option.some.inj hx; cases e; exact absurd hl (by decide)
    | 97, hx => have e := Option.some.inj hx; cases e; exact absurd hl (by decide)
    | 98, hx => have e := Option.some.inj hx; cases e; exact absurd hl (by decide)
    | 99, hx => have e := Option.some.inj hx; cases e; exact absurd hl (by decide)
    | 100, hx => have e := Option.some.inj hx; cases e; exact absurd hl (by decide)
    | 101, hx => have e := Option.some.inj hx; cases e; exact absurd hl (by decide)
    | 102, hx => have e := Option.some.inj hx; cases e; exact absurd hl (by decide)
    | 103, hx => have e := Option.some.inj hx; cases e; exact absurd hl (by decide)
    | 104, hx => have e := Option.some.inj hx; cases e; exact absurd hl (by decide)
    | 105, hx => have e := Option.some.inj hx; cases e; exact absurd hl (by decide)
    | 106, hx => have e := Option.some.inj hx; cases e; exact absurd hl (by decide)
    | 107, hx => have e := Option.some.inj hx; cases e; exact absurd hl (by decide)
    | 108, hx => have e := Option.some.inj hx; cases e; exact absurd hl (by decide)
    | 109, hx => have e := Option.some.inj hx; cases e
    | 110, hx => have e := Option.some.inj hx; cases e
    | 111, hx => have e := Option.some.inj hx; cases e; exact absurd hl (by decide)
    | 112, hx => have e := Option.some.inj hx; cases e; exact absurd hl (by decide)
    | _ + 113, hx => cases hx
  pr := fun x f hx => absurd hx (by simp [tb])
  cl := fun cc x hx => absurd hx (by simp [tb])
  con := fun k x hx => by
    have E : ex K = true := c.more
    match k, hx with
    | _ + 0, hx => cases hx
  fr := fun x hx => He.free_ok KX Gn (fact_mem c.t.d (f := .free x) (by
    have h1 : ∀ x ∈ tb.free, (He.Fa.free x) ∈ fa := by
      intro x hx
      simp only [tb, List.mem_cons, List.not_mem_nil, or_false] at hx
      rcases hx with rfl | rfl | rfl | rfl | rfl | rfl | rfl | rfl | rfl | rfl | rfl | rfl <;> simp [fa]
    exact h1 x hx))
  noat := fun cc hc x hx => absurd hc (by simp [tb])
  drv := fun h => absurd (show false = true from h) Bool.false_ne_true
  hfn := fun f x hx => by
    simp only [tb, List.mem_cons, List.not_mem_nil, or_false, Prod.mk.injEq] at hx
    rcases hx with hx | hx
    · (obtain ⟨rfl, rfl⟩ := hx; exact let ⟨fd, _, D⟩ := dk111 c; ⟨_, fd, _, (He.glo_ok KX Gn (c.t.d.fact 6 (f := .glo "_law_classes") rfl)), D⟩)
    rcases hx with hx | hx
    · (obtain ⟨rfl, rfl⟩ := hx; exact let ⟨fd, _, D⟩ := dk8 c; ⟨_, fd, _, (He.glo_ok KX Gn (c.t.d.fact 3 (f := .glo "_law_equal") rfl)), D⟩)
    (obtain ⟨rfl, rfl⟩ := hx; exact let ⟨fd, _, D⟩ := dk112 c; ⟨_, fd, _, (He.glo_ok KX Gn (c.t.d.fact 7 (f := .glo "_law_fields") rfl)), D⟩)
  xk := by
    have E : ex K = true := c.more
    refine ⟨fun _ => rfl, fun x hx => ?_, fun _ n hn => ?_, fun k x hx => ?_, fun _ n hn => ?_, fun f hx n hn => ?_⟩
    · cases hx; exact ⟨_, (He.glo_ok KX Gn (c.t.d.fact 34 (f := .glo "ArmError") rfl)), fun n hn => of_decide_eq_true (List.all_eq_true.mp (He.ba E).1 n (List.mem_range.mpr hn))⟩
    · exact exB_ok (List.all_eq_true.mp (He.ba (He.ba E).2).1 n (List.mem_range.mpr hn))
    · simp only [tb, List.mem_cons, List.not_mem_nil, or_false, Prod.mk.injEq] at hx
      rcases hx with hx | hx
      · (obtain ⟨rfl, rfl⟩ := hx; exact ⟨(He.glo_ok KX Gn (c.t.d.fact 26 (f := .glo "BadStart") rfl)), fun n hn => of_decide_eq_true (List.all_eq_true.mp (He.ba (He.ba (He.ba E).2).2).1 n (List.mem_range.mpr hn))⟩)
      rcases hx with hx | hx
      · (obtain ⟨rfl, rfl⟩ := hx; exact ⟨(He.glo_ok KX Gn (c.t.d.fact 24 (f := .glo "BadSide") rfl)), fun n hn => of_decide_eq_true (List.all_eq_true.mp (He.ba (He.ba (He.ba (He.ba E).2).2).2).1 n (List.mem_range.mpr hn))⟩)
      rcases hx with hx | hx
      · (obtain ⟨rfl, rfl⟩ := hx; exact ⟨(He.glo_ok KX Gn (c.t.d.fact 22 (f := .glo "BadLand") rfl)), fun n hn => of_decide_eq_true (List.all_eq_true.mp (He.ba (He.ba (He.ba (He.ba (He.ba E).2).2).2).2).1 n (List.mem_range.mpr hn))⟩)
      rcases hx with hx | hx
      · (obtain ⟨rfl, rfl⟩ := hx; exact ⟨(He.glo_ok KX Gn (c.t.d.fact 20 (f := .glo "BadFact") rfl)), fun n hn => of_decide_eq_true (List.all_eq_true.mp (He.ba (He.ba (He.ba (He.ba (He.ba (He.ba E).2).2).2).2).2).1 n (List.mem_range.mpr hn))⟩)
      rcases hx with hx | hx
      · (obtain ⟨rfl, rfl⟩ := hx; exact ⟨(He.glo_ok KX Gn (c.t.d.fact 30 (f := .glo "BadSeen") rfl)), fun n hn => of_decide_eq_true (List.all_eq_true.mp (He.ba (He.ba (He.ba (He.ba (He.ba (He.ba (He.ba E).2).2).2).2).2).2).1 n (List.mem_range.mpr hn))⟩)
      rcases hx with hx | hx
      · (obtain ⟨rfl, rfl⟩ := hx; exact ⟨(He.glo_ok KX Gn (c.t.d.fact 28 (f := .glo "TooLong") rfl)), fun n hn => of_decide_eq_true (List.all_eq_true.mp (He.ba (He.ba (He.ba (He.ba (He.ba (He.ba (He.ba (He.ba E).2).2).2).2).2).2).2).1 n (List.mem_range.mpr hn))⟩)
      rcases hx with hx | hx
      · (obtain ⟨rfl, rfl⟩ := hx; exact ⟨(He.glo_ok KX Gn (c.t.d.fact 32 (f := .glo "BadText") rfl)), fun n hn => of_decide_eq_true (List.all_eq_true.mp (He.ba (He.ba (He.ba (He.ba (He.ba (He.ba (He.ba (He.ba (He.ba E).2).2).2).2).2).2).2).2).1 n (List.mem_range.mpr hn))⟩)
      (obtain ⟨rfl, rfl⟩ := hx; exact ⟨(He.glo_ok KX Gn (c.t.d.fact 31 (f := .glo "BadSteps") rfl)), fun n hn => of_decide_eq_true (List.all_eq_true.mp (He.ba (He.ba (He.ba (He.ba (He.ba (He.ba (He.ba (He.ba (He.ba (He.ba E).2).2).2).2).2).2).2).2).2).1 n (List.mem_range.mpr hn))⟩)
    · exact of_decide_eq_true (List.all_eq_true.mp (He.ba (He.ba (He.ba (He.ba (He.ba (He.ba (He.ba (He.ba (He.ba (He.ba (He.ba E).2).2).2).2).2).2).2).2).2).2).1 n (List.mem_range.mpr hn))
    · simp only [tb, List.mem_cons, List.not_mem_nil, or_false] at hx
      rcases hx with hx | hx
      · (subst hx; exact ⟨xfB_ok (He.ba (List.all_eq_true.mp (He.ba (He.ba (He.ba (He.ba (He.ba (He.ba (He.ba (He.ba (He.ba (He.ba (He.ba (He.ba E).2).2).2).2).2).2).2).2).2).2).2).1 n (List.mem_range.mpr hn))).1, of_decide_eq_true (He.ba (List.all_eq_true.mp (He.ba (He.ba (He.ba (He.ba (He.ba (He.ba (He.ba (He.ba (He.ba (He.ba (He.ba (He.ba E).2).2).2).2).2).2).2).2).2).2).2).1 n (List.mem_range.mpr hn))).2⟩)
      rcases hx with hx | hx
      · (subst hx; exact ⟨xfB_ok (He.ba (List.all_eq_true.mp (He.ba (He.ba (He.ba (He.ba (He.ba (He.ba (He.ba (He.ba (He.ba (He.ba (He.ba (He.ba (He.ba E).2).2).2).2).2).2).2).2).2).2).2).2).1 n (List.mem_range.mpr hn))).1, of_decide_eq_true (He.ba (List.all_eq_true.mp (He.ba (He.ba (He.ba (He.ba (He.ba (He.ba (He.ba (He.ba (He.ba (He.ba (He.ba (He.ba (He.ba E).2).2).2).2).2).2).2).2).2).2).2).2).1 n (List.mem_range.mpr hn))).2⟩)
      (subst hx; exact ⟨xfB_ok (He.ba (List.all_eq_true.mp (He.ba (He.ba (He.ba (He.ba (He.ba (He.ba (He.ba (He.ba (He.ba (He.ba (He.ba (He.ba (He.ba (He.ba E).2).2).2).2).2).2).2).2).2).2).2).2).2).1 n (List.mem_range.mpr hn))).1, of_decide_eq_true (He.ba (List.all_eq_true.mp (He.ba (He.ba (He.ba (He.ba (He.ba (He.ba (He.ba (He.ba (He.ba (He.ba (He.ba (He.ba (He.ba (He.ba E).2).2).2).2).2).2).2).2).2).2).2).2).2).1 n (List.mem_range.mpr hn))).2⟩)
  tk := fun x hx => by
    have E : ex K = true := c.more
    exact absurd hx (by simp [tb])
  xc := fun k x hx => by
    have E : ex K = true := c.more
    match k, hx with
    | 0, hx => have e := Option.some.inj hx; cases e
    | 1, hx => have e := Option.some.inj hx; cases e
    | 2, hx => have e := Option.some.inj hx; cases e
    | 3, hx => have e := Option.some.inj hx; cases e
    | 4, hx => have e := Option.some.inj hx; cases e
    | 5, hx => have e := Option.some.inj hx; cases e
    | 6, hx => have e := Option.some.inj hx; cases e
    | 7, hx => have e := Option.some.inj hx; cases e
    | _ + 8, hx => cases hx
  x0 := fun k x hx => by
    simp only [tb, List.mem_cons, List.not_mem_nil, or_false, Prod.mk.injEq] at hx
    rcases hx with hx | hx
    · (obtain ⟨rfl, rfl⟩ := hx; exact ⟨(He.glo_ok KX Gn (c.t.d.fact 20 (f := .glo "BadFact") rfl)), (He.exc_ok (c.t.d.fact 21 (f := .exc "BadFact") rfl))⟩)
    rcases hx with hx | hx
    · (obtain ⟨rfl, rfl⟩ := hx; exact ⟨(He.glo_ok KX Gn (c.t.d.fact 22 (f := .glo "BadLand") rfl)), (He.exc_ok (c.t.d.fact 23 (f := .exc "BadLand") rfl))⟩)
    rcases hx with hx | hx
    · (obtain ⟨rfl, rfl⟩ := hx; exact ⟨(He.glo_ok KX Gn (c.t.d.fact 24 (f := .glo "BadSide") rfl)), (He.exc_ok (c.t.d.fact 25 (f := .exc "BadSide") rfl))⟩)
    rcases hx with hx | hx
    · (obtain ⟨rfl, rfl⟩ := hx; exact ⟨(He.glo_ok KX Gn (c.t.d.fact 26 (f := .glo "BadStart") rfl)), (He.exc_ok (c.t.d.fact 27 (f := .exc "BadStart") rfl))⟩)
    (obtain ⟨rfl, rfl⟩ := hx; exact ⟨(He.glo_ok KX Gn (c.t.d.fact 28 (f := .glo "TooLong") rfl)), (He.exc_ok (c.t.d.fact 29 (f := .exc "TooLong") rfl))⟩)
  x1 := fun k x fs hx => by
    simp only [tb, List.mem_cons, List.not_mem_nil, or_false, Prod.mk.injEq] at hx
    rcases hx with hx | hx
    · (obtain ⟨rfl, rfl, rfl⟩ := hx; exact ⟨(He.glo_ok KX Gn (c.t.d.fact 30 (f := .glo "BadSeen") rfl)), He.free_ok KX Gn (c.t.d.fact 33 (f := .free "super") rfl), xm5 hP hT c⟩)
    rcases hx with hx | hx
    · (obtain ⟨rfl, rfl, rfl⟩ := hx; exact ⟨(He.glo_ok KX Gn (c.t.d.fact 31 (f := .glo "BadSteps") rfl)), He.free_ok KX Gn (c.t.d.fact 33 (f := .free "super") rfl), xm2 hP hT c⟩)
    (obtain ⟨rfl, rfl, rfl⟩ := hx; exact ⟨(He.glo_ok KX Gn (c.t.d.fact 32 (f := .glo "BadText") rfl)), He.free_ok KX Gn (c.t.d.fact 33 (f := .free "super") rfl), xm7 hP hT c⟩)
  xf := fun k f hx => by
    exact absurd hx (by simp [tb])
theorem facts {f : Addr} (hP : P.main.file = PySem.Challenge.pw_roundarms_k15_errors_apart.main.file) (hT : (P.main.scope.names.lookup ("super" : Str)).isSome = false) (KX : K.In h) (Gn : h.Ns mainGlobals mg) (hfa : mg ("law" : Str) = some (.ref f)) (c : SaysY fa fn ts ps xs ex w K) (n : Nat) :
    ∃ fd : FuncData, (∀ (s : Shared) (v : Value), BindsTo s fd ⟨[v], []⟩ [(("_law_script" : Str), v)]) ∧ ∀ base : Heap, K.In base → base.Ns mainGlobals mg → FnOk P w K mg base (L2N.CX P w) (2 * n + 2) f fd ["_law_script"] (spU (gx K w) (DL.run df con tb.cls.length (n + 1) 109)) := by
  obtain ⟨fd, F, DD⟩ := dk109 c
  have e := hfa.symm.trans (He.glo_ok KX Gn (c.t.d.fact 4 (f := .glo "law") rfl))
  cases e
  have b := FunD.bindsA (ps := ["_law_script"]) F fun _ _ _ _ _ _ us hl => match us, hl with | [_], _ => rfl
  exact ⟨fd, fun s v => b s [v] rfl, fun base _ _ => def_ok DD (wd_of (txt hP hT KX Gn c) n)⟩
end
end K15
section
open PySem PySem.W PySem.Calls PyProof.Rows
theorem K15.head (n : Nat) (hn : n ≤ 60) (pure : ∀ l : List Int, l.length ≤ 63 → DL.run GI.df GI.con 0 (n + 1) 109 [.d (.scr (l.map DL.D.int))] [] = some (.ok (.d (.bl true)) [])) : PySem.Challenge.rw_roundarms_k15_errors_apart.Holds := by
  w_on; o_law
  refine HandSHeadRun.head_any (r := OpenLaw.row PySem.Challenge.rw_roundarms_k15_errors_apart) (q := view (OpenLaw.row PySem.Challenge.rw_roundarms_k15_errors_apart).prog [18]) (H := K15.hk) (ob := K15.ob) (M := 40000) (loose := K15.loose) (d := HandSHeadRun.topDef (OpenLaw.row PySem.Challenge.rw_roundarms_k15_errors_apart).prog 18) (kwd := []) K15.ob_eq
    (by kernel_rfl) (fun s => by kernel_rfl) K15.run (by kernel_rfl) (by kernel_rfl) (by kernel_rfl) (by rfl) (by first | assumption | decide +kernel) (by decide +kernel) ⟨rfl, rfl, rfl, rfl, rfl, by decide +kernel⟩ ?hw ?hc
  case hw => w_witness2
  case hc =>
    refine L2.walk_ofE (l := PySem.Challenge.rw_roundarms_k15_errors_apart) (n := 63) (k := 122) (x := "_law_script") (CX := L2.CX0) rfl (by decide) (by kernel_rfl) ⟨rfl, by decide, by decide⟩ ?F (fun _ _ _ _ z => z)
    intro w mg fa h Y G hmg0
    obtain ⟨K, KX, c⟩ := Y
    have hmg : mg ("law" : PySem.Str) = some (.ref fa) := by
      have e : (HandSHeadRun.topDef (OpenLaw.row PySem.Challenge.rw_roundarms_k15_errors_apart).prog 18).name = ("law" : PySem.Str) := by kernel_rfl
      rw [← e]
      exact hmg0
    obtain ⟨fd, hb, hF⟩ := K15.facts (P := (PySem.Challenge.rw_roundarms_k15_errors_apart).prog) (w := w) rfl (by decide +kernel) KX G hmg c n
    exact ⟨K, fd, (fun vs H Q _ => DL.spU (K15.gx K w) (DL.run GI.df GI.con 0 (n + 1) 109) vs H Q fun _ _ _ => False), KX, hb, fun H a l hl _ hS => DL.law_sp (G := K15.gx K w) (pure l hl) hS, fun base h1 h2 => L2.FnOk.mono (j := 2 * n + 2) (k := 122) (DL.fn_calm (hF base h1 h2)) (by omega)⟩
end

theorem PySem.Challenge.cw_roundarms_k15_errors_apart_holds : PySem.Challenge.rw_roundarms_k15_errors_apart.Holds := by
  exact K15.head 6 (by decide) fun l hl => GP.k15 l hl
