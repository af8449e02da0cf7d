import PyProof.Rows.All
import Wide.All
import OpenK.AllK
import Wide.FinOn
import HandS.ForMost
import HandS.Exc
import HandS.ExcOwn
import HandS.TryOnly
import HandS.CallSlots
import HandS.WordsExc
import KE.KDictKeyed
import HandS.TupAny
import HandS.Deep
import HandS.Style
import HandS.TupLe
import HandS.Zip
import HandS.HotCalls
import HandS.IsInst
import HandS.TupLen
import HandS.Ends
import HandS.SortInts
import HandS.SortRule
import HandS.Conv
import KE.KDictSum
import HandS.SetFor
import HandS.Strs
import HandS.ExcIs
import KE.KTupSum
import KE.DatumOrd
import HandS.Iter
import KE.KDictDisplayH
import PyProof.MaxThree
import OpenK.KOps
import HandS.TupSets
import KE.KCallOwn
import HandS.RaiseMore
import HandS.Text
import PyProof.Rows.StrSplitCount
import PySem.Challenge.RW_gridmirrors_k07_whole_parallel
set_option Elab.async false
set_option linter.all false
set_option maxRecDepth 100000
set_option autoImplicit false
set_option maxHeartbeats 0
section
/-! The evaluator: values, a store, the small language, its runs. Core Lean alone. -/
namespace G
/-- a value: scalars, tuples, lists and dicts that nobody changes any more (tl, td), what stands in the store (ref), a def (fn), the script -/
inductive Val where
  | non | bl (b : Bool) | int (i : Int) | str (s : List Nat)
  | tup (xs : List Val) | tl (xs : List Val) | td (t : Bool) (ks vs : List Val) | ref (n : Nat) | fn (f : Nat) | scr
/-- what stands in the store -/
inductive Ob where
  | lst (xs : List Val) | dic (t : Bool) (ks vs : List Val) | dcn (ks vs : List Val) | ins (fs : List Val) | fdi (ks vs : List Val)
abbrev Sto := List Ob
abbrev Env := List (Option Val)
/-- how an expression ends -/
inductive Rs where
  | ok (v : Val) (st : Sto) | exc (k : Nat) (st : Sto) | no
def Rs.bind (r : Rs) (f : Val → Sto → Rs) : Rs := match r with
  | .ok v st => f v st
  | .exc k st => .exc k st
  | .no => .no
/-- how a statement ends -/
inductive Ro where
  | nx (e : Env) (st : Sto) | ret (v : Val) (st : Sto) | bk (e : Env) (st : Sto) | exc (k : Nat) (st : Sto) | no
/-- an expression within a statement -/
def Rs.run (r : Rs) (f : Val → Sto → Ro) : Ro := match r with
  | .ok v st => f v st
  | .exc k st => .exc k st
  | .no => .no

/-! ints, quick in the kernel -/
def ieq : Int → Int → Bool
  | .ofNat m, .ofNat n => Nat.beq m n
  | .negSucc m, .negSucc n => Nat.beq m n
  | _, _ => false
def ile : Int → Int → Bool
  | .ofNat m, .ofNat n => Nat.ble m n
  | .negSucc m, .negSucc n => Nat.ble n m
  | .negSucc _, .ofNat _ => true
  | .ofNat _, .negSucc _ => false
def ilt (a b : Int) : Bool := !(ile b a)
theorem bool_dec {b : Bool} {p : Prop} [Decidable p] (h : b = true ↔ p) : b = decide p := by
  cases b with
  | true => exact (decide_eq_true (h.mp rfl)).symm
  | false => exact (decide_eq_false fun q => Bool.noConfusion (h.mpr q)).symm
theorem ieq_eq (a b : Int) : ieq a b = decide (a = b) := by
  refine bool_dec ?_
  cases a with
  | ofNat m =>
    cases b with
    | ofNat n =>
      show Nat.beq m n = true ↔ Int.ofNat m = Int.ofNat n
      rw [Nat.beq_eq]
      exact ⟨fun e => by rw [e], fun e => Int.ofNat.inj e⟩
    | negSucc n => exact ⟨fun e => (nomatch e), fun e => (nomatch e)⟩
  | negSucc m =>
    cases b with
    | ofNat n => exact ⟨fun e => (nomatch e), fun e => (nomatch e)⟩
    | negSucc n =>
      show Nat.beq m n = true ↔ Int.negSucc m = Int.negSucc n
      rw [Nat.beq_eq]
      exact ⟨fun e => by rw [e], fun e => Int.negSucc.inj e⟩
theorem ile_eq (a b : Int) : ile a b = decide (a ≤ b) := by
  refine bool_dec ?_
  cases a with
  | ofNat m =>
    cases b with
    | ofNat n =>
      show Nat.ble m n = true ↔ _
      rw [Nat.ble_eq]
      simp
    | negSucc n =>
      show false = true ↔ _
      simp
      omega
  | negSucc m =>
    cases b with
    | ofNat n =>
      show true = true ↔ _
      simp
      omega
    | negSucc n =>
      show Nat.ble n m = true ↔ _
      rw [Nat.ble_eq]
      omega
theorem ilt_eq (a b : Int) : ilt a b = decide (a < b) := by
  refine bool_dec ?_
  unfold ilt
  rw [ile_eq]
  by_cases h : b ≤ a
  · rw [decide_eq_true h]
    simp
    omega
  · rw [decide_eq_false h]
    simp
    omega

/-! equality of data, as Python has it -/
def leq : List Nat → List Nat → Bool
  | [], [] => true
  | x :: xs, y :: ys => match Nat.beq x y with
    | true => leq xs ys
    | false => false
  | _, _ => false
mutual
def eqv : Val → Val → Bool
  | .non, .non => true
  | .bl a, .bl b => a == b
  | .bl a, .int j => ieq (if a then 1 else 0) j
  | .int i, .bl b => ieq i (if b then 1 else 0)
  | .int i, .int j => ieq i j
  | .str x, .str y => leq x y
  | .tl xs, .tl ys => eqvL xs ys
  | .tup xs, .tup ys => eqvL xs ys
  | _, _ => false
def eqvL : List Val → List Val → Bool
  | [], [] => true
  | x :: xs, y :: ys => match eqv x y with
    | true => eqvL xs ys
    | false => false
  | _, _ => false
end

/-! freezing: what a value is as data, the store read through; n bounds the depth -/
def mapO (f : Val → Option Val) : List Val → Option (List Val)
  | [] => some []
  | x :: r => match f x with
    | some y => match mapO f r with
      | some s => some (y :: s)
      | none => none
    | none => none
def frz : Nat → Sto → Val → Option Val
  | 0, _, v => match v with
    | .non => some .non
    | .bl b => some (.bl b)
    | .int i => some (.int i)
    | .str s => some (.str s)
    | _ => none
  | n + 1, st, v => match v with
    | .non => some .non
    | .bl b => some (.bl b)
    | .int i => some (.int i)
    | .str s => some (.str s)
    | .tup xs => match mapO (frz n st) xs with
      | some ys => some (.tup ys)
      | none => none
    | .tl xs => match mapO (frz n st) xs with
      | some ys => some (.tl ys)
      | none => none
    | .ref m => match st[m]? with
      | some (.lst xs) => match mapO (frz n st) xs with
        | some ys => some (.tl ys)
        | none => none
      | _ => none
    | _ => none
/-- as above, a dict too, at the top -/
def frzD (st : Sto) (v : Val) : Option Val := match v with
  | .ref m => match st[m]? with
    | some (.dic t ks vs) => match mapO (frz 5 []) ks with
      | some ks' => match mapO (frz 5 []) vs with
        | some vs' => some (.td t ks' vs')
        | none => none
      | none => none
    | _ => frz 6 st v
  | .td t ks vs => match mapO (frz 5 []) vs with
    | some vs' => some (.td t ks vs')
    | none => none
  | _ => frz 6 st v
/-- no ref within -/
def pureV (v : Val) : Bool := match v with
  | .fn _ => true
  | .scr => false
  | .td _ _ vs => (mapO (frz 5 []) vs).isSome
  | _ => (frz 6 [] v).isSome
def pureL : List Val → Bool
  | [] => true
  | x :: r => match pureV x with
    | true => pureL r
    | false => false

/-! the language -/
inductive Op where | add | sub | mul | fdiv | mod
inductive Cm where | eq | ne | lt | le | gt | ge | isIn | notIn | is | isNot
inductive Ty where | int | bool | tuple | str | viewer
inductive Bi where
  | len | lenN | isi (t : Ty) | all | list | listM | tuple | sorted | sortedSet | sortedSetP | listRange | tupleRange | max2 | min2 | max4 | maxL | minL | sum | strI | intS | dictP
inductive Mt where
  | append | extend | pop | index | count | split | join
inductive Tg where
  | one (i : Nat) | many (is : List Nat)
inductive E where
  | var (i : Nat) | lit (v : Val)
  | nil | cons (a r : E)
  | lst (l : E) | lstM (l : E) | dnew (t : Bool) | dput1 (t : Bool) (k v : E) | dlit (ks vs : E)
  | neg (a : E) | bin (o : Op) (a b : E) | cmp (o : Cm) (a b : E) | chain (o p : Cm) (a b c : E)
  | and (a b : E) | or (a b : E) | not (a : E) | ifx (c a b : E)
  | sub (a i : E) | slc (a lo hi : E) | rev (a : E)
  | call (f : Nat) (l : E) | callv (g l : E)
  | bi (b : Bi) (l : E) | meth (m : Mt) (o l : E)
  | lc (own : List Nat) (tg : Tg) (it c e : E)
  | rng (l : E) | zip (a b : E) | keys (a : E)
  | keysI (a : E) | callS (f : Nat) (l : E) | callK (f : Nat) (l : E)
  | dnewN | fld (i : Nat) (a : E) | mk (f : Nat) (l : E) | vmeth (f : Nat) (o l : E) | vfn (f : Nat) (o : E) | vstr (f : Nat) (o : E) | veq (neg : Bool) (f : Nat) (a b : E) | isV (a : E)
inductive S where
  | skip | seq (a b : S) | expr (e : E) | set (i : Nat) (e : E) | setT (tg : Tg) (e : E) | par (i j : Nat) (l : E) | par3 (i j k : Nat) (l : E)
  | put (v d k : E) | aug (i : Nat) (o : Op) (e : E) | ret (e : E) | retN
  | ite (c : E) (a b : S) | whl (c : E) (b : S) | for (tg : Tg) (it : E) (b : S) | brk
  | raise (k : Nat) | try (i : Nat) (b : S)
  | fset (i : Nat) (o e : E) | putN (v d k : E) | frz (i : Nat)

/-! operators -/
def cat (xs ys : List Val) : List Val := xs ++ ys
def rep (xs : List Val) : Nat → List Val
  | 0 => []
  | n + 1 => xs ++ rep xs n
/-- the size that a list, a text may have here (far below the model's own) -/
def lineN : Nat := 100000
def bigI : Int := 1000000000
def smallI (i : Int) : Bool := ilt (-1000000000000) i && ilt i 1000000000000
def items (st : Sto) (v : Val) : Option (List Val) := match v with
  | .tl xs => some xs
  | .ref n => match st[n]? with
    | some (.lst xs) => some xs
    | _ => none
  | _ => none
def repV (xs : List Val) (b : Val) (st : Sto) : Rs := match b with
  | .int (.ofNat k) => match Nat.ble (xs.length * k) lineN && Nat.ble k lineN with
    | true => .ok (.tl (rep xs k)) st
    | false => .no
  | _ => .no
def binV (o : Op) (a b : Val) (st : Sto) : Rs := match o with
  | .add => match a with
    | .int i => match b with
      | .int j => .ok (.int (i + j)) st
      | _ => .no
    | .str x => match b with
      | .str y => match Nat.ble (x.length + y.length) lineN with
        | true => .ok (.str (x ++ y)) st
        | false => .no
      | _ => .no
    | .tup (x :: xs) => match b with
      | .tup ys => match Nat.ble (xs.length + ys.length) lineN with
        | true => .ok (.tup (x :: xs ++ ys)) st
        | false => .no
      | _ => .no
    | .tup [] => match b with
      | .tup ys => match Nat.ble ys.length lineN with
        | true => .ok (.tup ys) st
        | false => .no
      | _ => .no
    | _ => match items st a with
      | some xs => match items st b with
        | some ys => match Nat.ble (xs.length + ys.length) lineN with
          | true => .ok (.tl (xs ++ ys)) st
          | false => .no
        | none => .no
      | none => .no
  | .sub => match a with
    | .int i => match b with
      | .int j => .ok (.int (i - j)) st
      | _ => .no
    | _ => .no
  | .mul => match a with
    | .int i => match b with
      | .int j => match smallI i with
        | true => .ok (.int (i * j)) st
        | false => .no
      | _ => .no
    | _ => match items st a with
      | some xs => repV xs b st
      | none => .no
  | .fdiv => match a with
    | .int i => match b with
      | .int j => match ilt 0 j && ilt j bigI with
        | true => .ok (.int (i / j)) st
        | false => .no
      | _ => .no
    | _ => .no
  | .mod => match a with
    | .int i => match b with
      | .int j => match ilt 0 j with
        | true => .ok (.int (i % j)) st
        | false => .no
      | _ => .no
    | _ => .no
/-- lexicographic order of tuples of ints -/
def ltI : List Val → List Val → Option Bool
  | [], [] => some false
  | [], .int _ :: _ => some true
  | .int _ :: _, [] => some false
  | .int i :: xs, .int j :: ys => match ilt i j with
    | true => some true
    | false => match ieq i j with
      | true => ltI xs ys
      | false => some false
  | _, _ => none
def allInt : List Val → Bool
  | [] => true
  | .int _ :: r => allInt r
  | _ => false
def eqS (st : Sto) (a b : Val) : Option Bool := match frz 6 st a with
  | some x => match frz 6 st b with
    | some y => some (eqv x y)
    | none => none
  | none => none
/-- is a in the data xs -/
def inL (a : Val) : List Val → Bool
  | [] => false
  | x :: r => match eqv x a with
    | true => true
    | false => inL a r
/-- a key of a dict: an int or a text; a tuple of these -/
def isKey : Val → Bool
  | .int _ => true
  | .str _ => true
  | _ => false
def allKey : List Val → Bool
  | [] => true
  | x :: r => match isKey x with
    | true => allKey r
    | false => false
def keyOk (t : Bool) (k : Val) : Bool := match t with
  | false => isKey k
  | true => match k with
    | .tup xs => allKey xs
    | _ => false
/-- keys are compared as they are (an int is no text) -/
def keyEq (a b : Val) : Bool := eqv a b
def dget (k : Val) : List Val → List Val → Option Val
  | x :: ks, v :: vs => match keyEq x k with
    | true => some v
    | false => dget k ks vs
  | _, _ => none
def hasK (k : Val) : List Val → Bool
  | [] => false
  | x :: ks => match keyEq x k with
    | true => true
    | false => hasK k ks
def repl (k w : Val) : List Val → List Val → List Val
  | x :: ks, v :: vs => match keyEq x k with
    | true => w :: repl k w ks vs
    | false => v :: repl k w ks vs
  | _, vs => vs
def dput (k w : Val) (ks vs : List Val) : List Val × List Val := match hasK k ks with
  | true => (ks, repl k w ks vs)
  | false => (ks ++ [k], vs ++ [w])
def memN (c : Nat) : List Nat → Bool
  | [] => false
  | x :: r => match Nat.beq x c with
    | true => true
    | false => memN c r
def flat : Val → Bool
  | .non => true
  | .bl _ => true
  | .int _ => true
  | .str _ => true
  | _ => false
def allFlat : List Val → Bool
  | [] => true
  | x :: r => match flat x with
    | true => allFlat r
    | false => false
def inLst (a : Val) (xs : List Val) (st : Sto) : Option Bool := match frz 5 st a with
  | some v => match mapO (frz 5 st) xs with
    | some ys => some (inL v ys)
    | none => none
  | none => none
def inV (a b : Val) (st : Sto) : Option Bool := match b with
  | .str y => match a with
    | .str [c] => some (memN c y)
    | _ => none
  | .tup xs => match flat a && allFlat xs with
    | true => some (inL a xs)
    | false => none
  | .tl xs => inLst a xs st
  | .td t ks vs => match keyOk t a with
    | true => some (dget a ks vs).isSome
    | false => none
  | .ref n => match st[n]? with
    | some (.lst xs) => inLst a xs st
    | some (.dic t ks vs) => match keyOk t a with
      | true => some (dget a ks vs).isSome
      | false => none
    | _ => none
  | _ => none
def isV (a b : Val) : Option Bool := match b with
  | .non => match a with
    | .non => some true
    | .fn _ => none
    | .scr => none
    | _ => some false
  | .bl y => match a with
    | .bl x => some (x == y)
    | _ => none
  | _ => none
def ob (r : Option Bool) (st : Sto) : Rs := match r with
  | some b => .ok (.bl b) st
  | none => .no
def notO (r : Option Bool) : Option Bool := match r with
  | some b => some (!b)
  | none => none
def cmpV (o : Cm) (a b : Val) (st : Sto) : Rs := match o with
  | .eq => ob (eqS st a b) st
  | .ne => ob (notO (eqS st a b)) st
  | .lt => match a with
    | .int i => match b with
      | .int j => .ok (.bl (ilt i j)) st
      | _ => .no
    | .tup xs => match b with
      | .tup ys => match allInt xs && allInt ys with
        | true => ob (ltI xs ys) st
        | false => .no
      | _ => .no
    | _ => .no
  | .le => match a with
    | .int i => match b with
      | .int j => .ok (.bl (ile i j)) st
      | _ => .no
    | _ => .no
  | .gt => match a with
    | .int i => match b with
      | .int j => .ok (.bl (ilt j i)) st
      | _ => .no
    | _ => .no
  | .ge => match a with
    | .int i => match b with
      | .int j => .ok (.bl (ile j i)) st
      | _ => .no
    | _ => .no
  | .isIn => ob (inV a b st) st
  | .notIn => ob (notO (inV a b st)) st
  | .is => ob (isV a b) st
  | .isNot => ob (notO (isV a b)) st

/-! places in a sequence -/
/-- the place of index i in n items -/
def ixn (n : Nat) (i : Int) : Option Nat := match i with
  | .ofNat k => match Nat.blt k n with
    | true => some k
    | false => none
  | .negSucc k => match Nat.blt k n with
    | true => some (n - (k + 1))
    | false => none
def itemV (xs : List Val) (i : Int) : Option Val := match ixn xs.length i with
  | some k => xs[k]?
  | none => none
def subV (a i : Val) (st : Sto) : Rs := match a with
  | .tup xs => match i with
    | .int k => match itemV xs k with
      | some v => .ok v st
      | none => .no
    | _ => .no
  | .tl xs => match i with
    | .int k => match itemV xs k with
      | some v => .ok v st
      | none => .no
    | _ => .no
  | .str s => match i with
    | .int k => match ixn s.length k with
      | some j => match s[j]? with
        | some c => .ok (.str [c]) st
        | none => .no
      | none => .no
    | _ => .no
  | .td t ks vs => match keyOk t i with
    | true => match dget i ks vs with
      | some v => .ok v st
      | none => .no
    | false => .no
  | .ref n => match st[n]? with
    | some (.lst xs) => match i with
      | .int k => match itemV xs k with
        | some v => .ok v st
        | none => .no
      | _ => .no
    | some (.dic t ks vs) => match keyOk t i with
      | true => match dget i ks vs with
        | some v => .ok v st
        | none => .no
      | false => .no
    | some (.fdi ks vs) => match keyOk false i with
      | true => match dget i ks vs with
        | some v => .ok v st
        | none => .no
      | false => .no
    | _ => .no
  | _ => .no
/-- an end of a slice -/
def cutI (n : Nat) (d : Nat) (v : Val) : Option Nat := match v with
  | .non => some d
  | .int (.ofNat k) => some (min k n)
  | .int (.negSucc k) => some (n - (k + 1))
  | _ => none
def cut {α : Type} (xs : List α) (lo hi : Nat) : List α := (xs.drop lo).take (hi - lo)
def slcV (a lo hi : Val) (st : Sto) : Rs := match a with
  | .tup xs => match cutI xs.length 0 lo with
    | some i => match cutI xs.length xs.length hi with
      | some j => .ok (.tup (cut xs i j)) st
      | none => .no
    | none => .no
  | .str xs => match cutI xs.length 0 lo with
    | some i => match cutI xs.length xs.length hi with
      | some j => .ok (.str (cut xs i j)) st
      | none => .no
    | none => .no
  | _ => match items st a with
    | some xs => match cutI xs.length 0 lo with
      | some i => match cutI xs.length xs.length hi with
        | some j => .ok (.tl (cut xs i j)) st
        | none => .no
      | none => .no
    | none => .no
def revV (a : Val) (st : Sto) : Rs := match items st a with
  | some xs => .ok (.tl xs.reverse) st
  | none => .no

/-! built-ins -/
/-- a before b: ints, tuples of ints -/
def vlt (a b : Val) : Bool := match a with
  | .int i => match b with
    | .int j => ilt i j
    | _ => false
  | .tup xs => match b with
    | .tup ys => match ltI xs ys with
      | some c => c
      | none => false
    | _ => false
  | _ => false
def insV (a : Val) : List Val → List Val
  | [] => [a]
  | x :: r => match vlt a x with
    | true => a :: x :: r
    | false => x :: insV a r
def sortV : List Val → List Val
  | [] => []
  | x :: r => insV x (sortV r)
/-- .. once each -/
def insU (a : Val) : List Val → List Val
  | [] => [a]
  | x :: r => match vlt a x with
    | true => a :: x :: r
    | false => match vlt x a with
      | true => x :: insU a r
      | false => x :: r
def sortU : List Val → List Val
  | [] => []
  | x :: r => insU x (sortU r)
/-- all ints, or all pairs of ints -/
def pairI : List Val → Bool
  | [] => true
  | .tup [.int _, .int _] :: r => pairI r
  | _ => false
def sortable (xs : List Val) : Bool := allInt xs || pairI xs
def upto (lo : Int) : Nat → List Val
  | 0 => []
  | n + 1 => .int lo :: upto (lo + 1) n
def allB : List Val → Option Bool
  | [] => some true
  | .bl b :: r => match allB r with
    | some c => some (b && c)
    | none => none
  | _ => none
def sumI : List Val → Option Int
  | [] => some 0
  | .int i :: r => match sumI r with
    | some s => some (i + s)
    | none => none
  | _ => none
def maxI : List Val → Option Int
  | [] => none
  | [.int i] => some i
  | .int i :: r => match maxI r with
    | some s => some (if ilt i s then s else i)
    | none => none
  | _ => none
def minI : List Val → Option Int
  | [] => none
  | [.int i] => some i
  | .int i :: r => match minI r with
    | some s => some (if ilt s i then s else i)
    | none => none
  | _ => none
/-- the text of a small int -/
def digit (n : Nat) : List Nat := match Nat.blt n 10 with
  | true => [48 + n]
  | false => [48 + n / 10, 48 + n % 10]
def strI (i : Int) : Option (List Nat) := match i with
  | .ofNat n => match Nat.blt n 100 with
    | true => some (digit n)
    | false => none
  | .negSucc n => match Nat.blt n 99 with
    | true => some (45 :: digit (n + 1))
    | false => none
/-- the int of a text: one sign, perhaps with a minus -/
def intS (s : List Nat) : Option Int := match s with
  | [c] => match Nat.ble 48 c && Nat.ble c 57 with
    | true => some (.ofNat (c - 48))
    | false => none
  | [45, c] => match Nat.ble 49 c && Nat.ble c 57 with
    | true => some (.negSucc (c - 49))
    | false => none
  | _ => none
def isiV (t : Ty) (v : Val) : Option Bool := match v with
  | .non => some false
  | .bl _ => match t with
    | .int => some true
    | .bool => some true
    | _ => some false
  | .int _ => match t with
    | .int => some true
    | _ => some false
  | .str _ => match t with
    | .str => some true
    | _ => some false
  | .tup _ => match t with
    | .tuple => some true
    | _ => some false
  | .tl _ => some false
  | _ => none
def seqOf (st : Sto) (v : Val) : Option (List Val) := match v with
  | .tup xs => some xs
  | _ => items st v
/-- what sorted, tuple, list take: a list, a tuple, the keys of a dict -/
def walkOf (st : Sto) (v : Val) : Option (List Val) := match v with
  | .tup xs => some xs
  | .td true ks _ => some ks
  | .ref n => match st[n]? with
    | some (.lst xs) => some xs
    | some (.dic true ks _) => some ks
    | _ => none
  | .tl xs => some xs
  | _ => none
def pairs : List Val → Option (List Val × List Val)
  | [] => some ([], [])
  | .tup [k, v] :: r => match pairs r with
    | some (ks, vs) => some (dput k v ks vs)
    | none => none
  | _ => none
/-- dict(pairs): from the left -/
def dfold : List Val → List Val → List Val → Option (List Val × List Val)
  | [], ks, vs => some (ks, vs)
  | .tup [k, v] :: r, ks, vs => match keyOk true k with
    | true => match dput k v ks vs with
      | (ks', vs') => dfold r ks' vs'
    | false => none
  | _, _, _ => none
def biV (b : Bi) (as : List Val) (st : Sto) : Rs := match as with
  | [a] => match b with
    | .len => match a with
      | .str s => match Nat.ble s.length lineN with
        | true => .ok (.int (.ofNat s.length)) st
        | false => .no
      | .td _ ks _ => .ok (.int (.ofNat ks.length)) st
      | .tup xs => .ok (.int (.ofNat xs.length)) st
      | .ref n => match st[n]? with
        | some (.lst xs) => .ok (.int (.ofNat xs.length)) st
        | some (.dic _ ks _) => .ok (.int (.ofNat ks.length)) st
        | _ => .no
      | .tl xs => .ok (.int (.ofNat xs.length)) st
      | _ => .no
    | .lenN => match a with
      | .ref n => match st[n]? with
        | some (.dcn ks _) => match Nat.ble ks.length lineN with
          | true => .ok (.int (.ofNat ks.length)) st
          | false => .no
        | _ => .no
      | _ => .no
    | .isi t => ob (isiV t a) st
    | .all => match items st a with
      | some xs => ob (allB xs) st
      | none => .no
    | .list => match seqOf st a with
      | some xs => .ok (.tl xs) st
      | none => .no
    | .listM => match seqOf st a with
      | some xs => .ok (.ref st.length) (st ++ [.lst xs])
      | none => .no
    | .tuple => match seqOf st a with
      | some xs => .ok (.tup xs) st
      | none => .no
    | .sorted => match walkOf st a with
      | some xs => match sortable xs with
        | true => .ok (.tl (sortV xs)) st
        | false => .no
      | none => .no
    | .sortedSet => match items st a with
      | some xs => match allInt xs && Nat.blt xs.length 60 with
        | true => .ok (.tl (sortU xs)) st
        | false => .no
      | none => .no
    | .sortedSetP => match items st a with
      | some xs => match pairI xs && Nat.blt xs.length 60 with
        | true => .ok (.tl (sortU xs)) st
        | false => .no
      | none => .no
    | .listRange => match a with
      | .int (.ofNat k) => match Nat.ble k 1000 with
        | true => .ok (.tl (upto 0 k)) st
        | false => .no
      | _ => .no
    | .tupleRange => match a with
      | .int (.ofNat k) => match Nat.ble k 1000 with
        | true => .ok (.tup (upto 0 k)) st
        | false => .no
      | _ => .no
    | .maxL => match a with
      | .tup xs => match xs with
        | [.int i, .int j] => .ok (.int (if ilt i j then j else i)) st
        | _ => .no
      | _ => match items st a with
        | some xs => match maxI xs with
          | some i => .ok (.int i) st
          | none => .no
        | none => .no
    | .minL => match a with
      | .tup xs => match xs with
        | [.int i, .int j] => .ok (.int (if ilt j i then j else i)) st
        | _ => .no
      | _ => match items st a with
        | some xs => match minI xs with
          | some i => .ok (.int i) st
          | none => .no
        | none => .no
    | .sum => match seqOf st a with
      | some xs => match sumI xs with
        | some i => .ok (.int i) st
        | none => .no
      | none => .no
    | .strI => match a with
      | .int i => match strI i with
        | some s => .ok (.str s) st
        | none => .no
      | .str s => .ok (.str s) st
      | _ => .no
    | .intS => match a with
      | .str s => match intS s with
        | some i => .ok (.int i) st
        | none => .no
      | _ => .no
    | .dictP => match items st a with
      | some xs => match dfold xs [] [] with
        | some (ks, vs) => .ok (.td true ks vs) st
        | none => .no
      | none => .no
    | _ => .no
  | [a, b'] => match b with
    | .max2 => match a with
      | .int i => match b' with
        | .int j => .ok (.int (if ilt i j then j else i)) st
        | _ => .no
      | _ => .no
    | .min2 => match a with
      | .int i => match b' with
        | .int j => .ok (.int (if ilt j i then j else i)) st
        | _ => .no
      | _ => .no
    | _ => .no
  | [_, _, _, _] => match b with
    | .max4 => match maxI as with
      | some i => .ok (.int i) st
      | none => .no
    | _ => .no
  | _ => .no
/-- the first place of a -/
def indexL (a : Val) : List Val → Nat → Option Nat
  | [], _ => none
  | x :: r, k => match eqv x a with
    | true => some k
    | false => indexL a r (k + 1)
def countL (a : Val) : List Val → Nat
  | [] => 0
  | x :: r => match eqv x a with
    | true => countL a r + 1
    | false => countL a r
def lastV (xs : List Val) : Option Val := xs[xs.length - 1]?
def splitC (c : Nat) : List Nat → List Nat → List Val
  | [], acc => [.str acc]
  | x :: r, acc => match Nat.beq x c with
    | true => .str acc :: splitC c r []
    | false => splitC c r (acc ++ [x])
def joinC (sep : List Nat) : List Val → Option (List Nat)
  | [] => some []
  | [.str s] => some s
  | .str s :: r => match joinC sep r with
    | some t => some (s ++ sep ++ t)
    | none => none
  | _ => none
def methV (m : Mt) (o : Val) (as : List Val) (st : Sto) : Rs := match o with
  | .ref n => match st[n]? with
    | some (.lst xs) => match m with
      | .append => match as with
        | [a] => match Nat.ble xs.length lineN with
          | true => .ok .non (st.set n (.lst (xs ++ [a])))
          | false => .no
        | _ => .no
      | .extend => match as with
        | [a] => match items st a with
          | some ys => match Nat.ble (xs.length + ys.length) lineN with
            | true => match a with
              | .tl _ => .ok .non (st.set n (.lst (xs ++ ys)))
              | _ => .no
            | false => .no
          | none => .no
        | _ => .no
      | .pop => match as with
        | [] => match xs[xs.length - 1]? with
          | some v => .ok v (st.set n (.lst xs.dropLast))
          | none => .no
        | _ => .no
      | _ => .no
    | _ => .no
  | .tl xs => match m with
    | .index => match as with
      | [a] => match frz 5 st a with
        | some v => match mapO (frz 5 []) xs with
          | some ys => match indexL v ys 0 with
            | some k => .ok (.int (.ofNat k)) st
            | none => .no
          | none => .no
        | none => .no
      | _ => .no
    | _ => .no
  | .str s => match m with
    | .split => match as with
      | [.str [c]] => match Nat.ble (s.length + 2) lineN with
        | true => .ok (.tl (splitC c s [])) st
        | false => .no
      | _ => .no
    | .join => match as with
      | [a] => match seqOf st a with
        | some xs => match joinC s xs with
          | some t => match Nat.ble (xs.length) 1000 && Nat.ble t.length lineN with
            | true => .ok (.str t) st
            | false => .no
          | none => .no
        | none => .no
      | _ => .no
    | _ => .no
  | _ => .no

/-- is y of the kind that has the method -/
def mkd (m : Mt) (y : Val) (st : Sto) : Bool := match y with
  | .ref n => match st[n]? with
    | some (.lst _) => match m with
      | .append => true
      | .extend => true
      | .pop => true
      | _ => false
    | _ => false
  | .tl _ => match m with
    | .index => true
    | _ => false
  | .str _ => match m with
    | .split => true
    | .join => true
    | _ => false
  | _ => false
/-! runs -/
/-- what a loop walks: data, or a list of the store as it stands -/
inductive Src where
  | fz (xs : List Val) | lv (n : Nat)
def Src.get (s : Src) (i : Nat) (st : Sto) : Option (Option Val) := match s with
  | .fz xs => some xs[i]?
  | .lv n => match st[n]? with
    | some (.lst xs) => some xs[i]?
    | _ => none
def srcOf (st : Sto) (v : Val) : Option (Src × Nat) := match v with
  | .tup xs => some (.fz xs, xs.length)
  | .tl xs => some (.fz xs, xs.length)
  | .ref n => match st[n]? with
    | some (.lst xs) => some (.lv n, xs.length)
    | _ => none
  | _ => none
/-- a key that is a tuple of places -/
def keyN : Val → Bool
  | .tup xs => pairI xs
  | _ => false
/-- the fields of an instance -/
def insOf (st : Sto) (v : Val) : Option (Nat × List Val) := match v with
  | .ref n => match st[n]? with
    | some (.ins fs) => some (n, fs)
    | _ => none
  | _ => none
/-- is it an instance -/
def isIns (st : Sto) (v : Val) : Option Bool := match v with
  | .ref n => match st[n]? with
    | some (.ins _) => some true
    | some (.lst _) => some false
    | _ => none
  | .tl _ => some false
  | .non => some false
  | _ => none
/-- the field i is set; fields are made in their order -/
def fput (fs : List Val) (i : Nat) (v : Val) : Option (List Val) := match Nat.blt i fs.length with
  | true => some (fs.set i v)
  | false => match Nat.beq i fs.length && Nat.blt i 4 with
    | true => some (fs ++ [v])
    | false => none
def setL : List Nat → List Val → Env → Option Env
  | [], [], env => some env
  | i :: is, v :: vs, env => setL is vs (env.set i (some v))
  | _, _, _ => none
def asg (tg : Tg) (v : Val) (env : Env) : Option Env := match tg with
  | .one i => some (env.set i (some v))
  | .many is => match v with
    | .tup vs => setL is vs env
    | _ => none
def wipeE (env : Env) : List Nat → Env
  | [] => env
  | v :: vs => (wipeE env vs).set v none
def lcI (tg : Tg) (src : Src) (cond elt : Env → Sto → Rs) (env : Env) : Nat → Nat → Sto → List Val → Rs
  | 0, _, _, _ => .no
  | k + 1, i, st, acc => match src.get i st with
    | none => .no
    | some none => .ok (.tl acc) st
    | some (some v) => match asg tg v env with
      | none => .no
      | some e => match cond e st with
        | .ok (.bl true) st1 => match elt e st1 with
          | .ok x st2 => match Nat.ble acc.length lineN with
            | true => lcI tg src cond elt env k (i + 1) st2 (acc ++ [x])
            | false => .no
          | _ => .no
        | .ok (.bl false) st1 => lcI tg src cond elt env k (i + 1) st1 acc
        | _ => .no
def forI (tg : Tg) (src : Src) (body : Env → Sto → Ro) : Nat → Nat → Env → Sto → Ro
  | 0, _, _, _ => .no
  | k + 1, i, env, st => match src.get i st with
    | none => .no
    | some none => .nx env st
    | some (some v) => match asg tg v env with
      | none => .no
      | some e => match body e st with
        | .nx e' st' => forI tg src body k (i + 1) e' st'
        | .bk e' st' => .nx e' st'
        | .ret v st' => .ret v st'
        | .exc x st' => .exc x st'
        | .no => .no
def whlI (c : Env → Sto → Rs) (body : Env → Sto → Ro) : Nat → Env → Sto → Ro
  | 0, _, _ => .no
  | k + 1, env, st => match c env st with
    | .ok (.bl true) st1 => match body env st1 with
      | .nx e' st' => whlI c body k e' st'
      | .bk e' st' => .nx e' st'
      | .ret v st' => .ret v st'
      | .exc x st' => .exc x st'
      | .no => .no
    | .ok (.bl false) st1 => .nx env st1
    | .exc x st1 => .exc x st1
    | _ => .no
def zipV : List Val → List Val → List Val
  | x :: xs, y :: ys => .tup [x, y] :: zipV xs ys
  | _, _ => []
def zipW (x y : Val) (st : Sto) : Rs := match x with
  | .tl xs => match y with
    | .tl ys => .ok (.tl (zipV xs ys)) st
    | _ => .no
  | .tup xs => match y with
    | .tup ys => .ok (.tl (zipV xs ys)) st
    | _ => .no
  | _ => .no
/-- lo, lo + c, .. (n of them) -/
def byStep (c : Int) : Int → Nat → List Val
  | _, 0 => []
  | lo, n + 1 => .int lo :: byStep c (lo + c) n
def rngV (as : List Val) : Option (List Val) := match as with
  | [.int j] => match smallI j with
    | true => some (upto 0 j.toNat)
    | false => none
  | [.int i, .int j] => match smallI i && smallI j with
    | true => some (upto i (j - i).toNat)
    | false => none
  | [.int i, .int j, .int c] => match smallI i && smallI j && ilt 0 c && ilt c 1000000 with
    | true => some (byStep c i (if ilt i j then ((j - i - 1) / c + 1).toNat else 0))
    | false => none
  | _ => none
abbrev Calls := Nat → List Val → Sto → Rs
/-- a call: arguments that hold no ref go to a run of its own -/
def callV (C : Calls) (f : Nat) (as : List Val) (st : Sto) : Rs := match pureL as with
  | true => match C f as [] with
    | .ok v st' => match frzD st' v with
      | some w => .ok w st
      | none => .no
    | .exc k _ => .exc k st
    | .no => .no
  | false => C f as st
/-- scalars, and tuples of these -/
def imm1 (v : Val) : Bool := match v with
  | .tup xs => allFlat xs
  | _ => flat v
def allImm : List Val → Bool
  | [] => true
  | x :: r => match imm1 x with
    | true => allImm r
    | false => false
/-- a call by such values, of what comes out: a list of the store -/
def callKV (C : Calls) (f : Nat) (as : List Val) (st : Sto) : Rs := match allImm as with
  | true => match C f as [] with
    | .ok v st' => match frz 6 st' v with
      | some (.tl ys) => match allImm ys with
        | true => .ok (.ref st.length) (st ++ [.lst ys])
        | false => .no
      | _ => .no
    | .exc k _ => .exc k st
    | .no => .no
  | false => .no
def isTup (v : Val) (f : List Val → Sto → Rs) (st : Sto) : Rs := match v with
  | .tup xs => f xs st
  | _ => .no
/-- an end of a slice that is not written -/
def isAbs : E → Bool
  | .lit .non => true
  | _ => false
def evP (b : Bool) (r : Rs) : Rs := match b with
  | true => r
  | false => r.bind fun v st => match v with
    | .int i => .ok (.int i) st
    | _ => .no
/-- what len(o), str(o) give of what __len__, __str__ gave -/
def vfnR (r : Rs) : Rs := match r with
  | .ok (.int (.ofNat k)) st => match Nat.ble k lineN with
    | true => .ok (.int (.ofNat k)) st
    | false => .no
  | _ => .no
def vstrR (r : Rs) : Rs := match r with
  | .ok (.str s) st => .ok (.str s) st
  | _ => .no
/-- what o == x gives of what __eq__ gave -/
def veqR (neg : Bool) (r : Rs) : Rs := match r with
  | .ok (.bl c) st => .ok (.bl (if neg then !c else c)) st
  | _ => .no
def ev (C : Calls) : E → Env → Sto → Rs
  | .var i, env, st => match env[i]? with
    | some (some v) => .ok v st
    | _ => .no
  | .lit v, _, st => .ok v st
  | .nil, _, st => .ok (.tup []) st
  | .cons a r, env, st => (ev C a env st).bind fun x st1 => (ev C r env st1).bind fun y st2 => match y with
    | .tup xs => .ok (.tup (x :: xs)) st2
    | _ => .no
  | .lst l, env, st => (ev C l env st).bind fun x st1 => match x with
    | .tup xs => .ok (.tl xs) st1
    | _ => .no
  | .lstM l, env, st => (ev C l env st).bind fun x st1 => match x with
    | .tup xs => .ok (.ref st1.length) (st1 ++ [.lst xs])
    | _ => .no
  | .dnew t, _, st => .ok (.ref st.length) (st ++ [.dic t [] []])
  | .dput1 t k v, env, st => (ev C k env st).bind fun x st1 => (ev C v env st1).bind fun y st2 => match keyOk t x with
    | true => .ok (.ref st2.length) (st2 ++ [.dic t [x] [y]])
    | false => .no
  | .dlit ks vs, env, st => (ev C ks env st).bind fun x st1 => (ev C vs env st1).bind fun y st2 => match x with
    | .tup a => match y with
      | .tup b => .ok (.td false a b) st2
      | _ => .no
    | _ => .no
  | .neg a, env, st => (ev C a env st).bind fun x st1 => match x with
    | .int i => .ok (.int (-i)) st1
    | _ => .no
  | .bin o a b, env, st => (ev C a env st).bind fun x st1 => (ev C b env st1).bind fun y st2 => binV o x y st2
  | .cmp o a b, env, st => (ev C a env st).bind fun x st1 => (ev C b env st1).bind fun y st2 => cmpV o x y st2
  | .chain o p a b c, env, st => (ev C a env st).bind fun x st1 => (ev C b env st1).bind fun y st2 => (cmpV o x y st2).bind fun r st3 => match r with
    | .bl true => (ev C c env st3).bind fun z st4 => cmpV p y z st4
    | .bl false => .ok (.bl false) st3
    | _ => .no
  | .and a b, env, st => (ev C a env st).bind fun x st1 => match x with
    | .bl true => ev C b env st1
    | .bl false => .ok (.bl false) st1
    | _ => .no
  | .or a b, env, st => (ev C a env st).bind fun x st1 => match x with
    | .bl true => .ok (.bl true) st1
    | .bl false => ev C b env st1
    | _ => .no
  | .not a, env, st => (ev C a env st).bind fun x st1 => match x with
    | .bl b => .ok (.bl (!b)) st1
    | _ => .no
  | .ifx c a b, env, st => (ev C c env st).bind fun x st1 => match x with
    | .bl true => ev C a env st1
    | .bl false => ev C b env st1
    | _ => .no
  | .sub a i, env, st => (ev C a env st).bind fun x st1 => (ev C i env st1).bind fun y st2 => subV x y st2
  | .slc a lo hi, env, st => (ev C a env st).bind fun x st1 => (evP (isAbs lo) (ev C lo env st1)).bind fun y st2 => (evP (isAbs hi) (ev C hi env st2)).bind fun z st3 => slcV x y z st3
  | .rev a, env, st => (ev C a env st).bind fun x st1 => revV x st1
  | .call f l, env, st => (ev C l env st).bind fun x st1 => match x with
    | .tup as => callV C f as st1
    | _ => .no
  | .callv g l, env, st => (ev C g env st).bind fun y st1 => match y with
    | .fn f => (ev C l env st1).bind fun x st2 => match x with
      | .tup as => callV C f as st2
      | _ => .no
    | _ => .no
  | .bi b l, env, st => (ev C l env st).bind fun x st1 => match x with
    | .tup as => biV b as st1
    | _ => .no
  | .meth m o l, env, st => (ev C o env st).bind fun y st1 => match mkd m y st1 with
    | true => (ev C l env st1).bind fun x st2 => match x with
      | .tup as => methV m y as st2
      | _ => .no
    | false => .no
  | .lc own tg it c e, env, st => (ev C it env st).bind fun x st1 => match srcOf st1 x with
    | some (src, n) => lcI tg src (ev C c) (ev C e) (wipeE env own) (n + 1) 0 st1 []
    | none => .no
  | .rng l, env, st => (ev C l env st).bind fun x st1 => match x with
    | .tup as => match rngV as with
      | some xs => .ok (.tl xs) st1
      | none => .no
    | _ => .no
  | .zip a b, env, st => (ev C a env st).bind fun x st1 => (ev C b env st1).bind fun y st2 => zipW x y st2
  | .keys a, env, st => (ev C a env st).bind fun x st1 => match x with
    | .td true ks _ => match pairI ks with
      | true => .ok (.tl ks) st1
      | false => .no
    | _ => .no
  | .keysI a, env, st => (ev C a env st).bind fun x st1 => match x with
    | .ref n => match st1[n]? with
      | some (.fdi ks _) => match allInt ks with
        | true => .ok (.tl ks) st1
        | false => .no
      | _ => .no
    | _ => .no
  | .callS f l, env, st => (ev C l env st).bind fun x st1 => match x with
    | .tup as => C f as st1
    | _ => .no
  | .callK f l, env, st => (ev C l env st).bind fun x st1 => match x with
    | .tup as => callKV C f as st1
    | _ => .no
  | .dnewN, _, st => .ok (.ref st.length) (st ++ [.dcn [] []])
  | .fld i a, env, st => (ev C a env st).bind fun x st1 => match insOf st1 x with
    | some (_, fs) => match fs[i]? with
      | some v => .ok v st1
      | none => .no
    | none => .no
  | .mk f l, env, st => (ev C l env st).bind fun x st1 => match x with
    | .tup as => (C f (.ref st1.length :: as) (st1 ++ [.ins []])).bind fun v st2 => match v with
      | .non => .ok (.ref st1.length) st2
      | _ => .no
    | _ => .no
  | .vmeth f o l, env, st => (ev C o env st).bind fun y st1 => match insOf st1 y with
    | some _ => (ev C l env st1).bind fun x st2 => match x with
      | .tup as => match insOf st2 y with
        | some _ => C f (y :: as) st2
        | none => .no
      | _ => .no
    | none => .no
  | .vfn f o, env, st => (ev C o env st).bind fun y st1 => match insOf st1 y with
    | some _ => vfnR (C f [y] st1)
    | none => .no
  | .vstr f o, env, st => (ev C o env st).bind fun y st1 => match insOf st1 y with
    | some _ => vstrR (C f [y] st1)
    | none => .no
  | .veq neg f a b, env, st => (ev C a env st).bind fun x st1 => (ev C b env st1).bind fun y st2 => match insOf st2 x with
    | some _ => match isIns st2 y with
      | some _ => veqR neg (C f [x, y] st2)
      | none => .no
    | none => .no
  | .isV a, env, st => (ev C a env st).bind fun x st1 => ob (isIns st1 x) st1
/-- turns that a while may take -/
def fuel : Nat := 1000
def ex (C : Calls) : S → Env → Sto → Ro
  | .skip, env, st => .nx env st
  | .seq a b, env, st => match ex C a env st with
    | .nx e' st' => ex C b e' st'
    | .ret v st' => .ret v st'
    | .bk e' st' => .bk e' st'
    | .exc x st' => .exc x st'
    | .no => .no
  | .expr e, env, st => (ev C e env st).run fun _ st1 => .nx env st1
  | .set i e, env, st => (ev C e env st).run fun v st1 => .nx (env.set i (some v)) st1
  | .setT tg e, env, st => (ev C e env st).run fun v st1 => match asg tg v env with
    | some e' => .nx e' st1
    | none => .no
  | .par i j l, env, st => (ev C l env st).run fun v st1 => match v with
    | .tup [x, y] => .nx ((env.set i (some x)).set j (some y)) st1
    | _ => .no
  | .par3 i j k l, env, st => (ev C l env st).run fun v st1 => match v with
    | .tup [x, y, z] => .nx (((env.set i (some x)).set j (some y)).set k (some z)) st1
    | _ => .no
  | .put v d k, env, st => (ev C v env st).run fun z st1 => (ev C d env st1).run fun x st2 => (ev C k env st2).run fun y st3 => match x with
    | .ref n => match st3[n]? with
      | some (.dic t ks vs) => match keyOk t y && Nat.ble ks.length lineN with
        | true => .nx env (st3.set n (.dic t (dput y z ks vs).1 (dput y z ks vs).2))
        | false => .no
      | _ => .no
    | _ => .no
  | .putN v d k, env, st => (ev C v env st).run fun z st1 => (ev C d env st1).run fun x st2 => (ev C k env st2).run fun y st3 => match x with
    | .ref n => match st3[n]? with
      | some (.dcn ks vs) => match keyN y && Nat.ble ks.length lineN with
        | true => .nx env (st3.set n (.dcn (dput y z ks vs).1 (dput y z ks vs).2))
        | false => .no
      | _ => .no
    | _ => .no
  | .aug i o e, env, st => match env[i]? with
    | some (some x) => (ev C e env st).run fun y st1 => match x with
      | .int _ => (binV o x y st1).run fun z st2 => .nx (env.set i (some z)) st2
      | _ => .no
    | _ => .no
  | .ret e, env, st => (ev C e env st).run fun v st1 => .ret v st1
  | .retN, _, st => .ret .non st
  | .ite c a b, env, st => (ev C c env st).run fun x st1 => match x with
    | .bl true => ex C a env st1
    | .bl false => ex C b env st1
    | _ => .no
  | .whl c b, env, st => whlI (ev C c) (ex C b) fuel env st
  | .for tg it b, env, st => (ev C it env st).run fun x st1 => match srcOf st1 x with
    | some (src, n) => forI tg src (ex C b) (n + 1) 0 env st1
    | none => .no
  | .brk, env, st => .bk env st
  | .raise k, _, st => .exc k st
  | .frz i, env, st => match env[i]? with
    | some (some (.ref n)) => match st[n]? with
      | some (.dic false ks vs) => .nx env (st.set n (.fdi ks vs))
      | _ => .no
    | _ => .no
  | .fset i o e, env, st => (ev C e env st).run fun v st1 => (ev C o env st1).run fun x st2 => match insOf st2 x with
    | some (n, fs) => match fput fs i v with
      | some fs' => .nx env (st2.set n (.ins fs'))
      | none => .no
    | none => .no
  | .try i b, env, st => match Nat.blt i env.length with
    | true => match ex C b env st with
      | .exc k st' => match Nat.blt k 8 with
        | true => .ret (.tup [.str [114, 97, 105, 115, 101, 100], .int (.ofNat k)]) st'
        | false => .no
      | .nx e' st' => .nx e' st'
      | .ret v st' => .ret v st'
      | .bk e' st' => .bk e' st'
      | .no => .no
    | false => .no
/-- a def of the table: parameters, slots, body; or the draw -/
inductive Fd where
  | df (np ns : Nat) (b : S) | draw | gap
def start (np ns : Nat) (as : List Val) : Env := as.map some ++ List.replicate (ns - np) none
def drawV (dr : Nat → Int → Int) (as : List Val) (st : Sto) : Rs := match as with
  | [.scr, .ref n, .int m] => match st[n]? with
    | some (.lst xs) => match ilt 0 m && Nat.ble xs.length 1000 && ilt m 1000 with
      | true => .ok (.int (dr (xs.length + 1) m)) (st.set n (.lst (xs ++ [.int 0])))
      | false => .no
    | _ => .no
  | _ => .no
def fin (r : Ro) : Rs := match r with
  | .ret v st => .ok v st
  | .nx _ st => .ok .non st
  | .exc k st => .exc k st
  | _ => .no
def run (T : List Fd) (dr : Nat → Int → Int) : Nat → Calls
  | 0, _, _, _ => .no
  | d + 1, f, as, st => match T[f]? with
    | some (.df np ns b) => match Nat.beq as.length np with
      | true => fin (ex (run T dr d) b (start np ns as) st)
      | false => .no
    | some .draw => drawV dr as st
    | some .gap => .no
    | none => .no
/-- a run that comes to nothing: what stands for text that is never reached -/
def nulE : E := .neg (.lit .non)
def nulS : S := .expr nulE
end G

end

section
/-! What a value of the evaluator says of the layer's values and heap. -/
namespace G
open PySem PySem.Spec PyProof.Rows L2
abbrev St := L2.St
/-- where the text's things stand -/
structure Wd where
  K : PySem.W.Frag
  fa : Nat → Addr
  xa : Nat → Addr
  sa : Addr
  ns : List Int
  va : Addr
  P : Program
  w : World
/-- where the store's objects stand; what no value of ours may name -/
structure Pl where
  at_ : Nat → Option Addr
  hid : Addr → Prop
instance : CoeFun Pl (fun _ => Nat → Option Addr) := ⟨Pl.at_⟩
/-- a is not one of the store's places -/
def Out (r : Pl) (a : Addr) : Prop := ∀ n, r n ≠ some a
def Fre (r : Pl) (a : Addr) : Prop := Out r a ∧ ¬ r.hid a
def sOf (s : List Nat) : Str := ⟨s.toArray⟩
/-- plain signs -/
def Asc (s : List Nat) : Prop := s.length ≤ 100000 ∧ ∀ c ∈ s, c < 128
def toK : Val → Option Key
  | .int i => some (.inl i)
  | .str s => some (.inr (sOf s))
  | _ => none
def toKs : List Val → Option (List Key)
  | [] => some []
  | x :: r => match toK x with
    | some k => match toKs r with
      | some s => some (k :: s)
      | none => none
    | none => none
/-- the keys of a dict -/
def RelK : List Val → List Key → Prop
  | [], ks => ks = []
  | x :: r, ks => ∃ k s, ks = k :: s ∧ toK x = some k ∧ RelK r s
def RelT : List Val → List (List Key) → Prop
  | [], ks => ks = []
  | x :: r, ks => ∃ k s xs, ks = k :: s ∧ x = .tup xs ∧ toKs xs = some k ∧ RelT r s
/-- the script as a thing of the module -/
def InK (W : Wd) : Prop := ∃ (o : Obj) (its : Array Value) (n : Nat), W.K.lookup W.sa = some o ∧ o.cls = .type "list" ∧ o.dict = none ∧ o.data = .seq its n ∧ its.size ≤ sizeLine ∧ Vals (W.ns.map V.int) its.toList
mutual
def Rel (W : Wd) (r : Pl) (H : Hp) : Val → V → Prop
  | .non, v => v = .non
  | .bl b, v => v = .bl b
  | .int i, v => v = .int i
  | .str s, v => v = .str (sOf s) ∧ Asc s
  | .tup xs, v => ∃ a ys, v = .ref a ∧ H a = some (.tup ys) ∧ RelL W r H xs ys
  | .tl xs, v => ∃ a ys, v = .ref a ∧ Fre r a ∧ H a = some (.lst ys) ∧ RelL W r H xs ys
  | .td t ks vs, v => ∃ a, v = .ref a ∧ Fre r a ∧ match t with
    | false => ∃ kvs : List (Key × V), (∃ od, H a = some (.frz od (.dK kvs))) ∧ RelK ks (kvs.map (·.1)) ∧ RelL W r H vs (kvs.map (·.2))
    | true => ∃ kvs : List (List Key × V), (∃ od, H a = some (.frz od (.dT kvs))) ∧ RelT ks (kvs.map (·.1)) ∧ RelL W r H vs (kvs.map (·.2))
  | .ref n, v => ∃ a, v = .ref a ∧ r n = some a
  | .fn f, v => v = .ref (W.fa f)
  | .scr, v => v = .ref W.sa ∧ (InK W ∨ Fre r W.sa ∧ ∃ o, H W.sa = some (.frz o (.lst (W.ns.map V.int))))
def RelL (W : Wd) (r : Pl) (H : Hp) : List Val → List V → Prop
  | [], ys => ys = []
  | x :: xs, ys => ∃ y s, ys = y :: s ∧ Rel W r H x y ∧ RelL W r H xs s
end
/-- a tuple of places as a key -/
def nkOf : List Val → Option (List NestedKey)
  | [] => some []
  | .tup [.int i, .int j] :: r => match nkOf r with
    | some s => some (.tup [.num i, .num j] :: s)
    | none => none
  | _ => none
def nkey : Val → Option NestedKey
  | .tup xs => match nkOf xs with
    | some s => some (.tup s)
    | none => none
  | _ => none
def RelN (W : Wd) (r : Pl) (H : Hp) : List Val → List (NestedKey × Addr × Value) → Prop
  | [], xs => xs = []
  | k :: ks, xs => ∃ x s, xs = x :: s ∧ nkey k = some x.1 ∧ Rel W r H k (.ref x.2.1) ∧ RelN W r H ks s
/-- a dict with such keys, by its one object -/
def ND0 (P : Program) (w : World) (h : Heap) (d : Addr) (xs : List (NestedKey × Addr × Value)) : Prop :=
  ∃ o es ep, h.get? d = some o ∧ o.ExactDict ∧ o.data = .dict es ep ∧ es.toList = xs.map (entryOfKey (nestedKind P w)) ∧ (xs.map (·.1)).Nodup
def NDo (P : Program) (w : World) (d : Addr) (xs : List (NestedKey × Addr × Value)) : HO := .ext fun h => ND0 P w h d xs
/-- the fields of a viewer, in the order in which they are made -/
def fnames : List Str := ["grid", "line", "kinds", "kept"]
/-- a store object, at a -/
def RO (W : Wd) (r : Pl) (H : Hp) (a : Addr) : Ob → Prop
  | .lst xs => ∃ ys, H a = some (.lst ys) ∧ RelL W r H xs ys
  | .dic t ks vs => match t with
    | false => ∃ kvs : List (Key × V), H a = some (.dK kvs) ∧ RelK ks (kvs.map (·.1)) ∧ RelL W r H vs (kvs.map (·.2))
    | true => ∃ kvs : List (List Key × V), H a = some (.dT kvs) ∧ RelT ks (kvs.map (·.1)) ∧ RelL W r H vs (kvs.map (·.2))
  | .dcn ks _ => ∃ xs, H a = some (NDo W.P W.w a xs) ∧ RelN W r H ks xs ∧ (a == sysModules) = false
  | .ins fs => ∃ dx ys, H a = some (.ins W.va dx (fnames.zip ys)) ∧ RelL W r H fs ys ∧ fs.length ≤ 4
  | .fdi ks vs => ∃ (kvs : List (Key × V)) (od : Obj), H a = some (.frz od (.dK kvs)) ∧ RelK ks (kvs.map (·.1)) ∧ RelL W r H vs (kvs.map (·.2))
structure Rep (W : Wd) (r : Pl) (st : Sto) (H : Hp) : Prop where
  inj : ∀ n m a, r n = some a → r m = some a → n = m
  dom : ∀ n a, r n = some a → n < st.length
  obj : ∀ n o, st[n]? = some o → ∃ a, r n = some a ∧ RO W r H a o
  nh : ∀ n a, r n = some a → ¬ r.hid a
  ht : ∀ a, r.hid a → ∃ o, H a = some o
/-- how places and heap go on -/
structure Ext (r : Pl) (H : Hp) (r' : Pl) (H' : Hp) : Prop where
  mono : ∀ n a, r n = some a → r' n = some a
  fresh : ∀ n a, r' n = some a → r n = some a ∨ H a = none
  keep : ∀ a o, H a = some o → Out r a → H' a = some o
  tups : ∀ a ys, H a = some (.tup ys) → H' a = some (.tup ys)
  stay : ∀ a, H' a = none → H a = none
  hup : ∀ a, r.hid a → r'.hid a
  hdn : ∀ a, r'.hid a → r.hid a ∨ H a = none
  frzs : ∀ a o u, H a = some (.frz o u) → H' a = some (.frz o u)
/-- no frozen thing -/
def NF (H : Hp) (a : Addr) : Prop := ∀ o u, H a ≠ some (.frz o u)
theorem nf_lst {H : Hp} {a : Addr} {ys : List V} (h : H a = some (.lst ys)) : NF H a := fun o u z => by rw [h] at z; cases z
theorem nf_dK {H : Hp} {a : Addr} {ys : List (Key × V)} (h : H a = some (.dK ys)) : NF H a := fun o u z => by rw [h] at z; cases z
theorem nf_dT {H : Hp} {a : Addr} {ys : List (List Key × V)} (h : H a = some (.dT ys)) : NF H a := fun o u z => by rw [h] at z; cases z
theorem nf_nd {H : Hp} {a b : Addr} {P : Program} {w : World} {xs : List (NestedKey × Addr × Value)} (h : H a = some (NDo P w b xs)) : NF H a := fun o u z => by rw [h] at z; cases z
theorem nf_ins {H : Hp} {a b dx : Addr} {ys : List (Str × V)} (h : H a = some (.ins b dx ys)) : NF H a := fun o u z => by rw [h] at z; cases z

section
variable {W : Wd} {r r' r'' : Pl} {H H' H'' : Hp}
theorem Ext.refl : Ext r H r H := ⟨fun _ _ h => h, fun _ _ h => .inl h, fun _ _ h _ => h, fun _ _ h => h, fun _ h => h, fun _ h => h, fun _ h => .inl h, fun _ _ _ h => h⟩
theorem Ext.out (x : Ext r H r' H') {a : Addr} {o : HO} (h : H a = some o) (p : Out r a) : Out r' a := fun n e => by
  rcases x.fresh n a e with q | q
  · exact p n q
  · rw [q] at h; cases h
theorem Ext.fre (x : Ext r H r' H') {a : Addr} {o : HO} (h : H a = some o) (p : Fre r a) : Fre r' a := ⟨x.out h p.1, fun e => by
  rcases x.hdn a e with q | q
  · exact p.2 q
  · rw [q] at h; cases h⟩
theorem Ext.trans (x : Ext r H r' H') (y : Ext r' H' r'' H'') : Ext r H r'' H'' where
  mono := fun n a h => y.mono n a (x.mono n a h)
  fresh := fun n a h => by
    rcases y.fresh n a h with q | q
    · exact x.fresh n a q
    · exact .inr (x.stay a q)
  keep := fun a o h p => y.keep a o (x.keep a o h p) (x.out h p)
  tups := fun a ys h => y.tups a ys (x.tups a ys h)
  stay := fun a h => x.stay a (y.stay a h)
  hup := fun a h => y.hup a (x.hup a h)
  hdn := fun a h => by
    rcases y.hdn a h with q | q
    · exact x.hdn a q
    · exact .inr (x.stay a q)
  frzs := fun a o u h => y.frzs a o u (x.frzs a o u h)
theorem Ext.rd (x : Ext r H r' H') {a : Addr} {u : HO} (h : Rd H a u) (p : Fre r a) : Rd H' a u ∧ Fre r' a := by
  rcases h with h | ⟨o, h⟩
  · exact ⟨.inl (x.keep _ _ h p.1), x.fre h p⟩
  · exact ⟨.inr ⟨o, x.keep _ _ h p.1⟩, x.fre h p⟩
mutual
theorem Rel.ext (x : Ext r H r' H') : ∀ (v : Val) {y : V}, Rel W r H v y → Rel W r' H' v y
  | .non, _, h => h
  | .bl _, _, h => h
  | .int _, _, h => h
  | .str _, _, h => h
  | .tup xs, _, ⟨a, ys, e, h, q⟩ => ⟨a, ys, e, x.tups _ _ h, RelL.ext x xs q⟩
  | .tl xs, _, ⟨a, ys, e, p, h, q⟩ => ⟨a, ys, e, x.fre h p, x.keep _ _ h p.1, RelL.ext x xs q⟩
  | .td false ks vs, _, ⟨a, e, p, kvs, ⟨od, h⟩, k, q⟩ => ⟨a, e, x.fre h p, kvs, ⟨od, x.keep _ _ h p.1⟩, k, RelL.ext x vs q⟩
  | .td true ks vs, _, ⟨a, e, p, kvs, ⟨od, h⟩, k, q⟩ => ⟨a, e, x.fre h p, kvs, ⟨od, x.keep _ _ h p.1⟩, k, RelL.ext x vs q⟩
  | .ref n, _, ⟨a, e, h⟩ => ⟨a, e, x.mono _ _ h⟩
  | .fn _, _, h => h
  | .scr, _, ⟨e, .inl k⟩ => ⟨e, .inl k⟩
  | .scr, _, ⟨e, .inr ⟨p, o, h⟩⟩ => ⟨e, .inr ⟨x.fre h p, o, x.keep _ _ h p.1⟩⟩
theorem RelL.ext (x : Ext r H r' H') : ∀ (vs : List Val) {ys : List V}, RelL W r H vs ys → RelL W r' H' vs ys
  | [], _, h => h
  | v :: vs, _, ⟨y, s, e, h, q⟩ => ⟨y, s, e, Rel.ext x v h, RelL.ext x vs q⟩
end
theorem RelN.ext (x : Ext r H r' H') : ∀ (ks : List Val) {xs : List (NestedKey × Addr × Value)}, RelN W r H ks xs → RelN W r' H' ks xs
  | [], _, h => h
  | k :: ks, _, ⟨y, s, e, h, q, t⟩ => ⟨y, s, e, h, Rel.ext x k q, RelN.ext x ks t⟩
theorem RelL.len : ∀ {vs : List Val} {ys : List V}, RelL W r H vs ys → vs.length = ys.length
  | [], _, h => by cases (show _ = [] from h); rfl
  | v :: vs, _, ⟨y, s, e, _, q⟩ => by rw [e, List.length_cons, List.length_cons, RelL.len q]
theorem RelL.get : ∀ {vs : List Val} {ys : List V} {i : Nat} {v : Val}, RelL W r H vs ys → vs[i]? = some v → ∃ y, ys[i]? = some y ∧ Rel W r H v y
  | [], _, _, _, _, h => by simp at h
  | v :: vs, _, 0, w, ⟨y, s, e, h, _⟩, q => by
    simp at q
    rw [e, ← q]
    exact ⟨y, rfl, h⟩
  | v :: vs, _, i + 1, w, ⟨y, s, e, _, h⟩, q => by
    obtain ⟨z, a, b⟩ := RelL.get (i := i) h (by simpa using q)
    rw [e]
    exact ⟨z, by simpa using a, b⟩
theorem RelL.app : ∀ {vs ws : List Val} {ys zs : List V}, RelL W r H vs ys → RelL W r H ws zs → RelL W r H (vs ++ ws) (ys ++ zs)
  | [], _, _, _, h, q => by cases (show _ = [] from h); exact q
  | v :: vs, _, _, _, ⟨y, s, e, h, t⟩, q => by rw [e]; exact ⟨y, s ++ _, rfl, h, RelL.app t q⟩
theorem RelL.one {v : Val} {y : V} (h : Rel W r H v y) : RelL W r H [v] [y] := ⟨y, [], rfl, h, rfl⟩
theorem RelL.take : ∀ {vs : List Val} {ys : List V} (n : Nat), RelL W r H vs ys → RelL W r H (vs.take n) (ys.take n)
  | _, _, 0, _ => by simp [RelL]
  | [], _, n + 1, h => by cases (show _ = [] from h); simp [RelL]
  | v :: vs, _, n + 1, ⟨y, s, e, h, t⟩ => by rw [e]; exact ⟨y, s.take n, rfl, h, RelL.take n t⟩
theorem RelL.drop : ∀ {vs : List Val} {ys : List V} (n : Nat), RelL W r H vs ys → RelL W r H (vs.drop n) (ys.drop n)
  | _, _, 0, h => h
  | [], _, n + 1, h => by cases (show _ = [] from h); simp [RelL]
  | v :: vs, _, n + 1, ⟨y, s, e, h, t⟩ => by rw [e]; exact RelL.drop n t
theorem RelL.rev : ∀ {vs : List Val} {ys : List V}, RelL W r H vs ys → RelL W r H vs.reverse ys.reverse
  | [], _, h => by cases (show _ = [] from h); simp [RelL]
  | v :: vs, _, ⟨y, s, e, h, t⟩ => by
    rw [e, List.reverse_cons, List.reverse_cons]
    exact (RelL.rev t).app (.one h)
/-- the store stays, the heap goes on by an object that is not its own -/
theorem RO.ext (x : Ext r H r H') {a : Addr} (ha : H' a = H a) : ∀ {o : Ob}, RO W r H a o → RO W r H' a o
  | .lst xs, ⟨ys, h, q⟩ => ⟨ys, ha.trans h, RelL.ext x _ q⟩
  | .dic false ks vs, ⟨kvs, h, k, q⟩ => ⟨kvs, ha.trans h, k, RelL.ext x _ q⟩
  | .dic true ks vs, ⟨kvs, h, k, q⟩ => ⟨kvs, ha.trans h, k, RelL.ext x _ q⟩
  | .dcn ks vs, ⟨xs, h, k, z⟩ => ⟨xs, ha.trans h, RelN.ext x _ k, z⟩
  | .ins fs, ⟨dx, ys, h, k, z⟩ => ⟨dx, ys, ha.trans h, RelL.ext x _ k, z⟩
  | .fdi ks vs, ⟨kvs, od, h, k, q⟩ => ⟨kvs, od, ha.trans h, k, RelL.ext x _ q⟩
theorem RO.mono (x : Ext r H r' H') {a : Addr} (ha : H' a = H a) : ∀ {o : Ob}, RO W r H a o → RO W r' H' a o
  | .lst xs, ⟨ys, h, q⟩ => ⟨ys, ha.trans h, RelL.ext x _ q⟩
  | .dic false ks vs, ⟨kvs, h, k, q⟩ => ⟨kvs, ha.trans h, k, RelL.ext x _ q⟩
  | .dic true ks vs, ⟨kvs, h, k, q⟩ => ⟨kvs, ha.trans h, k, RelL.ext x _ q⟩
  | .dcn ks vs, ⟨xs, h, k, z⟩ => ⟨xs, ha.trans h, RelN.ext x _ k, z⟩
  | .ins fs, ⟨dx, ys, h, k, z⟩ => ⟨dx, ys, ha.trans h, RelL.ext x _ k, z⟩
  | .fdi ks vs, ⟨kvs, od, h, k, q⟩ => ⟨kvs, od, ha.trans h, k, RelL.ext x _ q⟩
theorem RO.isome {a : Addr} : ∀ {o : Ob}, RO W r H a o → ∃ u, H a = some u
  | .lst xs, ⟨ys, h, q⟩ => ⟨_, h⟩
  | .dic false ks vs, ⟨kvs, h, k, q⟩ => ⟨_, h⟩
  | .dic true ks vs, ⟨kvs, h, k, q⟩ => ⟨_, h⟩
  | .dcn ks vs, ⟨xs, h, k, z⟩ => ⟨_, h⟩
  | .ins fs, ⟨dx, ys, h, k, z⟩ => ⟨_, h⟩
  | .fdi ks vs, ⟨kvs, od, h, k, q⟩ => ⟨_, h⟩
theorem RO.notup {a : Addr} : ∀ {o : Ob}, RO W r H a o → ∀ ys, H a ≠ some (.tup ys)
  | .lst xs, ⟨_, h, q⟩, _, e => by rw [h] at e; cases e
  | .dic false ks vs, ⟨kvs, h, k, q⟩, _, e => by rw [h] at e; cases e
  | .dic true ks vs, ⟨kvs, h, k, q⟩, _, e => by rw [h] at e; cases e
  | .dcn ks vs, ⟨xs, h, k, z⟩, _, e => by rw [h] at e; cases e
  | .ins fs, ⟨dx, ys, h, k, z⟩, _, e => by rw [h] at e; cases e
  | .fdi ks vs, ⟨kvs, od, h, k, q⟩, _, e => by rw [h] at e; cases e
variable {st : Sto}
theorem Rep.at_ (p : Rep W r st H) {n : Nat} {a : Addr} (h : r n = Option.some a) : ∃ o, st[n]? = Option.some o ∧ RO W r H a o := by
  have hn := p.dom n a h
  obtain ⟨b, hb, q⟩ := p.obj n st[n] (List.getElem?_eq_getElem hn)
  rw [h] at hb
  cases hb
  exact ⟨_, List.getElem?_eq_getElem hn, q⟩
theorem Rep.nfree (p : Rep W r st H) {a : Addr} (h : H a = none) : Fre r a := by
  refine ⟨fun n e => ?_, fun e => ?_⟩
  · obtain ⟨o, _, q⟩ := p.at_ e
    obtain ⟨u, hu⟩ := q.isome
    rw [h] at hu; cases hu
  · obtain ⟨o, q⟩ := p.ht a e
    rw [h] at q; cases q
/-- a new object, not of the store -/
theorem Ext.new {a : Addr} {o : HO} (h : H a = none) : Ext r H r (upd H a o) where
  mono := fun _ _ e => e
  fresh := fun _ _ e => .inl e
  keep := fun b u e _ => by rw [upd_ne (ne_of_none e h)]; exact e
  tups := fun b ys e => by rw [upd_ne (ne_of_none e h)]; exact e
  stay := fun b e => by
    by_cases hb : b = a
    · subst hb; exact h
    · rw [upd_ne hb] at e; exact e
  hup := fun _ e => e
  hdn := fun _ e => .inl e
  frzs := fun b o u e => by rw [upd_ne (ne_of_none e h)]; exact e
theorem Rep.new (p : Rep W r st H) {a : Addr} {o : HO} (h : H a = none) : Rep W r st (upd H a o) where
  inj := p.inj
  dom := p.dom
  obj := fun n o e => by
    obtain ⟨b, hb, q⟩ := p.obj n o e
    obtain ⟨u, hu⟩ := q.isome
    exact ⟨b, hb, RO.ext (Ext.new h) (upd_ne (ne_of_none hu h)) q⟩
  nh := p.nh
  ht := fun b e => by
    obtain ⟨u, hu⟩ := p.ht b e
    exact ⟨u, by rw [upd_ne (ne_of_none hu h)]; exact hu⟩
/-- a new object of the store -/
def plus (r : Pl) (n : Nat) (a : Addr) : Pl := ⟨fun m => if m = n then some a else r m, r.hid⟩
theorem plus_at (r : Pl) (n : Nat) (a : Addr) (m : Nat) : plus r n a m = if m = n then some a else r m := rfl
theorem Ext.plus (p : Rep W r st H) {a : Addr} {o : HO} (h : H a = none) : Ext r H (plus r st.length a) (upd H a o) where
  mono := fun n b e => by
    rw [plus_at]
    rw [if_neg (fun z => by have := p.dom n b e; omega)]
    exact e
  fresh := fun n b e => by
    rw [plus_at] at e
    by_cases hn : n = st.length
    · rw [if_pos hn] at e
      cases e
      exact .inr h
    · rw [if_neg hn] at e
      exact .inl e
  keep := fun b u e _ => by rw [upd_ne (ne_of_none e h)]; exact e
  tups := fun b ys e => by rw [upd_ne (ne_of_none e h)]; exact e
  stay := (Ext.new (r := r) h).stay
  hup := fun _ e => e
  hdn := fun _ e => .inl e
  frzs := (Ext.new (r := r) h).frzs
theorem Rep.plus (p : Rep W r st H) {a : Addr} {u : HO} {o : Ob} (h : H a = none) (q : RO W (plus r st.length a) (upd H a u) a o) : Rep W (plus r st.length a) (st ++ [o]) (upd H a u) where
  inj := fun n m b e f => by
    rw [plus_at] at e f
    by_cases hn : n = st.length
    · rw [if_pos hn] at e
      cases e
      by_cases hm : m = st.length
      · rw [hn, hm]
      · rw [if_neg hm] at f
        exact absurd f ((p.nfree h).1 m)
    · rw [if_neg hn] at e
      by_cases hm : m = st.length
      · rw [if_pos hm] at f
        cases f
        exact absurd e ((p.nfree h).1 n)
      · rw [if_neg hm] at f
        exact p.inj n m b e f
  dom := fun n b e => by
    rw [List.length_append, List.length_singleton]
    rw [plus_at] at e
    by_cases hn : n = st.length
    · omega
    · rw [if_neg hn] at e
      have := p.dom n b e
      omega
  obj := fun n o' e => by
    by_cases hn : n < st.length
    · rw [List.getElem?_append_left hn] at e
      obtain ⟨b, hb, z⟩ := p.obj n o' e
      obtain ⟨v, hv⟩ := z.isome
      refine ⟨b, (Ext.plus (o := u) p h).mono n b hb, RO.mono (Ext.plus p h) (upd_ne (ne_of_none hv h)) z⟩
    · rw [List.getElem?_append_right (by omega)] at e
      have e0 : n - st.length = 0 := by
        cases k : n - st.length with
        | zero => rfl
        | succ j => rw [k] at e; simp at e
      rw [e0] at e
      simp at e
      subst e
      refine ⟨a, ?_, q⟩
      rw [plus_at]
      rw [if_pos (by omega)]
  nh := fun n b e => by
    rw [plus_at] at e
    by_cases hn : n = st.length
    · rw [if_pos hn] at e
      cases e
      exact (p.nfree h).2
    · rw [if_neg hn] at e
      exact p.nh n b e
  ht := fun b e => by
    obtain ⟨v, hv⟩ := p.ht b e
    exact ⟨v, by rw [upd_ne (ne_of_none hv h)]; exact hv⟩
/-- an object of the store is changed -/
theorem Ext.put (p : Rep W r st H) {n : Nat} {a : Addr} {o : HO} (h : r n = Option.some a) (nf : NF H a := by first | assumption | exact nf_lst (by assumption) | exact nf_dK (by assumption) | exact nf_dT (by assumption) | exact nf_ins (by assumption) | exact nf_nd (by assumption)) : Ext r H r (upd H a o) where
  mono := fun _ _ e => e
  fresh := fun _ _ e => .inl e
  keep := fun b u e q => by rw [upd_ne (fun z => q n (by rw [z]; exact h))]; exact e
  tups := fun b ys e => by
    obtain ⟨_, _, q⟩ := p.at_ h
    rw [upd_ne (fun z => q.notup ys (by rw [← z]; exact e))]; exact e
  stay := fun b e => by
    by_cases hb : b = a
    · subst hb; rw [upd_same] at e; cases e
    · rw [upd_ne hb] at e; exact e
  hup := fun _ e => e
  hdn := fun _ e => .inl e
  frzs := fun b o' u e => by rw [upd_ne (fun z => nf o' u (by rw [← z]; exact e))]; exact e
theorem Rep.put (p : Rep W r st H) {n : Nat} {a : Addr} {u : HO} {o : Ob} (h : r n = Option.some a) (q : RO W r (upd H a u) a o) (nf : NF H a := by first | assumption | exact nf_lst (by assumption) | exact nf_dK (by assumption) | exact nf_dT (by assumption) | exact nf_ins (by assumption) | exact nf_nd (by assumption)) : Rep W r (st.set n o) (upd H a u) where
  inj := p.inj
  dom := fun m b e => by rw [List.length_set]; exact p.dom m b e
  obj := fun m o' e => by
    by_cases hm : n = m
    · subst hm
      rw [List.getElem?_set_self (p.dom n a h)] at e
      cases e
      exact ⟨a, h, q⟩
    · rw [List.getElem?_set_ne hm] at e
      obtain ⟨b, hb, z⟩ := p.obj m o' e
      refine ⟨b, hb, RO.ext (Ext.put p h nf) (upd_ne fun y => hm ?_) z⟩
      subst y
      exact p.inj n m b h hb
  nh := p.nh
  ht := fun b e => by
    by_cases hb : b = a
    · subst hb; exact ⟨_, upd_same⟩
    · rw [upd_ne hb]; exact p.ht b e
/-! ### slots -/
structure RelE (W : Wd) (r : Pl) (H : Hp) (env : Env) (σ : St) : Prop where
  len : env.length = σ.length
  at_ : ∀ (i : Nat) (v : Val), env[i]? = Option.some (Option.some v) → ∃ x, σ[i]? = Option.some (Option.some x) ∧ Rel W r H v x
variable {env : Env} {σ : St}
theorem RelE.ext (x : Ext r H r' H') (h : RelE W r H env σ) : RelE W r' H' env σ := ⟨h.len, fun i v e => by
  obtain ⟨y, a, b⟩ := h.at_ i v e
  exact ⟨y, a, b.ext x⟩⟩
theorem RelE.set (h : RelE W r H env σ) (i : Nat) {v : Val} {x : V} (q : Rel W r H v x) : RelE W r H (env.set i (some v)) (σ.set i (some x)) := ⟨by simp [h.len], fun j w e => by
  by_cases hj : i = j
  · subst hj
    by_cases hi : i < env.length
    · rw [List.getElem?_set_self hi] at e
      cases e
      exact ⟨x, List.getElem?_set_self (by rw [← h.len]; exact hi), q⟩
    · rw [List.getElem?_eq_none (by simpa using hi)] at e
      cases e
  · rw [List.getElem?_set_ne hj] at e
    rw [List.getElem?_set_ne hj]
    exact h.at_ j w e⟩
theorem RelE.wipe (h : RelE W r H env σ) : ∀ vs : List Nat, RelE W r H (wipeE env vs) (L2.wipe σ vs)
  | [] => h
  | v :: vs => by
    have q := RelE.wipe h vs
    refine ⟨by unfold wipeE L2.wipe; simp [q.len], fun j w e => ?_⟩
    unfold wipeE at e
    unfold L2.wipe
    by_cases hj : v = j
    · subst hj
      by_cases hi : v < (wipeE env vs).length
      · rw [List.getElem?_set_self hi] at e; cases e
      · rw [List.getElem?_eq_none (by simpa using hi)] at e; cases e
    · rw [List.getElem?_set_ne hj] at e
      rw [List.getElem?_set_ne hj]
      exact q.at_ j w e

/-! ### what is wanted behind an expression -/
def Good (W : Wd) (rs : Rs) (r : Pl) (H : Hp) (Q : VK) (E : Nat → Hp → Prop) : Prop := match rs with
  | .ok v st => ∀ r' H' x, Ext r H r' H' → Rep W r' st H' → Rel W r' H' v x → Q x H'
  | .exc k st => ∀ r' H', Ext r H r' H' → Rep W r' st H' → E k H'
  | .no => False
theorem Good.ext {rs : Rs} {Q : VK} {E : Nat → Hp → Prop} (x : Ext r H r' H') (g : Good W rs r H Q E) : Good W rs r' H' Q E := by
  cases rs with
  | ok v st => exact fun r2 H2 y a b c => g r2 H2 y (x.trans a) b c
  | exc k st => exact fun r2 H2 a b => g r2 H2 (x.trans a) b
  | no => exact g
theorem Good.seq {rs : Rs} {f : Val → Sto → Rs} {Q Q' : VK} {E : Nat → Hp → Prop} (g : Good W (rs.bind f) r H Q E)
    (k : ∀ v st r1 H1 x, Ext r H r1 H1 → Rep W r1 st H1 → Rel W r1 H1 v x → Good W (f v st) r1 H1 Q E → Q' x H1) : Good W rs r H Q' E := by
  cases rs with
  | ok v st => exact fun r1 H1 x a b c => k v st r1 H1 x a b c (Good.ext a g)
  | exc k st => exact g
  | no => exact g
theorem Good.imp {rs : Rs} {Q Q' : VK} {E : Nat → Hp → Prop} (g : Good W rs r H Q E) (k : ∀ x H1, Q x H1 → Q' x H1) : Good W rs r H Q' E := by
  cases rs with
  | ok v st => exact fun r1 H1 x a b c => k _ _ (g r1 H1 x a b c)
  | exc k st => exact g
  | no => exact g
/-- a list of values -/
def GoodA (W : Wd) (rs : Rs) (r : Pl) (H : Hp) (Q : List V → Hp → Prop) (E : Nat → Hp → Prop) : Prop := match rs with
  | .ok (.tup vs) st => ∀ r' H' xs, Ext r H r' H' → Rep W r' st H' → RelL W r' H' vs xs → Q xs H'
  | .ok _ _ => False
  | .exc k st => ∀ r' H', Ext r H r' H' → Rep W r' st H' → E k H'
  | .no => False
/-- a truth value -/
def GoodT (W : Wd) (rs : Rs) (r : Pl) (H : Hp) (Q : Bool → Hp → Prop) (E : Nat → Hp → Prop) : Prop := match rs with
  | .ok (.bl b) st => ∀ r' H', Ext r H r' H' → Rep W r' st H' → Q b H'
  | .ok _ _ => False
  | .exc k st => ∀ r' H', Ext r H r' H' → Rep W r' st H' → E k H'
  | .no => False
/-- behind a statement -/
def GoodS (W : Wd) (ro : Ro) (r : Pl) (H : Hp) (n : Nat) (D : Ends) (E : Nat → St → Hp → Prop) : Prop := match ro with
  | .nx env st => ∀ r' H' σ', Ext r H r' H' → Rep W r' st H' → RelE W r' H' env σ' → σ'.length = n → D.nx σ' H'
  | .ret v st => ∀ r' H' x, Ext r H r' H' → Rep W r' st H' → Rel W r' H' v x → D.rt x H'
  | .bk env st => ∀ r' H' σ', Ext r H r' H' → Rep W r' st H' → RelE W r' H' env σ' → σ'.length = n → D.bk σ' H'
  | .exc k st => ∀ r' H' σ', Ext r H r' H' → Rep W r' st H' → σ'.length = n → E k σ' H'
  | .no => False
theorem GoodS.ext {ro : Ro} {n : Nat} {D : Ends} {E : Nat → St → Hp → Prop} (x : Ext r H r' H') (g : GoodS W ro r H n D E) : GoodS W ro r' H' n D E := by
  cases ro with
  | nx env st => exact fun r2 H2 σ2 a b c => g r2 H2 σ2 (x.trans a) b c
  | ret v st => exact fun r2 H2 y a b c => g r2 H2 y (x.trans a) b c
  | bk env st => exact fun r2 H2 σ2 a b c => g r2 H2 σ2 (x.trans a) b c
  | exc k st => exact fun r2 H2 σ2 a b => g r2 H2 σ2 (x.trans a) b
  | no => exact g
theorem GoodS.seq {rs : Rs} {f : Val → Sto → Ro} {n : Nat} {D : Ends} {E : Nat → St → Hp → Prop} {Q' : VK} (g : GoodS W (rs.run f) r H n D E) (σ : St) (hn : σ.length = n)
    (k : ∀ v st r1 H1 x, Ext r H r1 H1 → Rep W r1 st H1 → Rel W r1 H1 v x → GoodS W (f v st) r1 H1 n D E → Q' x H1) : Good W rs r H Q' (fun k H' => E k σ H') := by
  cases rs with
  | ok v st => exact fun r1 H1 x a b c => k v st r1 H1 x a b c (GoodS.ext a g)
  | exc k st => exact fun r1 H1 a b => g r1 H1 σ a b hn
  | no => exact g

/-! ### readings -/
abbrev EX (W : Wd) (Wx : WX) : Nat → St → Hp → Prop := fun k σ H => Wx (.ref (W.xa k)) none σ H
def dE (W : Wd) (C : Calls) (Wx : WX) (e : E) : TE := fun σ H Q => ∃ r st env, Rep W r st H ∧ RelE W r H env σ ∧ Good W (ev C e env st) r H Q fun k H' => EX W Wx k σ H'
def dA (W : Wd) (C : Calls) (Wx : WX) (e : E) : TA := fun σ H Q => ∃ r st env, Rep W r st H ∧ RelE W r H env σ ∧ GoodA W (ev C e env st) r H Q fun k H' => EX W Wx k σ H'
def dT (W : Wd) (C : Calls) (Wx : WX) (e : E) : TT := fun σ H Q => ∃ r st env, Rep W r st H ∧ RelE W r H env σ ∧ GoodT W (ev C e env st) r H Q fun k H' => EX W Wx k σ H'
def dS (W : Wd) (C : Calls) (Wx : WX) (b : S) : TS := fun D σ H => ∃ r st env, Rep W r st H ∧ RelE W r H env σ ∧ GoodS W (ex C b env st) r H σ.length D (EX W Wx)
end
end G

end

section
/-! The rules of expressions: one a construct. -/
namespace G
open PySem PySem.Spec PyProof.Rows L2
theorem line_ok {n : Nat} (h : n ≤ 200000) : n ≤ sizeLine := by rw [sizeLine_eq]; omega
theorem line_lt {n : Nat} (h : n ≤ 200000) : n < sizeLine := by rw [sizeLine_eq]; omega
theorem sOf_app (s t : List Nat) : sOf s ++ sOf t = sOf (s ++ t) := by
  show Str.mk (s.toArray ++ t.toArray) = Str.mk (s ++ t).toArray
  simp
theorem sOf_len (s : List Nat) : (sOf s).length = s.length := by
  show s.toArray.size = s.length
  simp
theorem sOf_inj {s t : List Nat} (h : sOf s = sOf t) : s = t := by
  have : s.toArray = t.toArray := congrArg Str.cps h
  simpa using this
section
variable {X : Cx} {W : Wd} {C : Calls} {Wx : WX}
theorem peI {e : Expr} {t t' : TE} (h : PE X e t) (w : ∀ σ H Q, t' σ H Q → t σ H Q) : PE X e t' := ⟨fun pins s σ H Q I q => h.run pins s σ H Q I (w σ H Q q)⟩
theorem ptI {e : Expr} {t t' : TT} (h : PT X e t) (w : ∀ σ H Q, t' σ H Q → t σ H Q) : PT X e t' := ⟨fun pins s σ H Q I q => h.run pins s σ H Q I (w σ H Q q)⟩
theorem paI {e : List Expr} {t t' : TA} (h : PA X e t) (w : ∀ σ H Q, t' σ H Q → t σ H Q) : PA X e t' := ⟨fun pos pins s σ H Q I q => h.run pos pins s σ H Q I (w σ H Q q)⟩
theorem psI {e : Stmt} {t t' : TS} (h : PS X e t) (w : ∀ D σ H, t' D σ H → t D σ H) : PS X e t' := ⟨fun pins s σ H D I q => h.run pins s σ H D I (w D σ H q)⟩
theorem pssI {e : List Stmt} {t t' : TS} (h : PSs X e t) (w : ∀ D σ H, t' D σ H → t D σ H) : PSs X e t' := ⟨fun pins s σ H D I q => h.run pins s σ H D I (w D σ H q)⟩
theorem ptsI {e : List Expr} {t t' : TT} (h : PTs X e t) (w : ∀ σ H Q, t' σ H Q → t σ H Q) : PTs X e t' := ⟨fun pins s σ H Q I q => h.run pins s σ H Q I (w σ H Q q)⟩

/-! ### names, constants, lists of values -/
theorem e_var {i : Nat} {x : Str} {pos : Pos} (hN : X.N[i]? = some x) (hv : Vis X.env.scope x) (hd : (x == ("__debug__" : Str)) = false := by decide) (hcd : (x == ("__classdict__" : Str)) = false := by decide) :
    PE X (.Name x pos) (dE W C Wx (.var i)) := by
  refine peI (pe_var hN hv hd hcd) fun σ H Q ⟨r, st, env, p, q, g⟩ => ?_
  have g : Good W (match env[i]? with | some (some v) => .ok v st | _ => .no) r H Q _ := g
  cases h : env[i]? with
  | none => rw [h] at g; exact g.elim
  | some o =>
    cases o with
    | none => rw [h] at g; exact g.elim
    | some v =>
      rw [h] at g
      obtain ⟨x, a, b⟩ := q.at_ i v h
      exact ⟨x, a, g r H x .refl p b⟩
theorem e_lit {e : Expr} {v : Val} {x : V} (h : PE X e (tC x)) (hv : ∀ r H, Rel W r H v x) : PE X e (dE W C Wx (.lit v)) :=
  peI h fun σ H Q ⟨r, st, env, p, q, g⟩ => g r H x .refl p (hv r H)
theorem e_int {i : Int} {j pos} : PE X (.Constant (.int i) j pos) (dE W C Wx (.lit (.int i))) := e_lit pe_int fun _ _ => rfl
theorem e_bl {b j pos} : PE X (.Constant (.bool b) j pos) (dE W C Wx (.lit (.bl b))) := e_lit pe_bl fun _ _ => rfl
theorem e_non {j pos} : PE X (.Constant .none j pos) (dE W C Wx (.lit .non)) := e_lit pe_non fun _ _ => rfl
theorem e_str {x : Str} {s : List Nat} {j pos} (hx : x = sOf s) (hs : Asc s) : PE X (.Constant (.str x) j pos) (dE W C Wx (.lit (.str s))) := by
  subst hx
  exact e_lit pe_str fun _ _ => ⟨rfl, hs⟩
theorem a_nil : PA X [] (dA W C Wx .nil) := paI pa_nil fun σ H Q ⟨r, st, env, p, q, g⟩ => g r H [] .refl p rfl
theorem a_cons {e : Expr} {es : List Expr} {a l : E} (ha : PE X e (dE W C Wx a)) (hr : PA X es (dA W C Wx l)) (hs : starEach (e :: es) X.env = (false, eval e X.env) :: starEach es X.env := by rfl) : PA X (e :: es) (dA W C Wx (.cons a l)) := by
  refine paI (pa_cons ha hr hs) fun σ H Q ⟨r, st, env, p, q, g⟩ => ?_
  have g : GoodA W ((ev C a env st).bind fun x st1 => (ev C l env st1).bind fun y st2 => match y with | .tup xs => .ok (.tup (x :: xs)) st2 | _ => .no) r H Q _ := g
  refine ⟨r, st, env, p, q, ?_⟩
  cases h1 : ev C a env st with
  | no => rw [h1] at g; exact g
  | exc k st1 => rw [h1] at g; exact g
  | ok v st1 =>
    rw [h1] at g
    intro r1 H1 x e1 p1 q1
    refine ⟨r1, st1, env, p1, q.ext e1, ?_⟩
    have g : GoodA W ((ev C l env st1).bind fun y st2 => match y with | .tup xs => .ok (.tup (v :: xs)) st2 | _ => .no) r H Q _ := g
    cases h2 : ev C l env st1 with
    | no => rw [h2] at g; exact g
    | exc k st2 => rw [h2] at g; exact fun r2 H2 e2 p2 => g r2 H2 (e1.trans e2) p2
    | ok w st2 =>
      rw [h2] at g
      cases w with
      | tup ws => exact fun r2 H2 xs e2 p2 q2 => g r2 H2 (x :: xs) (e1.trans e2) p2 ⟨x, xs, rfl, q1.ext e2, q2⟩
      | _ => exact g
/-- the written lists of values -/
def chain : E → Option Nat
  | .nil => some 0
  | .cons _ r => match chain r with
    | some n => some (n + 1)
    | none => none
  | _ => none
theorem chain_len : ∀ {l : E} {n : Nat} {env : Env} {st st' : Sto} {v : Val}, chain l = some n → ev C l env st = .ok v st' → ∃ xs, v = .tup xs ∧ xs.length = n
  | .nil, n, env, st, st', v, h, e => by
    cases h
    cases (show Rs.ok (.tup []) st = .ok v st' from e)
    exact ⟨[], rfl, rfl⟩
  | .cons a r, n, env, st, st', v, h, e => by
    cases hr : chain r with
    | none => rw [chain, hr] at h; cases h
    | some m =>
      rw [chain, hr] at h
      cases h
      have e : ((ev C a env st).bind fun x st1 => (ev C r env st1).bind fun y st2 => match y with | .tup xs => .ok (.tup (x :: xs)) st2 | _ => .no) = .ok v st' := e
      cases h1 : ev C a env st with
      | no => rw [h1] at e; cases e
      | exc k st1 => rw [h1] at e; cases e
      | ok x st1 =>
        rw [h1] at e
        have e : ((ev C r env st1).bind fun y st2 => match y with | .tup xs => .ok (.tup (x :: xs)) st2 | _ => .no) = .ok v st' := e
        cases h2 : ev C r env st1 with
        | no => rw [h2] at e; cases e
        | exc k st2 => rw [h2] at e; cases e
        | ok y st2 =>
          rw [h2] at e
          obtain ⟨xs, rfl, hx⟩ := chain_len hr h2
          cases (show Rs.ok (.tup (x :: xs)) st2 = .ok v st' from e)
          exact ⟨_, rfl, by rw [List.length_cons, hx]⟩
/-- (a, b, ..) -/
theorem e_tup {es : List Expr} {l : E} {n : Nat} {x1 pos} (h : PA X es (dA W C Wx l)) (hc : chain l = some n := by rfl) (hn : n ≤ 1000 := by decide) : PE X (.Tuple es x1 pos) (dE W C Wx l) := by
  refine peI (pe_tup h) fun σ H Q ⟨r, st, env, p, q, g⟩ => ⟨r, st, env, p, q, ?_⟩
  cases h1 : ev C l env st with
  | no => rw [h1] at g; exact g
  | exc k st1 => rw [h1] at g; exact g
  | ok v st1 =>
    rw [h1] at g
    obtain ⟨xs, rfl, hx⟩ := chain_len hc h1
    intro r1 H1 ys e1 p1 q1
    refine ⟨line_ok (by rw [← q1.len]; omega), fun a ha => ?_⟩
    exact g r1 _ _ (e1.trans (.new ha)) (p1.new ha) ⟨a, ys, rfl, upd_same, q1.ext (.new ha)⟩
/-- [a, b, ..], never changed -/
theorem e_lst {es : List Expr} {l : E} {n : Nat} {pos} (h : PA X es (dA W C Wx l)) (hc : chain l = some n := by rfl) (hn : n ≤ 1000 := by decide) : PE X (.List es pos) (dE W C Wx (.lst l)) := by
  refine peI (pe_lst h) fun σ H Q ⟨r, st, env, p, q, g⟩ => ⟨r, st, env, p, q, ?_⟩
  have g : Good W ((ev C l env st).bind fun x st1 => match x with | .tup xs => .ok (.tl xs) st1 | _ => .no) r H Q _ := g
  cases h1 : ev C l env st with
  | no => rw [h1] at g; exact g
  | exc k st1 => rw [h1] at g; exact g
  | ok v st1 =>
    rw [h1] at g
    obtain ⟨xs, rfl, hx⟩ := chain_len hc h1
    intro r1 H1 ys e1 p1 q1
    refine ⟨line_ok (by rw [← q1.len]; omega), fun a ha => ?_⟩
    exact g r1 _ _ (e1.trans (.new ha)) (p1.new ha) ⟨a, ys, rfl, p1.nfree ha, upd_same, q1.ext (.new ha)⟩
/-- [a, b, ..], a list of the store -/
theorem e_lstM {es : List Expr} {l : E} {n : Nat} {pos} (h : PA X es (dA W C Wx l)) (hc : chain l = some n := by rfl) (hn : n ≤ 1000 := by decide) : PE X (.List es pos) (dE W C Wx (.lstM l)) := by
  refine peI (pe_lst h) fun σ H Q ⟨r, st, env, p, q, g⟩ => ⟨r, st, env, p, q, ?_⟩
  have g : Good W ((ev C l env st).bind fun x st1 => match x with | .tup xs => .ok (.ref st1.length) (st1 ++ [.lst xs]) | _ => .no) r H Q _ := g
  cases h1 : ev C l env st with
  | no => rw [h1] at g; exact g
  | exc k st1 => rw [h1] at g; exact g
  | ok v st1 =>
    rw [h1] at g
    obtain ⟨xs, rfl, hx⟩ := chain_len hc h1
    intro r1 H1 ys e1 p1 q1
    refine ⟨line_ok (by rw [← q1.len]; omega), fun a ha => ?_⟩
    refine g _ _ _ (e1.trans (.plus p1 ha)) (p1.plus ha ⟨ys, upd_same, q1.ext (.plus p1 ha)⟩) ⟨a, rfl, ?_⟩
    rw [plus_at, if_pos rfl]

/-! ### two-place operations -/
def rB (W : Wd) (f : Val → Val → Sto → Rs) : R2 := fun x y H Q => ∃ r st v w E, Rep W r st H ∧ Rel W r H v x ∧ Rel W r H w y ∧ Good W (f v w st) r H Q E
theorem two {a b : E} {f : Val → Val → Sto → Rs} {σ : St} {H : Hp} {Q : VK} {r : Pl} {st : Sto} {env : Env} (p : Rep W r st H) (q : RelE W r H env σ)
    (g : Good W ((ev C a env st).bind fun x st1 => (ev C b env st1).bind fun y st2 => f x y st2) r H Q fun k H' => EX W Wx k σ H') : tOp (rB W f) (dE W C Wx a) (dE W C Wx b) σ H Q := by
  refine ⟨r, st, env, p, q, g.seq fun v st1 r1 H1 x e1 p1 q1 g1 => ?_⟩
  exact ⟨r1, st1, env, p1, q.ext e1, g1.seq fun w st2 r2 H2 y e2 p2 q2 g2 => ⟨r2, st2, v, w, _, p2, q1.ext e2, q2, g2⟩⟩
theorem e_bin {op : Operator} {o : Op} {a b : Expr} {ia ib : E} {pos} (ho : OpR X (binaryOp op) (rB W (binV o))) (ha : PE X a (dE W C Wx ia)) (hb : PE X b (dE W C Wx ib)) : PE X (.BinOp a op b pos) (dE W C Wx (.bin o ia ib)) :=
  peI (pe_op ho ha hb) fun σ H Q ⟨r, st, env, p, q, g⟩ => two p q g
theorem e_cmp {op : CmpOp} {o : Cm} {a b : Expr} {ia ib : E} {pos} (ho : OpR X (compareOp op) (rB W (cmpV o))) (ha : PE X a (dE W C Wx ia)) (hb : PE X b (dE W C Wx ib)) (hm : behindInMarks op b = false) : PE X (.Compare a [op] [b] pos) (dE W C Wx (.cmp o ia ib)) :=
  peI (pe_cmpR ho ha hb hm) fun σ H Q ⟨r, st, env, p, q, g⟩ => two p q g
theorem e_chain {op op' : CmpOp} {o o' : Cm} {a b c : Expr} {ia ib ic : E} {pos} (ho : OpR X (compareOp op) (rB W (cmpV o))) (ho' : OpR X (compareOp op') (rB W (cmpV o'))) (ha : PE X a (dE W C Wx ia)) (hb : PE X b (dE W C Wx ib)) (hc : PE X c (dE W C Wx ic))
    (hm : lastMarks [op, op'] [b, c] = false := by with_unfolding_all rfl) : PE X (.Compare a [op, op'] [b, c] pos) (dE W C Wx (.chain o o' ia ib ic)) := by
  refine peI (pe_chain ho ho' ha hb hc hm) fun σ H Q ⟨r, st, env, p, q, g⟩ => ?_
  refine ⟨r, st, env, p, q, Good.seq g fun v st1 r1 H1 x e1 p1 q1 g1 => ?_⟩
  refine ⟨r1, st1, env, p1, q.ext e1, g1.seq fun w st2 r2 H2 y e2 p2 q2 g2 => ?_⟩
  refine ⟨r2, st2, v, w, _, p2, q1.ext e2, q2, g2.seq fun u st3 r3 H3 z e3 p3 q3 g3 => ?_⟩
  cases u with
  | bl k =>
    refine ⟨k, q3, ?_⟩
    cases k with
    | true =>
      rw [if_pos rfl]
      exact ⟨r3, st3, env, p3, ((q.ext e1).ext e2).ext e3, g3.seq fun t st4 r4 H4 z' e4 p4 q4 g4 => ⟨r4, st4, w, t, _, p4, (q2.ext e3).ext e4, q4, g4⟩⟩
    | false =>
      rw [if_neg Bool.false_ne_true]
      exact g3 r3 H3 _ .refl p3 rfl
  | _ => exact (show False from g3).elim

/-! ### operators -/
theorem items_rel {r : Pl} {st : Sto} {H : Hp} {c : Val} {z : V} {zs : List Val} (p : Rep W r st H) (hc : items st c = some zs) (rc : Rel W r H c z) : ∃ l ws, z = .ref l ∧ H l = some (.lst ws) ∧ RelL W r H zs ws := by
  cases c with
  | tl ws =>
    cases (show some ws = some zs from hc)
    obtain ⟨l, ys, e, _, h, q⟩ := rc
    exact ⟨l, ys, e, h, q⟩
  | ref n =>
    obtain ⟨l, e, h⟩ := rc
    obtain ⟨o, ho, q⟩ := p.at_ h
    have hc : (match st[n]? with | some (.lst xs) => some xs | _ => none) = some zs := hc
    rw [ho] at hc
    cases o with
    | lst ws =>
      cases (show some ws = some zs from hc)
      obtain ⟨ys, h1, h2⟩ := q
      exact ⟨l, ys, e, h1, h2⟩
    | _ => cases hc
  | _ => cases hc
theorem o_add : OpR X (binaryOp .Add) (rB W (binV .add)) := by
  intro pins s σ H x y v u Q I rx ry ⟨r, st, a, b, E, p, ra, rb, g⟩
  have li : ∀ {xs ys : List Val}, items st a = some xs → items st b = some ys → Nat.ble (xs.length + ys.length) lineN = true → Good W (.ok (.tl (xs ++ ys)) st) r H Q E → wpAny (model X.prog X.w) X.A (binaryOp .Add v u) (EP X pins σ Q) X.xe s := by
    intro xs ys ha hb hl g
    have mem : ∀ {c : Val} {z : V} {zs : List Val}, items st c = some zs → Rel W r H c z → ∃ l ws, z = .ref l ∧ H l = some (.lst ws) ∧ RelL W r H zs ws := by
      intro c z zs hc rc
      cases c with
      | tl ws =>
        cases (show some ws = some zs from hc)
        obtain ⟨l, ys, e, _, h, q⟩ := rc
        exact ⟨l, ys, e, h, q⟩
      | ref n =>
        obtain ⟨l, e, h⟩ := rc
        obtain ⟨o, ho, q⟩ := p.at_ h
        have hc : (match st[n]? with | some (.lst xs) => some xs | _ => none) = some zs := hc
        rw [ho] at hc
        cases o with
        | lst ws =>
          cases (show some ws = some zs from hc)
          obtain ⟨ys, h1, h2⟩ := q
          exact ⟨l, ys, e, h1, h2⟩
        | _ => cases hc
      | _ => cases hc
    obtain ⟨l, ws, rfl, h1, q1⟩ := mem ha ra
    obtain ⟨m, zs, rfl, h2, q2⟩ := mem hb rb
    have hl : xs.length + ys.length ≤ 100000 := Nat.le_of_ble_eq_true hl
    refine op_cat pins s σ H _ _ v u Q I rx ry ⟨l, m, ws, zs, rfl, rfl, h1, h2, line_ok (by rw [← q1.len, ← q2.len]; omega), fun d hd => ?_⟩
    exact g r _ _ (.new hd) (p.new hd) ⟨d, _, rfl, p.nfree hd, upd_same, (q1.app q2).ext (.new hd)⟩
  cases a with
  | int i =>
    cases b with
    | int j =>
      cases (show x = .int i from ra)
      cases (show y = .int j from rb)
      exact op_add pins s σ H _ _ v u Q I rx ry ⟨i, j, rfl, rfl, g r H _ .refl p rfl⟩
    | _ => exact (show False from g).elim
  | str i =>
    cases b with
    | str j =>
      obtain ⟨rfl, ai⟩ := ra
      obtain ⟨rfl, aj⟩ := rb
      have g : Good W (match Nat.ble (i.length + j.length) lineN with | true => .ok (.str (i ++ j)) st | false => .no) r H Q E := g
      cases hl : Nat.ble (i.length + j.length) lineN with
      | false => rw [hl] at g; exact (show False from g).elim
      | true =>
        rw [hl] at g
        have hl : i.length + j.length ≤ 100000 := Nat.le_of_ble_eq_true hl
        refine op_add_str pins s σ H _ _ v u Q I rx ry ⟨_, _, rfl, rfl, line_ok (by rw [sOf_len, sOf_len]; omega), ?_⟩
        rw [sOf_app]
        exact g r H _ .refl p ⟨rfl, by rw [List.length_append]; exact hl, fun c hc => (List.mem_append.mp hc).elim (ai.2 c) (aj.2 c)⟩
    | _ => exact (show False from g).elim
  | tup xs =>
    cases xs with
    | nil =>
      cases b with
      | tup ys =>
        have g : Good W (match Nat.ble ys.length lineN with | true => .ok (.tup ys) st | false => .no) r H Q E := g
        cases hl : Nat.ble ys.length lineN with
        | false => rw [hl] at g; exact (show False from g).elim
        | true =>
          rw [hl] at g
          have hl : ys.length ≤ 100000 := Nat.le_of_ble_eq_true hl
          obtain ⟨l, ws, rfl, h1, q1⟩ := ra
          obtain ⟨m, us, rfl, h2, q2⟩ := rb
          cases (show ws = [] from q1)
          have l2 := q2.len
          exact op_catA pins s σ H _ _ v u Q I rx ry ⟨l, m, [], us, rfl, rfl, .of h1, .of h2, line_ok (by rw [List.length_nil]; omega), fun _ => g r H _ .refl p ⟨m, us, rfl, h2, q2⟩, fun e => absurd rfl e, fun e => absurd rfl e⟩
      | _ => exact (show False from g).elim
    | cons z zs =>
      cases b with
      | tup ys =>
        have g : Good W (match Nat.ble (zs.length + ys.length) lineN with | true => .ok (.tup (z :: zs ++ ys)) st | false => .no) r H Q E := g
        cases hl : Nat.ble (zs.length + ys.length) lineN with
        | false => rw [hl] at g; exact (show False from g).elim
        | true =>
          rw [hl] at g
          have hl : zs.length + ys.length ≤ 100000 := Nat.le_of_ble_eq_true hl
          obtain ⟨l, ws, rfl, h1, q1⟩ := ra
          obtain ⟨m, us, rfl, h2, q2⟩ := rb
          have l1 := q1.len
          have l2 := q2.len
          rw [List.length_cons] at l1
          refine op_catA pins s σ H _ _ v u Q I rx ry ⟨l, m, ws, us, rfl, rfl, .of h1, .of h2, line_ok (by omega), fun e => ?_, fun _ e => ?_, fun _ _ d hd => ?_⟩
          · subst e
            cases l1
          · subst e
            have : ys = [] := List.eq_nil_of_length_eq_zero l2
            subst this
            rw [List.append_nil] at g
            exact g r H _ .refl p ⟨l, ws, rfl, h1, q1⟩
          · exact g r _ _ (.new hd) (p.new hd) ⟨d, _, rfl, upd_same, (q1.app q2).ext (.new hd)⟩
      | _ => exact (show False from g).elim
  | tl xs =>
    cases hb : items st b with
    | none =>
      have g : Good W (match items st b with | some ys => (match Nat.ble (xs.length + ys.length) lineN with | true => .ok (.tl (xs ++ ys)) st | false => .no) | none => .no) r H Q E := g
      rw [hb] at g
      exact g.elim
    | some ys =>
      have g : Good W (match items st b with | some ys => (match Nat.ble (xs.length + ys.length) lineN with | true => .ok (.tl (xs ++ ys)) st | false => .no) | none => .no) r H Q E := g
      rw [hb] at g
      have g : Good W (match Nat.ble (xs.length + ys.length) lineN with | true => .ok (.tl (xs ++ ys)) st | false => .no) r H Q E := g
      cases hl : Nat.ble (xs.length + ys.length) lineN with
      | false => rw [hl] at g; exact (show False from g).elim
      | true => rw [hl] at g; exact li rfl hb hl g
  | ref n =>
    have g : Good W (match items st (.ref n) with | some xs => (match items st b with | some ys => (match Nat.ble (xs.length + ys.length) lineN with | true => .ok (.tl (xs ++ ys)) st | false => .no) | none => .no) | none => .no) r H Q E := g
    cases ha : items st (.ref n) with
    | none => rw [ha] at g; exact g.elim
    | some xs =>
      rw [ha] at g
      have g : Good W (match items st b with | some ys => (match Nat.ble (xs.length + ys.length) lineN with | true => .ok (.tl (xs ++ ys)) st | false => .no) | none => .no) r H Q E := g
      cases hb : items st b with
      | none => rw [hb] at g; exact g.elim
      | some ys =>
        rw [hb] at g
        have g : Good W (match Nat.ble (xs.length + ys.length) lineN with | true => .ok (.tl (xs ++ ys)) st | false => .no) r H Q E := g
        cases hl : Nat.ble (xs.length + ys.length) lineN with
        | false => rw [hl] at g; exact (show False from g).elim
        | true => rw [hl] at g; exact li ha hb hl g
  | _ => exact (show False from g).elim
theorem o_sub : OpR X (binaryOp .Sub) (rB W (binV .sub)) := by
  intro pins s σ H x y v u Q I rx ry ⟨r, st, a, b, E, p, ra, rb, g⟩
  cases a with
  | int i =>
    cases b with
    | int j =>
      cases (show x = .int i from ra)
      cases (show y = .int j from rb)
      exact op_sub pins s σ H _ _ v u Q I rx ry ⟨i, j, rfl, rfl, g r H _ .refl p rfl⟩
    | _ => exact (show False from g).elim
  | _ => exact (show False from g).elim
theorem small_of {i : Int} (h : smallI i = true) : -1000000000000 < i ∧ i < 1000000000000 := by
  unfold smallI at h
  rw [ilt_eq, ilt_eq, Bool.and_eq_true, decide_eq_true_eq, decide_eq_true_eq] at h
  exact h
theorem rep_eq (xs : List V) : ∀ n : Nat, (List.replicate n xs).flatten = (match n with | 0 => [] | m + 1 => xs ++ (List.replicate m xs).flatten)
  | 0 => rfl
  | n + 1 => rfl
theorem RelL.rep {r : Pl} {H : Hp} {vs : List Val} {ys : List V} (h : RelL W r H vs ys) : ∀ n : Nat, RelL W r H (rep vs n) (List.replicate n ys).flatten
  | 0 => rfl
  | n + 1 => by
    show RelL W r H (vs ++ G.rep vs n) (List.replicate (n + 1) ys).flatten
    rw [List.replicate_succ, List.flatten_cons]
    exact h.app (RelL.rep h n)
end
end G

end

section
/-! More operators; comparisons. -/
namespace G
open PySem PySem.Spec PyProof.Rows L2
section
variable {X : Cx} {W : Wd} {C : Calls} {Wx : WX}
theorem o_mul : OpR X (binaryOp .Mult) (rB W (binV .mul)) := by
  intro pins s σ H x y v u Q I rx ry ⟨r, st, a, b, E, p, ra, rb, g⟩
  have mulL : ∀ {xs : List Val}, items st a = some xs → Good W (repV xs b st) r H Q E → wpAny (model X.prog X.w) X.A (binaryOp .Mult v u) (EP X pins σ Q) X.xe s := by
    intro xs ha g
    cases b with
    | int j =>
      cases j with
      | ofNat k =>
        cases (show y = .int (.ofNat k) from rb)
        have g : Good W (match Nat.ble (xs.length * k) lineN && Nat.ble k lineN with | true => .ok (.tl (rep xs k)) st | false => .no) r H Q E := g
        cases hl : Nat.ble (xs.length * k) lineN && Nat.ble k lineN with
        | false => rw [hl] at g; exact g.elim
        | true =>
          rw [hl] at g
          rw [Bool.and_eq_true] at hl
          have h1 : xs.length * k ≤ 100000 := Nat.le_of_ble_eq_true hl.1
          have h2 : k ≤ 100000 := Nat.le_of_ble_eq_true hl.2
          obtain ⟨l, ws, rfl, hH, q1⟩ := items_rel p ha ra
          refine op_rep pins s σ H _ _ v u Q I rx ry ⟨l, _, ws, rfl, rfl, hH, by have : (0 : Int) ≤ Int.ofNat k := Int.natCast_nonneg k; omega, by have : (Int.ofNat k) = (k : Int) := rfl; omega, ?_, fun d hd => ?_⟩
          · rw [← q1.len]
            exact line_ok (by show xs.length * k ≤ 200000; omega)
          · exact g r _ _ (.new hd) (p.new hd) ⟨d, _, rfl, p.nfree hd, upd_same, (q1.rep k).ext (.new hd)⟩
      | negSucc k => exact (show False from g).elim
    | _ => exact (show False from g).elim
  cases a with
  | int i =>
    cases b with
    | int j =>
      cases (show x = .int i from ra)
      cases (show y = .int j from rb)
      have g : Good W (match smallI i with | true => .ok (.int (i * j)) st | false => .no) r H Q E := g
      cases hs : smallI i with
      | false => rw [hs] at g; exact g.elim
      | true =>
        rw [hs] at g
        obtain ⟨h1, h2⟩ := small_of hs
        exact op_mul pins s σ H _ _ v u Q I rx ry ⟨i, j, rfl, rfl, .inl ⟨by omega, by omega⟩, g r H _ .refl p rfl⟩
    | _ => exact (show False from g).elim
  | non => exact (show False from g).elim
  | bl _ => exact (show False from g).elim
  | str _ => exact (show False from g).elim
  | tup _ => exact (show False from g).elim
  | td _ _ _ => exact (show False from g).elim
  | fn _ => exact (show False from g).elim
  | scr => exact (show False from g).elim
  | tl xs => exact mulL rfl g
  | ref n =>
    have g : Good W (match items st (.ref n) with | some xs => (repV xs b st) | none => .no) r H Q E := g
    cases ha : items st (.ref n) with
    | none => rw [ha] at g; exact g.elim
    | some xs => rw [ha] at g; exact mulL ha g
theorem o_fdiv : OpR X (binaryOp .FloorDiv) (rB W (binV .fdiv)) := by
  intro pins s σ H x y v u Q I rx ry ⟨r, st, a, b, E, p, ra, rb, g⟩
  cases a with
  | int i =>
    cases b with
    | int j =>
      cases (show x = .int i from ra)
      cases (show y = .int j from rb)
      have g : Good W (match ilt 0 j && ilt j bigI with | true => .ok (.int (i / j)) st | false => .no) r H Q E := g
      cases hs : ilt 0 j && ilt j bigI with
      | false => rw [hs] at g; exact g.elim
      | true =>
        rw [hs] at g
        rw [ilt_eq, ilt_eq, Bool.and_eq_true, decide_eq_true_eq, decide_eq_true_eq] at hs
        have h2 : j < 1000000000 := hs.2
        exact op_fdiv pins s σ H _ _ v u Q I rx ry ⟨i, j, rfl, rfl, ⟨hs.1, by omega⟩, g r H _ .refl p rfl⟩
    | _ => exact (show False from g).elim
  | _ => exact (show False from g).elim
theorem o_mod : OpR X (binaryOp .Mod) (rB W (binV .mod)) := by
  intro pins s σ H x y v u Q I rx ry ⟨r, st, a, b, E, p, ra, rb, g⟩
  cases a with
  | int i =>
    cases b with
    | int j =>
      cases (show x = .int i from ra)
      cases (show y = .int j from rb)
      have g : Good W (match ilt 0 j with | true => .ok (.int (i % j)) st | false => .no) r H Q E := g
      cases hs : ilt 0 j with
      | false => rw [hs] at g; exact g.elim
      | true =>
        rw [hs] at g
        rw [ilt_eq, decide_eq_true_eq] at hs
        exact op_mod pins s σ H _ _ v u Q I rx ry ⟨i, j, rfl, rfl, hs, g r H _ .refl p rfl⟩
    | _ => exact (show False from g).elim
  | _ => exact (show False from g).elim

/-! ### comparisons of ints -/
theorem cmpI {op : CmpOp} {o : Cm} {f : Int → Int → Bool} {f' : Int → Int → Bool} (ho : OpR X (compareOp op) (rI0 fun i j => .bl (f i j))) (he : ∀ i j, f' i j = f i j)
    (h1 : ∀ i j st, cmpV o (.int i) (.int j) st = .ok (.bl (f' i j)) st) (h2 : ∀ i b st, (∀ j, b ≠ .int j) → cmpV o (.int i) b st = .no) (h3 : ∀ a b st, (∀ i, a ≠ .int i) → cmpV o a b st = .no) : OpR X (compareOp op) (rB W (cmpV o)) := by
  intro pins s σ H x y v u Q I rx ry ⟨r, st, a, b, E, p, ra, rb, g⟩
  by_cases ha : ∃ i, a = .int i
  · obtain ⟨i, rfl⟩ := ha
    by_cases hb : ∃ j, b = .int j
    · obtain ⟨j, rfl⟩ := hb
      cases (show x = .int i from ra)
      cases (show y = .int j from rb)
      rw [h1, he] at g
      exact ho pins s σ H _ _ v u Q I rx ry ⟨i, j, rfl, rfl, g r H _ .refl p rfl⟩
    · rw [h2 i b st fun j e => hb ⟨j, e⟩] at g
      exact g.elim
  · rw [h3 a b st fun i e => ha ⟨i, e⟩] at g
    exact g.elim
theorem o_le : OpR X (compareOp .LtE) (rB W (cmpV .le)) := cmpI op_le ile_eq (fun _ _ _ => rfl) (fun i b st h => by cases b <;> first | rfl | exact absurd rfl (h _)) (fun a b st h => by cases a <;> first | rfl | exact absurd rfl (h _))
theorem o_gt : OpR X (compareOp .Gt) (rB W (cmpV .gt)) := cmpI op_gt (fun i j => ilt_eq j i) (fun _ _ _ => rfl) (fun i b st h => by cases b <;> first | rfl | exact absurd rfl (h _)) (fun a b st h => by cases a <;> first | rfl | exact absurd rfl (h _))
theorem o_ge : OpR X (compareOp .GtE) (rB W (cmpV .ge)) := cmpI op_ge (fun i j => ile_eq j i) (fun _ _ _ => rfl) (fun i b st h => by cases b <;> first | rfl | exact absurd rfl (h _)) (fun a b st h => by cases a <;> first | rfl | exact absurd rfl (h _))
theorem RelL.ints {r : Pl} {H : Hp} : ∀ {vs : List Val} {ys : List V}, allInt vs = true → RelL W r H vs ys → ∃ ns : List Int, vs = ns.map Val.int ∧ ys = ns.map V.int
  | [], ys, _, h => ⟨[], rfl, h⟩
  | v :: vs, ys, hi, ⟨y, s, e, h, t⟩ => by
    cases v with
    | int i =>
      obtain ⟨ns, e1, e2⟩ := RelL.ints (vs := vs) hi t
      exact ⟨i :: ns, by rw [e1]; rfl, by rw [e, e2, show y = .int i from h]; rfl⟩
    | _ => exact absurd hi (by simp [allInt])
theorem ltI_lex : ∀ ns ms : List Int, ltI (ns.map Val.int) (ms.map Val.int) = some (HT.lexLt ns ms)
  | [], [] => rfl
  | [], _ :: _ => rfl
  | _ :: _, [] => rfl
  | i :: ns, j :: ms => by
    show (match ilt i j with | true => some true | false => match ieq i j with | true => ltI (ns.map Val.int) (ms.map Val.int) | false => some false) = some (HT.lexLt (i :: ns) (j :: ms))
    rw [ltI_lex ns ms, ilt_eq, ieq_eq, HT.lexLt_cons]
    by_cases h1 : i < j
    · simp [h1]
      omega
    · by_cases h2 : i = j
      · simp [h1, h2]
      · simp [h1, h2]
theorem o_lt (hu : X.A.units < cLine) : OpR X (compareOp .Lt) (rB W (cmpV .lt)) := by
  intro pins s σ H x y v u Q I rx ry ⟨r, st, a, b, E, p, ra, rb, g⟩
  cases a with
  | int i =>
    cases b with
    | int j =>
      cases (show x = .int i from ra)
      cases (show y = .int j from rb)
      have g : Good W (.ok (.bl (ilt i j)) st) r H Q E := g
      rw [ilt_eq] at g
      exact op_lt pins s σ H _ _ v u Q I rx ry ⟨i, j, rfl, rfl, g r H _ .refl p rfl⟩
    | _ => exact (show False from g).elim
  | tup xs =>
    cases b with
    | tup ys =>
      have g : Good W (match allInt xs && allInt ys with | true => ob (ltI xs ys) st | false => .no) r H Q E := g
      cases hi : allInt xs && allInt ys with
      | false => rw [hi] at g; exact g.elim
      | true =>
        rw [hi] at g
        rw [Bool.and_eq_true] at hi
        obtain ⟨l, ws, rfl, h1, q1⟩ := ra
        obtain ⟨m, us, rfl, h2, q2⟩ := rb
        obtain ⟨ns, rfl, rfl⟩ := q1.ints hi.1
        obtain ⟨ms, rfl, rfl⟩ := q2.ints hi.2
        have g : Good W (ob (ltI (ns.map Val.int) (ms.map Val.int)) st) r H Q E := g
        rw [ltI_lex] at g
        exact op_ltT hu pins s σ H _ _ v u Q I rx ry ⟨l, m, ns, ms, rfl, rfl, .of h1, .of h2, g r H _ .refl p rfl⟩
    | _ => exact (show False from g).elim
  | _ => exact (show False from g).elim
theorem e_neg {a : Expr} {ia : E} {pos} (ha : PE X a (dE W C Wx ia)) : PE X (.UnaryOp .USub a pos) (dE W C Wx (.neg ia)) := by
  refine peI (pe_un un_neg ha) fun σ H Q ⟨r, st, env, p, q, g⟩ => ⟨r, st, env, p, q, Good.seq g fun v st1 r1 H1 x e1 p1 q1 g1 => ?_⟩
  cases v with
  | int i => exact ⟨i, q1, g1 r1 H1 _ .refl p1 rfl⟩
  | _ => exact (show False from g1).elim
end
end G

end

section
/-! Equality of data, in, is. -/
namespace G
open PySem PySem.Spec PyProof.Rows L2
/-! ### data -/
mutual
def toD : Val → PyData
  | .non => .none
  | .bl b => .bool b
  | .int i => .int i
  | .str s => .str (sOf s)
  | .tup xs => .tuple (toDL xs)
  | .tl xs => .list (toDL xs)
  | _ => .none
def toDL : List Val → List PyData
  | [] => []
  | x :: r => toD x :: toDL r
end
/-- data of depth n at most -/
def datN : Nat → Val → Prop
  | 0, v => match v with
    | .non | .bl _ | .int _ => True
    | .str s => Asc s
    | _ => False
  | n + 1, v => match v with
    | .non | .bl _ | .int _ => True
    | .str s => Asc s
    | .tup xs | .tl xs => ∀ x ∈ xs, datN n x
    | _ => False
theorem toDL_canLay : ∀ {xs : List Val}, (∀ x ∈ xs, (toD x).canLay0 = true) → PyData.canLayAll0 (toDL xs) = true
  | [], _ => rfl
  | x :: r, h => by
    show ((toD x).canLay0 && PyData.canLayAll0 (toDL r)) = true
    rw [h x List.mem_cons_self, toDL_canLay fun y hy => h y (List.mem_cons_of_mem _ hy)]
    rfl
theorem asc_ok {s : List Nat} (h : Asc s) : (toD (.str s)).canLay0 = true := by
  show (sOf s).cps.all (· < 0x110000) = true
  rw [show (sOf s).cps = s.toArray from rfl, List.all_toArray, List.all_eq_true]
  intro c hc
  have := h.2 c hc
  exact decide_eq_true (by omega)
theorem dat_canLay : ∀ {n : Nat} {v : Val}, datN n v → (toD v).canLay0 = true
  | 0, v, h => by
    cases v with
    | non => rfl
    | bl _ => rfl
    | int _ => rfl
    | str s => exact asc_ok h
    | _ => exact h.elim
  | n + 1, v, h => by
    cases v with
    | tup xs => exact toDL_canLay fun x hx => dat_canLay (h x hx)
    | tl xs => exact toDL_canLay fun x hx => dat_canLay (h x hx)
    | non => rfl
    | bl _ => rfl
    | int _ => rfl
    | str s => exact asc_ok h
    | _ => exact h.elim
theorem toDL_depth {n : Nat} : ∀ {xs : List Val}, (∀ x ∈ xs, (toD x).depth ≤ n) → PyData.depthAll (toDL xs) ≤ n
  | [], _ => Nat.zero_le _
  | x :: r, h => Nat.max_le.mpr ⟨h x List.mem_cons_self, toDL_depth fun y hy => h y (List.mem_cons_of_mem _ hy)⟩
theorem dat_depth : ∀ {n : Nat} {v : Val}, datN n v → (toD v).depth ≤ n
  | 0, v, h => by
    cases v with
    | non => exact Nat.le_refl _
    | bl _ => exact Nat.le_refl _
    | int _ => exact Nat.le_refl _
    | str _ => exact Nat.le_refl _
    | _ => exact h.elim
  | n + 1, v, h => by
    cases v with
    | tup xs => exact Nat.succ_le_succ (toDL_depth fun x hx => dat_depth (h x hx))
    | tl xs => exact Nat.succ_le_succ (toDL_depth fun x hx => dat_depth (h x hx))
    | non => exact Nat.zero_le _
    | bl _ => exact Nat.zero_le _
    | int _ => exact Nat.zero_le _
    | str _ => exact Nat.zero_le _
    | _ => exact h.elim
theorem dat_shaped {n : Nat} {v : Val} (h : datN n v) (hn : n ≤ 64) : SeqAt.shaped (toD v) = true := by
  unfold SeqAt.shaped
  rw [dat_canLay h, Bool.true_and, decide_eq_true_eq]
  exact Nat.le_trans (dat_depth h) hn
theorem leq_eq : ∀ x y : List Nat, leq x y = decide (x = y)
  | [], [] => by simp [leq]
  | [], _ :: _ => by simp [leq]
  | _ :: _, [] => by simp [leq]
  | a :: x, b :: y => by
    show (match Nat.beq a b with | true => leq x y | false => false) = decide (a :: x = b :: y)
    rw [leq_eq x y]
    cases h : Nat.beq a b with
    | true =>
      have e : a = b := Nat.eq_of_beq_eq_true h
      simp [e]
    | false =>
      have e : a ≠ b := fun z => by
        subst z
        rw [Nat.beq_refl] at h
        cases h
      simp [e]
theorem sOf_beq (x y : List Nat) : (sOf x == sOf y) = leq x y := by
  rw [leq_eq]
  by_cases h : x = y
  · subst h; simp
  · have : sOf x ≠ sOf y := fun e => h (sOf_inj e)
    simp [this, h]
theorem ieq_beq (i j : Int) : ieq i j = (i == j) := by
  rw [ieq_eq]
  exact (Bool.beq_eq_decide_eq i j).symm
mutual
theorem eqv_D : ∀ {n m : Nat} (v w : Val), datN n v → datN m w → PyData.eqv (toD v) (toD w) = eqv v w
  | n, m, .non, w, _, h => by cases w <;> first | rfl | (cases m <;> exact h.elim)
  | n, m, .bl a, w, _, h => by
    cases w with
    | int j => show ((if a then (1 : Int) else 0) == j) = ieq _ j; rw [ieq_beq]
    | td _ _ _ => cases m <;> exact h.elim
    | ref _ => cases m <;> exact h.elim
    | fn _ => cases m <;> exact h.elim
    | scr => cases m <;> exact h.elim
    | _ => rfl
  | n, m, .int i, w, _, h => by
    cases w with
    | int j => show (i == j) = ieq i j; rw [ieq_beq]
    | bl b => show (i == (if b then (1 : Int) else 0)) = ieq i _; rw [ieq_beq]
    | td _ _ _ => cases m <;> exact h.elim
    | ref _ => cases m <;> exact h.elim
    | fn _ => cases m <;> exact h.elim
    | scr => cases m <;> exact h.elim
    | _ => rfl
  | n, m, .str s, w, _, h => by
    cases w with
    | str t => show (sOf s == sOf t) = leq s t; exact sOf_beq s t
    | td _ _ _ => cases m <;> exact h.elim
    | ref _ => cases m <;> exact h.elim
    | fn _ => cases m <;> exact h.elim
    | scr => cases m <;> exact h.elim
    | _ => rfl
  | 0, m, .tup xs, w, h, _ => h.elim
  | 0, m, .tl xs, w, h, _ => h.elim
  | n + 1, m, .tup xs, w, h, k => by
    cases w with
    | tup ys =>
      cases m with
      | zero => exact k.elim
      | succ m => exact eqvL_D xs ys h k
    | td _ _ _ => cases m <;> exact k.elim
    | ref _ => cases m <;> exact k.elim
    | fn _ => cases m <;> exact k.elim
    | scr => cases m <;> exact k.elim
    | _ => rfl
  | n + 1, m, .tl xs, w, h, k => by
    cases w with
    | tl ys =>
      cases m with
      | zero => exact k.elim
      | succ m => exact eqvL_D xs ys h k
    | td _ _ _ => cases m <;> exact k.elim
    | ref _ => cases m <;> exact k.elim
    | fn _ => cases m <;> exact k.elim
    | scr => cases m <;> exact k.elim
    | _ => rfl
  | n, m, .td _ _ _, w, h, _ => by cases n <;> exact h.elim
  | n, m, .ref _, w, h, _ => by cases n <;> exact h.elim
  | n, m, .fn _, w, h, _ => by cases n <;> exact h.elim
  | n, m, .scr, w, h, _ => by cases n <;> exact h.elim
theorem eqvL_D : ∀ {n m : Nat} (xs ys : List Val), (∀ x ∈ xs, datN n x) → (∀ y ∈ ys, datN m y) → PyData.eqvAll (toDL xs) (toDL ys) = eqvL xs ys
  | _, _, [], [], _, _ => rfl
  | _, _, [], _ :: _, _, _ => rfl
  | _, _, _ :: _, [], _, _ => rfl
  | n, m, x :: xs, y :: ys, h, k => by
    show (PyData.eqv (toD x) (toD y) && PyData.eqvAll (toDL xs) (toDL ys)) = (match eqv x y with | true => eqvL xs ys | false => false)
    rw [eqv_D x y (h x List.mem_cons_self) (k y List.mem_cons_self), eqvL_D xs ys (fun z hz => h z (List.mem_cons_of_mem _ hz)) (fun z hz => k z (List.mem_cons_of_mem _ hz))]
    cases eqv x y <;> rfl
end
section
variable {X : Cx} {W : Wd} {C : Calls} {Wx : WX} {r : Pl} {st : Sto} {H : Hp}
theorem mapO_Dp {K : PySem.W.Frag} {f : Val → Option Val} {n : Nat} (hf : ∀ {v w : Val} {x : V}, f v = some w → Rel W r H v x → Dp K H x (toD w) ∧ datN n w) : ∀ {xs ws : List Val} {ys : List V}, mapO f xs = some ws → RelL W r H xs ys → DpAll K H ys (toDL ws) ∧ ∀ w ∈ ws, datN n w
  | [], ws, ys, h, q => by
    cases h
    cases (show ys = [] from q)
    exact ⟨.nil, fun w hw => by simp at hw⟩
  | x :: xs, ws, ys, h, ⟨y, s, e, h1, h2⟩ => by
    have h : (match f x with | some y => (match mapO f xs with | some s => some (y :: s) | none => none) | none => none) = some ws := h
    cases k1 : f x with
    | none => rw [k1] at h; cases h
    | some z =>
      rw [k1] at h
      have h : (match mapO f xs with | some s => some (z :: s) | none => none) = some ws := h
      cases k2 : mapO f xs with
      | none => rw [k2] at h; cases h
      | some zs =>
        rw [k2] at h
        cases h
        rw [e]
        obtain ⟨a, b⟩ := hf k1 h1
        obtain ⟨c, d⟩ := mapO_Dp hf k2 h2
        exact ⟨.cons a c, fun w hw => (List.mem_cons.mp hw).elim (fun z => by rw [z]; exact b) (d w)⟩
/-- what is frozen is what the heap holds -/
theorem frz_Dp {K : PySem.W.Frag} (p : Rep W r st H) : ∀ {n : Nat} {v w : Val} {x : V}, frz n st v = some w → Rel W r H v x → Dp K H x (toD w) ∧ datN n w
  | 0, v, w, x, h, q => by
    cases v with
    | non => cases h; cases (show x = .non from q); exact ⟨.non, trivial⟩
    | bl b => cases h; cases (show x = .bl b from q); exact ⟨.bl b, trivial⟩
    | int i => cases h; cases (show x = .int i from q); exact ⟨.int i, trivial⟩
    | str s => cases h; obtain ⟨rfl, a⟩ := q; exact ⟨.str _, a⟩
    | _ => cases h
  | n + 1, v, w, x, h, q => by
    cases v with
    | non => cases h; cases (show x = .non from q); exact ⟨.non, trivial⟩
    | bl b => cases h; cases (show x = .bl b from q); exact ⟨.bl b, trivial⟩
    | int i => cases h; cases (show x = .int i from q); exact ⟨.int i, trivial⟩
    | str s => cases h; obtain ⟨rfl, a⟩ := q; exact ⟨.str _, a⟩
    | tup xs =>
      have h : (match mapO (frz n st) xs with | some ys => some (.tup ys) | none => none) = some w := h
      cases k : mapO (frz n st) xs with
      | none => rw [k] at h; cases h
      | some ws =>
        rw [k] at h
        cases h
        obtain ⟨a, ys, rfl, e, q⟩ := q
        obtain ⟨c, d⟩ := mapO_Dp (frz_Dp p) k q
        exact ⟨.tup (.of e) c, d⟩
    | tl xs =>
      have h : (match mapO (frz n st) xs with | some ys => some (.tl ys) | none => none) = some w := h
      cases k : mapO (frz n st) xs with
      | none => rw [k] at h; cases h
      | some ws =>
        rw [k] at h
        cases h
        obtain ⟨a, ys, rfl, _, e, q⟩ := q
        obtain ⟨c, d⟩ := mapO_Dp (frz_Dp p) k q
        exact ⟨.lst (.of e) c, d⟩
    | ref m =>
      have h : (match st[m]? with | some (.lst xs) => (match mapO (frz n st) xs with | some ys => some (.tl ys) | none => none) | _ => none) = some w := h
      obtain ⟨a, rfl, hr⟩ := q
      obtain ⟨o, ho, q⟩ := p.at_ hr
      rw [ho] at h
      cases o with
      | lst xs =>
        have h : (match mapO (frz n st) xs with | some ys => some (.tl ys) | none => none) = some w := h
        cases k : mapO (frz n st) xs with
        | none => rw [k] at h; cases h
        | some ws =>
          rw [k] at h
          cases h
          obtain ⟨ys, e, q⟩ := q
          obtain ⟨c, d⟩ := mapO_Dp (frz_Dp p) k q
          exact ⟨.lst (.of e) c, d⟩
      | _ => cases h
    | _ => cases h
theorem eqS_D {K : PySem.W.Frag} (p : Rep W r st H) {a b : Val} {x y : V} {c : Bool} (h : eqS st a b = some c) (ra : Rel W r H a x) (rb : Rel W r H b y) :
    ∃ d e, Dp K H x d ∧ Dp K H y e ∧ SeqAt.shaped d = true ∧ SeqAt.shaped e = true ∧ PyData.eqv d e = c := by
  unfold eqS at h
  cases h1 : frz 6 st a with
  | none => rw [h1] at h; cases h
  | some v =>
    rw [h1] at h
    have h : (match frz 6 st b with | some y => some (eqv v y) | none => none) = some c := h
    cases h2 : frz 6 st b with
    | none => rw [h2] at h; cases h
    | some w =>
      rw [h2] at h
      obtain ⟨k1, d1⟩ := frz_Dp (K := K) p h1 ra
      obtain ⟨k2, d2⟩ := frz_Dp (K := K) p h2 rb
      refine ⟨toD v, toD w, k1, k2, dat_shaped d1 (by decide), dat_shaped d2 (by decide), ?_⟩
      rw [eqv_D v w d1 d2]
      exact Option.some.inj h
theorem o_eq (hu : X.A.units + 64 < cLine) : OpR X (compareOp .Eq) (rB W (cmpV .eq)) := by
  intro pins s σ H x y v u Q I rx ry ⟨r, st, a, b, E, p, ra, rb, g⟩
  have g : Good W (ob (eqS st a b) st) r H Q E := g
  cases h : eqS st a b with
  | none => rw [h] at g; exact g.elim
  | some c =>
    rw [h] at g
    obtain ⟨d, e, h1, h2, h3, h4, h5⟩ := eqS_D (K := X.K) p h ra rb
    refine op_eqD hu pins s σ H _ _ v u Q I rx ry ⟨d, e, h1, h2, h3, h4, ?_⟩
    rw [h5]
    exact g r H _ .refl p rfl
theorem o_ne (hu : X.A.units + 64 < cLine) : OpR X (compareOp .NotEq) (rB W (cmpV .ne)) := by
  intro pins s σ H x y v u Q I rx ry ⟨r, st, a, b, E, p, ra, rb, g⟩
  have g : Good W (ob (notO (eqS st a b)) st) r H Q E := g
  cases h : eqS st a b with
  | none => rw [h] at g; exact g.elim
  | some c =>
    rw [h] at g
    obtain ⟨d, e, h1, h2, h3, h4, h5⟩ := eqS_D (K := X.K) p h ra rb
    refine op_neD hu pins s σ H _ _ v u Q I rx ry ⟨d, e, h1, h2, h3, h4, ?_⟩
    rw [h5]
    exact g r H _ .refl p rfl
end
end G

end

section
/-! Dicts; in, is; places in sequences; slices. -/
namespace G
open PySem PySem.Spec PyProof.Rows L2
/-! ### keys -/
theorem isKey_toK {v : Val} (h : isKey v = true) : ∃ k, toK v = some k := by
  cases v with
  | int i => exact ⟨_, rfl⟩
  | str s => exact ⟨_, rfl⟩
  | _ => cases h
theorem allKey_toKs : ∀ {xs : List Val}, allKey xs = true → ∃ ks, toKs xs = some ks
  | [], _ => ⟨[], rfl⟩
  | x :: r, h => by
    have h : (match isKey x with | true => allKey r | false => false) = true := h
    cases h1 : isKey x with
    | false => rw [h1] at h; cases h
    | true =>
      rw [h1] at h
      obtain ⟨k, hk⟩ := isKey_toK h1
      obtain ⟨ks, hs⟩ := allKey_toKs h
      exact ⟨k :: ks, by unfold toKs; rw [hk, hs]⟩
theorem toK_eqv {x y : Val} {k l : Key} (h1 : toK x = some k) (h2 : toK y = some l) : eqv x y = decide (k = l) := by
  cases x with
  | int i =>
    cases h1
    cases y with
    | int j =>
      cases h2
      show ieq i j = _
      rw [ieq_eq]
      by_cases h : i = j
      · subst h; simp
      · have : (Sum.inl i : Key) ≠ Sum.inl j := fun e => h (Sum.inl.inj e)
        simp [h, this]
    | str t => cases h2; rfl
    | _ => cases h2
  | str s =>
    cases h1
    cases y with
    | int j => cases h2; rfl
    | str t =>
      cases h2
      show leq s t = _
      rw [leq_eq]
      by_cases h : s = t
      · subst h; simp
      · have : (Sum.inr (sOf s) : Key) ≠ Sum.inr (sOf t) := fun e => h (sOf_inj (Sum.inr.inj e))
        simp [h, this]
    | _ => cases h2
  | _ => cases h1
theorem toKs_cons {x : Val} {r : List Val} {ks : List Key} (h : toKs (x :: r) = some ks) : ∃ k s, ks = k :: s ∧ toK x = some k ∧ toKs r = some s := by
  have h : (match toK x with | some k => (match toKs r with | some s => some (k :: s) | none => none) | none => none) = some ks := h
  cases h1 : toK x with
  | none => rw [h1] at h; cases h
  | some k =>
    rw [h1] at h
    have h : (match toKs r with | some s => some (k :: s) | none => none) = some ks := h
    cases h2 : toKs r with
    | none => rw [h2] at h; cases h
    | some s =>
      rw [h2] at h
      cases h
      exact ⟨k, s, rfl, rfl, rfl⟩
theorem toKs_eqv : ∀ {xs ys : List Val} {ks ls : List Key}, toKs xs = some ks → toKs ys = some ls → eqvL xs ys = decide (ks = ls)
  | [], [], ks, ls, h1, h2 => by cases h1; cases h2; rfl
  | [], y :: ys, ks, ls, h1, h2 => by
    cases h1
    obtain ⟨l, s, rfl, _⟩ := toKs_cons h2
    rfl
  | x :: xs, [], ks, ls, h1, h2 => by
    cases h2
    obtain ⟨l, s, rfl, _⟩ := toKs_cons h1
    rfl
  | x :: xs, y :: ys, ks, ls, h1, h2 => by
    obtain ⟨k, s, rfl, a1, a2⟩ := toKs_cons h1
    obtain ⟨l, t, rfl, b1, b2⟩ := toKs_cons h2
    show (match eqv x y with | true => eqvL xs ys | false => false) = _
    rw [toK_eqv a1 b1, toKs_eqv a2 b2]
    by_cases e : k = l
    · subst e
      simp
    · simp [e]
section
variable {X : Cx} {W : Wd} {C : Calls} {Wx : WX} {r : Pl} {st : Sto} {H : Hp}
theorem Rel.key {v : Val} {x : V} {k : Key} (h : toK v = some k) (q : Rel W r H v x) : x = kV k := by
  cases v with
  | int i => cases h; exact q
  | str s => cases h; exact q.1
  | _ => cases h
theorem RelL.keys : ∀ {vs : List Val} {xs : List V} {ks : List Key}, toKs vs = some ks → RelL W r H vs xs → xs = ks.map kV
  | [], xs, ks, h, q => by cases h; exact q
  | v :: vs, xs, ks, h, ⟨y, s, e, h1, h2⟩ => by
    obtain ⟨k, t, rfl, a1, a2⟩ := toKs_cons h
    rw [e, h1.key a1, RelL.keys a2 h2]
    rfl
/-- what is found at a key -/
theorem getK {k : Val} {kk : Key} (hk : toK k = some kk) : ∀ {ks vs : List Val} {kvs : List (Key × V)}, RelK ks (kvs.map (·.1)) → RelL W r H vs (kvs.map (·.2)) →
    match dget k ks vs with
    | some v => ∃ x, valV kvs kk = some x ∧ Rel W r H v x
    | none => valV kvs kk = none
  | [], vs, kvs, h1, h2 => by
    have e : kvs.map (·.1) = [] := h1
    have e : kvs = [] := List.map_eq_nil_iff.mp e
    subst e
    rfl
  | x :: ks, vs, [], h1, h2 => by
    obtain ⟨_, _, e, _⟩ := h1
    cases e
  | x :: ks, [], p :: kvs, h1, h2 => by
    cases (show _ = [] from h2)
  | x :: ks, v :: vs, p :: kvs, ⟨k', s, e, hx, h1⟩, ⟨y, s', e', hy, h2⟩ => by
    cases e
    cases e'
    show match (match keyEq x k with | true => some v | false => dget k ks vs) with | some v => ∃ x, valV (p :: kvs) kk = some x ∧ Rel W r H v x | none => valV (p :: kvs) kk = none
    rw [show keyEq x k = eqv x k from rfl, toK_eqv hx hk]
    by_cases e : p.1 = kk
    · rw [decide_eq_true e]
      exact ⟨p.2, valV_pos e, hy⟩
    · rw [decide_eq_false e]
      rw [valV_neg e]
      exact getK hk h1 h2
theorem getT {k : List Val} {kk : List Key} (hk : toKs k = some kk) : ∀ {ks vs : List Val} {kvs : List (List Key × V)}, RelT ks (kvs.map (·.1)) → RelL W r H vs (kvs.map (·.2)) →
    match dget (.tup k) ks vs with
    | some v => ∃ x, valV kvs kk = some x ∧ Rel W r H v x
    | none => valV kvs kk = none
  | [], vs, kvs, h1, h2 => by
    have e : kvs.map (·.1) = [] := h1
    have e : kvs = [] := List.map_eq_nil_iff.mp e
    subst e
    rfl
  | x :: ks, vs, [], h1, h2 => by
    obtain ⟨_, _, _, e, _⟩ := h1
    cases e
  | x :: ks, [], p :: kvs, h1, h2 => by
    cases (show _ = [] from h2)
  | x :: ks, v :: vs, p :: kvs, ⟨k', s, xs, e, ex, hx, h1⟩, ⟨y, s', e', hy, h2⟩ => by
    cases e
    cases e'
    subst ex
    show match (match keyEq (.tup xs) (.tup k) with | true => some v | false => dget (.tup k) ks vs) with | some v => ∃ x, valV (p :: kvs) kk = some x ∧ Rel W r H v x | none => valV (p :: kvs) kk = none
    rw [show keyEq (.tup xs) (.tup k) = eqvL xs k from rfl, toKs_eqv hx hk]
    by_cases e : p.1 = kk
    · rw [decide_eq_true e]
      exact ⟨p.2, valV_pos e, hy⟩
    · rw [decide_eq_false e]
      rw [valV_neg e]
      exact getT hk h1 h2
/-- a dict at a -/
def RD (W : Wd) (r : Pl) (H : Hp) (a : Addr) (t : Bool) (ks vs : List Val) : Prop := match t with
  | false => ∃ kvs : List (Key × V), Rd H a (.dK kvs) ∧ RelK ks (kvs.map (·.1)) ∧ RelL W r H vs (kvs.map (·.2))
  | true => ∃ kvs : List (List Key × V), Rd H a (.dT kvs) ∧ RelT ks (kvs.map (·.1)) ∧ RelL W r H vs (kvs.map (·.2))
theorem RO.rd {a : Addr} {t : Bool} {ks vs : List Val} (h : RO W r H a (.dic t ks vs)) : RD W r H a t ks vs := by
  cases t with
  | false => obtain ⟨kvs, e, q⟩ := h; exact ⟨kvs, .inl e, q⟩
  | true => obtain ⟨kvs, e, q⟩ := h; exact ⟨kvs, .inl e, q⟩
theorem Rel.rd {x : V} {t : Bool} {ks vs : List Val} (h : Rel W r H (.td t ks vs) x) : ∃ a, x = .ref a ∧ RD W r H a t ks vs := by
  cases t with
  | false =>
    obtain ⟨a, e, _, kvs, ⟨od, h1⟩, h2, h3⟩ := h
    exact ⟨a, e, kvs, .inr ⟨od, h1⟩, h2, h3⟩
  | true =>
    obtain ⟨a, e, _, kvs, ⟨od, h1⟩, h2, h3⟩ := h
    exact ⟨a, e, kvs, .inr ⟨od, h1⟩, h2, h3⟩
theorem RD.get {a : Addr} {t : Bool} {ks vs : List Val} (h : RD W r H a t ks vs) {k : Val} {y : V} (hk : keyOk t k = true) (q : Rel W r H k y) :
    match dget k ks vs with
    | some v => ∃ x, DGet H a y (some x) ∧ Rel W r H v x
    | none => DGet H a y none := by
  cases t with
  | false =>
    obtain ⟨kvs, e, h1, h2⟩ := h
    obtain ⟨kk, hkk⟩ := isKey_toK hk
    have z := getK hkk h1 h2
    rw [q.key hkk]
    cases hd : dget k ks vs with
    | none => rw [hd] at z; exact .inl ⟨kvs, kk, e, rfl, z.symm⟩
    | some v =>
      rw [hd] at z
      obtain ⟨x, a1, a2⟩ := z
      exact ⟨x, .inl ⟨kvs, kk, e, rfl, a1.symm⟩, a2⟩
  | true =>
    obtain ⟨kvs, e, h1, h2⟩ := h
    cases k with
    | tup xs =>
      obtain ⟨kk, hkk⟩ := allKey_toKs (show allKey xs = true from hk)
      have z := getT hkk h1 h2
      obtain ⟨b, ys, rfl, hb, q⟩ := q
      rw [q.keys hkk] at hb
      cases hd : dget (.tup xs) ks vs with
      | none => rw [hd] at z; exact .inr ⟨kvs, kk, b, e, rfl, hb, z.symm⟩
      | some v =>
        rw [hd] at z
        obtain ⟨x, a1, a2⟩ := z
        exact ⟨x, .inr ⟨kvs, kk, b, e, rfl, hb, a1.symm⟩, a2⟩
    | _ => cases hk
/-- d[k] -/
theorem ix_dict (hu : X.A.units + 1 < cLine) : IxR X (fun x y H Q => ∃ a v, x = .ref a ∧ DGet H a y (some v) ∧ Q v H) := by
  intro value slice pins s σ H x y v u Q I rx ry h hs
  obtain ⟨a, z, rfl, g, q⟩ := h
  obtain rfl : v = Value.ref a := rx
  exact tail_any (dict_typeIs I g) PySem.F.slot_dict_getitem.lookup (d_getItem hu I g ry fun w' s3 I3 rw' => ⟨z, H, I3, rw', q⟩) hs
theorem op_inDict (hu : X.A.units + 1 < cLine) : OpR X (compareOp .In) (fun y x H Q => ∃ a o, x = .ref a ∧ DGet H a y o ∧ Q (.bl o.isSome) H) := by
  intro pins s σ H x y v u Q I rx ry ⟨a, o, ex, g, q⟩
  subst ex
  obtain rfl : u = Value.ref a := ry
  exact d_in hu I g rx fun s3 I3 => ⟨.bl o.isSome, H, I3, rfl, q⟩
theorem op_notInDict (hu : X.A.units + 1 < cLine) : OpR X (compareOp .NotIn) (fun y x H Q => ∃ a o, x = .ref a ∧ DGet H a y o ∧ Q (.bl (!o.isSome)) H) := by
  intro pins s σ H x y v u Q I rx ry ⟨a, o, ex, g, q⟩
  subst ex
  obtain rfl : u = Value.ref a := ry
  exact d_notIn hu I g rx fun s3 I3 => ⟨.bl (!o.isSome), H, I3, rfl, q⟩

/-! ### places -/
theorem ixn_N (n : Nat) (i : Int) : ixn n i = ixN n i := by
  unfold ixN
  cases i with
  | ofNat k =>
    show (match Nat.blt k n with | true => some k | false => none) = _
    have h0 : (0 : Int) ≤ Int.ofNat k := Int.natCast_nonneg k
    rw [if_pos h0]
    cases h : Nat.blt k n with
    | true =>
      have : k < n := by simpa [Nat.blt_eq] using h
      rw [if_pos (show Int.ofNat k < (n : Int) by show (k : Int) < n; omega)]
      rfl
    | false =>
      have : ¬ k < n := by
        intro z
        rw [show Nat.blt k n = true by simpa [Nat.blt_eq] using z] at h
        cases h
      rw [if_neg (show ¬ Int.ofNat k < (n : Int) by show ¬ (k : Int) < n; omega)]
  | negSucc k =>
    show (match Nat.blt k n with | true => some (n - (k + 1)) | false => none) = _
    rw [if_neg (show ¬ (0 : Int) ≤ Int.negSucc k by omega)]
    cases h : Nat.blt k n with
    | true =>
      have : k < n := by simpa [Nat.blt_eq] using h
      rw [if_pos (show -(n : Int) ≤ Int.negSucc k by omega)]
      show some (n - (k + 1)) = some (Int.negSucc k + (n : Int)).toNat
      congr 1
      omega
    | false =>
      have : ¬ k < n := by
        intro z
        rw [show Nat.blt k n = true by simpa [Nat.blt_eq] using z] at h
        cases h
      rw [if_neg (show ¬ -(n : Int) ≤ Int.negSucc k by omega)]
theorem itemV_at {xs : List Val} {ys : List V} {i : Int} {v : Val} (h : itemV xs i = some v) (q : RelL W r H xs ys) : ∃ y, atI ys i = some y ∧ Rel W r H v y := by
  unfold itemV at h
  rw [ixn_N, q.len] at h
  unfold atI
  cases h1 : ixN ys.length i with
  | none => rw [h1] at h; cases h
  | some k =>
    rw [h1] at h
    obtain ⟨y, a, b⟩ := q.get (show xs[k]? = some v from h)
    exact ⟨y, a, b⟩
def rIxG (W : Wd) : R2 := rB W subV
theorem ix_all (hu : X.A.units + 1 < cLine) : IxR X (rB W subV) := by
  intro value slice pins s σ H x y v u Q I rx ry ⟨r, st, a, b, E, p, ra, rb, g⟩ hs
  have lst : ∀ {xs : List Val} {l : Addr} {ys : List V} {k : Int}, x = .ref l → y = .int k → H l = some (.lst ys) → RelL W r H xs ys → Good W (match itemV xs k with | some v => .ok v st | none => .no) r H Q E →
      wpAny (model X.prog X.w) X.A (subscriptTail value slice v u) (EP X pins σ Q) X.xe s := by
    intro xs l ys k ex ey hl q g
    cases h : itemV xs k with
    | none => rw [h] at g; exact g.elim
    | some w =>
      rw [h] at g
      obtain ⟨z, a1, a2⟩ := itemV_at h q
      exact ix_list value slice pins s σ H x y v u Q I rx ry ⟨l, ys, k, z, ex, ey, .of hl, a1, g r H _ .refl p a2⟩ hs
  have dic : ∀ {t : Bool} {ks vs : List Val} {l : Addr}, x = .ref l → RD W r H l t ks vs → Good W (match keyOk t b with | true => (match dget b ks vs with | some v => .ok v st | none => .no) | false => .no) r H Q E →
      wpAny (model X.prog X.w) X.A (subscriptTail value slice v u) (EP X pins σ Q) X.xe s := by
    intro t ks vs l ex hd g
    cases hk : keyOk t b with
    | false => rw [hk] at g; exact g.elim
    | true =>
      rw [hk] at g
      have g : Good W (match dget b ks vs with | some v => .ok v st | none => .no) r H Q E := g
      have z := hd.get hk rb
      cases h : dget b ks vs with
      | none => rw [h] at g; exact g.elim
      | some w =>
        rw [h] at g z
        obtain ⟨z, a1, a2⟩ := z
        exact ix_dict hu value slice pins s σ H x y v u Q I rx ry ⟨l, z, ex, a1, g r H _ .refl p a2⟩ hs
  cases a with
  | tup xs =>
    cases b with
    | int k =>
      have g : Good W (match itemV xs k with | some v => .ok v st | none => .no) r H Q E := g
      obtain ⟨l, ys, rfl, hl, q⟩ := ra
      cases h : itemV xs k with
      | none => rw [h] at g; exact g.elim
      | some w =>
        rw [h] at g
        obtain ⟨z, a1, a2⟩ := itemV_at h q
        exact ix_tup value slice pins s σ H _ y v u Q I rx ry ⟨l, ys, k, z, rfl, rb, .of hl, a1, g r H _ .refl p a2⟩ hs
    | _ => exact (show False from g).elim
  | tl xs =>
    cases b with
    | int k =>
      obtain ⟨l, ys, e, _, hl, q⟩ := ra
      exact lst e rb hl q g
    | _ => exact (show False from g).elim
  | str t =>
    cases b with
    | int k =>
      obtain ⟨rfl, ha⟩ := ra
      have g : Good W (match ixn t.length k with | some j => (match t[j]? with | some c => .ok (.str [c]) st | none => .no) | none => .no) r H Q E := g
      cases h : ixn t.length k with
      | none => rw [h] at g; exact g.elim
      | some j =>
        rw [h] at g
        have g : Good W (match t[j]? with | some c => .ok (.str [c]) st | none => .no) r H Q E := g
        cases h2 : t[j]? with
        | none => rw [h2] at g; exact g.elim
        | some c =>
          rw [h2] at g
          have hl : (sOf t).length ≤ sizeLine := by rw [sOf_len]; exact line_ok (by have := ha.1; omega)
          refine ix_str value slice pins s σ H _ y v u Q I rx ry ⟨sOf t, k, c, rfl, rb, hl, ?_, g r H _ .refl p ⟨rfl, by simp, fun d hd => ?_⟩⟩ hs
          · unfold atI
            show (ixN t.toArray.toList.length k).bind (fun j => t.toArray.toList[j]?) = some c
            rw [List.toList_toArray, ← ixn_N, h]
            exact h2
          · have : d = c := by simpa using hd
            rw [this]
            exact ha.2 c (List.mem_of_getElem? h2)
    | _ => exact (show False from g).elim
  | td t ks vs =>
    obtain ⟨l, e, hd⟩ := Rel.rd ra
    exact dic e hd g
  | ref n =>
    obtain ⟨l, e, hr⟩ := ra
    obtain ⟨o, ho, q⟩ := p.at_ hr
    simp only [subV, ho] at g
    cases o with
    | lst xs =>
      cases b with
      | int k =>
        obtain ⟨ys, hl, q⟩ := q
        exact lst e rb hl q g
      | _ => exact (show False from g).elim
    | dic t ks vs => exact dic e q.rd g
    | dcn ks vs => exact (show False from g).elim
    | ins fs => exact (show False from g).elim
    | fdi ks vs =>
      obtain ⟨kvs, od, h1, h2, h3⟩ := q
      exact dic (t := false) e ⟨kvs, .inr ⟨od, h1⟩, h2, h3⟩ g
  | _ => exact (show False from g).elim
theorem e_sub {a b : Expr} {ia ib : E} {pos} (hu : X.A.units + 1 < cLine) (ha : PE X a (dE W C Wx ia)) (hb : PE X b (dE W C Wx ib)) (hs : PlainIx b) : PE X (.Subscript a b pos) (dE W C Wx (.sub ia ib)) :=
  peI (pe_ix (ix_all hu) ha hb hs) fun σ H Q ⟨r, st, env, p, q, g⟩ => two p q g
end
end G

end

section
/-! Truth, tests, statements, loops, comprehensions. -/
namespace G
open PySem PySem.Spec PyProof.Rows L2
section
variable {X : Cx} {W : Wd} {C : Calls} {Wx : WX}
/-! ### and, or, not, if as values -/
theorem e_one {op : BoolOp} {a : Expr} {ia : E} {pos} (h : PE X a (dE W C Wx ia)) : PE X (.BoolOp op [a] pos) (dE W C Wx ia) := pe_one h
theorem e_and {a b : Expr} {rest : List Expr} {ia ib : E} {pos} (ha : PE X a (dE W C Wx ia)) (hb : PE X (.BoolOp .And (b :: rest) pos) (dE W C Wx ib)) : PE X (.BoolOp .And (a :: b :: rest) pos) (dE W C Wx (.and ia ib)) := by
  refine peI (pe_and ha hb) fun σ H Q ⟨r, st, env, p, q, g⟩ => ⟨r, st, env, p, q, Good.seq g fun v st1 r1 H1 x e1 p1 q1 g1 => ?_⟩
  cases v with
  | bl c =>
    refine ⟨c, q1, ?_⟩
    cases c with
    | true => rw [if_pos rfl]; exact ⟨r1, st1, env, p1, q.ext e1, g1⟩
    | false => rw [if_neg Bool.false_ne_true]; exact g1 r1 H1 _ .refl p1 rfl
  | _ => exact (show False from g1).elim
theorem e_or {a b : Expr} {rest : List Expr} {ia ib : E} {pos} (ha : PE X a (dE W C Wx ia)) (hb : PE X (.BoolOp .Or (b :: rest) pos) (dE W C Wx ib)) : PE X (.BoolOp .Or (a :: b :: rest) pos) (dE W C Wx (.or ia ib)) := by
  refine peI (pe_or ha hb) fun σ H Q ⟨r, st, env, p, q, g⟩ => ⟨r, st, env, p, q, Good.seq g fun v st1 r1 H1 x e1 p1 q1 g1 => ?_⟩
  cases v with
  | bl c =>
    refine ⟨c, q1, ?_⟩
    cases c with
    | true => rw [if_pos rfl]; exact g1 r1 H1 _ .refl p1 rfl
    | false => rw [if_neg Bool.false_ne_true]; exact ⟨r1, st1, env, p1, q.ext e1, g1⟩
  | _ => exact (show False from g1).elim
theorem e_not {a : Expr} {ia : E} {pos} (ha : PE X a (dE W C Wx ia)) : PE X (.UnaryOp .Not a pos) (dE W C Wx (.not ia)) := by
  refine peI (pe_not ha) fun σ H Q ⟨r, st, env, p, q, g⟩ => ⟨r, st, env, p, q, Good.seq g fun v st1 r1 H1 x e1 p1 q1 g1 => ?_⟩
  cases v with
  | bl c => exact ⟨c, q1, g1 r1 H1 _ .refl p1 rfl⟩
  | _ => exact (show False from g1).elim
/-! ### tests -/
/-- a test by its value -/
theorem toT {i : E} {σ : St} {H : Hp} {Q : Bool → Hp → Prop} (h : dT W C Wx i σ H Q) : dE W C Wx i σ H fun x H1 => ∃ c, x = .bl c ∧ Q c H1 := by
  obtain ⟨r, st, env, p, q, g⟩ := h
  refine ⟨r, st, env, p, q, ?_⟩
  cases h : ev C i env st with
  | no => rw [h] at g; exact g
  | exc k st1 => rw [h] at g; exact g
  | ok v st1 =>
    rw [h] at g
    cases v with
    | bl c => exact fun r1 H1 x e1 p1 q1 => ⟨c, q1, g r1 H1 e1 p1⟩
    | _ => exact (show False from g).elim
theorem t_val {e : Expr} {i : E} (h : PE X e (dE W C Wx i)) (he : ∀ whole, isTrue e X.env whole = (do let v ← whole; standAt e.pos; holding [v] (truthy v)) := by intro _; rfl) : PT X e (dT W C Wx i) :=
  ptI (pt_val h he) fun σ H Q g => toT g
/-- two values compared, as a test -/
theorem twoT {a b : E} {f : Val → Val → Sto → Rs} {σ : St} {H : Hp} {Q : Bool → Hp → Prop} {r : Pl} {st : Sto} {env : Env} (p : Rep W r st H) (q : RelE W r H env σ)
    (g : GoodT W ((ev C a env st).bind fun x st1 => (ev C b env st1).bind fun y st2 => f x y st2) r H Q fun k H' => EX W Wx k σ H') : tTest (tOp (rB W f) (dE W C Wx a) (dE W C Wx b)) σ H Q := by
  have g2 : Good W ((ev C a env st).bind fun x st1 => (ev C b env st1).bind fun y st2 => f x y st2) r H (fun x H1 => ∃ k, x = .bl k ∧ Q k H1) fun k H' => EX W Wx k σ H' := by
    cases h : ((ev C a env st).bind fun x st1 => (ev C b env st1).bind fun y st2 => f x y st2) with
    | no => rw [h] at g; exact g
    | exc k st1 => rw [h] at g; exact g
    | ok v st1 =>
      rw [h] at g
      cases v with
      | bl c => exact fun r1 H1 x e1 p1 q1 => ⟨c, q1, g r1 H1 e1 p1⟩
      | _ => exact (show False from g).elim
  exact two p q g2
theorem t_cmp {op : CmpOp} {o : Cm} {a b : Expr} {ia ib : E} {pos} (ho : OpR X (compareOp op) (rB W (cmpV o))) (ha : PE X a (dE W C Wx ia)) (hb : PE X b (dE W C Wx ib)) (hm : behindInMarks op b = false) : PT X (.Compare a [op] [b] pos) (dT W C Wx (.cmp o ia ib)) :=
  ptI (pt_cmpR ho ha hb hm) fun σ H Q ⟨r, st, env, p, q, g⟩ => twoT p q g
theorem t_chain {op op' : CmpOp} {o o' : Cm} {a b c : Expr} {ia ib ic : E} {pos} (ho : OpR X (compareOp op) (rB W (cmpV o))) (ho' : OpR X (compareOp op') (rB W (cmpV o'))) (ha : PE X a (dE W C Wx ia)) (hb : PE X b (dE W C Wx ib)) (hc : PE X c (dE W C Wx ic))
    (hm : lastMarks [op, op'] [b, c] = false := by with_unfolding_all rfl) : PT X (.Compare a [op, op'] [b, c] pos) (dT W C Wx (.chain o o' ia ib ic)) := by
  refine ptI (pt_chain ho ho' ha hb hc hm) fun σ H Q g => ?_
  obtain ⟨r, st, env, p, q, g⟩ := toT g
  refine ⟨r, st, env, p, q, Good.seq g fun v st1 r1 H1 x e1 p1 q1 g1 => ?_⟩
  refine ⟨r1, st1, env, p1, q.ext e1, g1.seq fun w st2 r2 H2 y e2 p2 q2 g2 => ?_⟩
  refine ⟨r2, st2, v, w, _, p2, q1.ext e2, q2, g2.seq fun u st3 r3 H3 z e3 p3 q3 g3 => ?_⟩
  cases u with
  | bl k =>
    refine ⟨k, q3, ?_⟩
    cases k with
    | true =>
      rw [if_pos rfl]
      exact ⟨r3, st3, env, p3, ((q.ext e1).ext e2).ext e3, g3.seq fun t st4 r4 H4 z' e4 p4 q4 g4 => ⟨r4, st4, w, t, _, p4, (q2.ext e3).ext e4, q4, g4⟩⟩
    | false =>
      rw [if_neg Bool.false_ne_true]
      exact g3 r3 H3 _ .refl p3 rfl
  | _ => exact (show False from g3).elim
/-- a part of a test: its own value decides -/
theorem seqT {ia : E} {f : Val → Sto → Rs} {σ : St} {H : Hp} {Q Q' : Bool → Hp → Prop} {r : Pl} {st : Sto} {env : Env} (g : GoodT W ((ev C ia env st).bind f) r H Q fun k H' => EX W Wx k σ H')
    (hf : ∀ v st1, (∀ c, v ≠ .bl c) → f v st1 = .no) (k : ∀ c st1 r1 H1, Ext r H r1 H1 → Rep W r1 st1 H1 → GoodT W (f (.bl c) st1) r1 H1 Q (fun k H' => EX W Wx k σ H') → Q' c H1) :
    GoodT W (ev C ia env st) r H Q' fun k H' => EX W Wx k σ H' := by
  have ext : ∀ {rs : Rs} {r1 : Pl} {H1 : Hp}, Ext r H r1 H1 → GoodT W rs r H Q (fun k H' => EX W Wx k σ H') → GoodT W rs r1 H1 Q (fun k H' => EX W Wx k σ H') := by
    intro rs r1 H1 x g
    cases rs with
    | no => exact g
    | exc k st1 => exact fun r2 H2 a b => g r2 H2 (x.trans a) b
    | ok v st1 =>
      cases v with
      | bl c => exact fun r2 H2 a b => g r2 H2 (x.trans a) b
      | _ => exact (show False from g).elim
  cases h : ev C ia env st with
  | no => rw [h] at g; exact g
  | exc k st1 => rw [h] at g; exact g
  | ok v st1 =>
    rw [h] at g
    have g : GoodT W (f v st1) r H Q fun k H' => EX W Wx k σ H' := g
    by_cases hb : ∃ c, v = .bl c
    · obtain ⟨c, rfl⟩ := hb
      exact fun r1 H1 e1 p1 => k c st1 r1 H1 e1 p1 (ext e1 g)
    · rw [hf v st1 fun c e => hb ⟨c, e⟩] at g
      exact g.elim
theorem w_and1 {a : Expr} {ia : E} {pos} (ha : PT X a (dT W C Wx ia)) : PW X (.BoolOp .And [a] pos) (dT W C Wx ia) := pw_and1 ha
theorem w_or1 {a : Expr} {ia : E} {pos} (ha : PT X a (dT W C Wx ia)) : PW X (.BoolOp .Or [a] pos) (dT W C Wx ia) := pw_or1 ha
theorem pwI {e : Expr} {t t' : TT} (h : PW X e t) (w : ∀ σ H Q, t' σ H Q → t σ H Q) : PW X e t' := ⟨fun wh pins s σ H Q I q => h.run wh pins s σ H Q I (w σ H Q q)⟩
theorem w_and {a b : Expr} {rest : List Expr} {ia ib : E} {pos} (ha : PT X a (dT W C Wx ia)) (hb : PW X (.BoolOp .And (b :: rest) pos) (dT W C Wx ib)) : PW X (.BoolOp .And (a :: b :: rest) pos) (dT W C Wx (.and ia ib)) := by
  refine pwI (pw_and ha hb) fun σ H Q ⟨r, st, env, p, q, g⟩ => ⟨r, st, env, p, q, seqT g (fun v st1 h => ?_) fun c st1 r1 H1 e1 p1 g1 => ?_⟩
  · cases v with
    | bl c => exact absurd rfl (h c)
    | _ => rfl
  · cases c with
    | true => rw [if_pos rfl]; exact ⟨r1, st1, env, p1, q.ext e1, g1⟩
    | false => rw [if_neg Bool.false_ne_true]; exact g1 r1 H1 .refl p1
theorem w_or {a b : Expr} {rest : List Expr} {ia ib : E} {pos} (ha : PT X a (dT W C Wx ia)) (hb : PW X (.BoolOp .Or (b :: rest) pos) (dT W C Wx ib)) : PW X (.BoolOp .Or (a :: b :: rest) pos) (dT W C Wx (.or ia ib)) := by
  refine pwI (pw_or ha hb) fun σ H Q ⟨r, st, env, p, q, g⟩ => ⟨r, st, env, p, q, seqT g (fun v st1 h => ?_) fun c st1 r1 H1 e1 p1 g1 => ?_⟩
  · cases v with
    | bl c => exact absurd rfl (h c)
    | _ => rfl
  · cases c with
    | true => rw [if_pos rfl]; exact g1 r1 H1 .refl p1
    | false => rw [if_neg Bool.false_ne_true]; exact ⟨r1, st1, env, p1, q.ext e1, g1⟩
theorem t_w {e : Expr} {i : E} (h : PW X e (dT W C Wx i)) : PT X e (dT W C Wx i) := h.pt
theorem t_not {a : Expr} {ia : E} {pos} (ha : PT X a (dT W C Wx ia)) : PT X (.UnaryOp .Not a pos) (dT W C Wx (.not ia)) := by
  refine ptI (pt_not ha) fun σ H Q ⟨r, st, env, p, q, g⟩ => ⟨r, st, env, p, q, seqT g (fun v st1 h => ?_) fun c st1 r1 H1 e1 p1 g1 => g1 r1 H1 .refl p1⟩
  cases v with
  | bl c => exact absurd rfl (h c)
  | _ => rfl
theorem e_ifx {c a b : Expr} {ic ia ib : E} {pos} (hc : PT X c (dT W C Wx ic)) (ha : PE X a (dE W C Wx ia)) (hb : PE X b (dE W C Wx ib)) : PE X (.IfExp c a b pos) (dE W C Wx (.ifx ic ia ib)) := by
  refine peI (pe_ifExp hc ha hb) fun σ H Q ⟨r, st, env, p, q, g⟩ => ⟨r, st, env, p, q, ?_⟩
  have g : Good W ((ev C ic env st).bind fun x st1 => match x with | .bl true => ev C ia env st1 | .bl false => ev C ib env st1 | _ => .no) r H Q _ := g
  cases h : ev C ic env st with
  | no => rw [h] at g; exact g
  | exc k st1 => rw [h] at g; exact g
  | ok v st1 =>
    rw [h] at g
    cases v with
    | bl k =>
      intro r1 H1 e1 p1
      cases k with
      | true => rw [if_pos rfl]; exact ⟨r1, st1, env, p1, q.ext e1, Good.ext e1 g⟩
      | false => rw [if_neg Bool.false_ne_true]; exact ⟨r1, st1, env, p1, q.ext e1, Good.ext e1 g⟩
    | _ => exact (show False from g).elim

/-! ### statements -/
theorem s_nil : PSs X [] (dS W C Wx .skip) := pssI pss_nil fun D σ H ⟨r, st, env, p, q, g⟩ => g r H σ .refl p q rfl
theorem s_one {st : Stmt} {a : S} (h : PS X st (dS W C Wx a)) : PSs X [st] (dS W C Wx a) := pss_one h
theorem s_cons {s : Stmt} {rest : List Stmt} {a b : S} (h1 : PS X s (dS W C Wx a)) (h2 : PSs X rest (dS W C Wx b)) : PSs X (s :: rest) (dS W C Wx (.seq a b)) := by
  refine pssI (pss_cons h1 h2) fun D σ H ⟨r, st, env, p, q, g⟩ => ⟨r, st, env, p, q, ?_⟩
  have g : GoodS W (match ex C a env st with | .nx e' st' => ex C b e' st' | .ret v st' => .ret v st' | .bk e' st' => .bk e' st' | .exc x st' => .exc x st' | .no => .no) r H σ.length D (EX W Wx) := g
  cases h : ex C a env st with
  | no => rw [h] at g; exact g
  | exc k st1 => rw [h] at g; exact g
  | bk e1 st1 => rw [h] at g; exact g
  | ret v st1 => rw [h] at g; exact g
  | nx e1 st1 =>
    rw [h] at g
    intro r1 H1 σ1 x1 p1 q1 l1
    exact ⟨r1, st1, e1, p1, q1, by rw [l1]; exact GoodS.ext x1 g⟩
theorem s_expr {e : Expr} {i : E} {pos} (h : PE X e (dE W C Wx i)) (hs : swapsWith e none pos.line X.env = pure false := by rfl) : PS X (.Expr e pos) (dS W C Wx (.expr i)) := by
  refine psI (ps_expr h hs) fun D σ H ⟨r, st, env, p, q, g⟩ => ⟨r, st, env, p, q, GoodS.seq g σ rfl fun v st1 r1 H1 x e1 p1 q1 g1 => ?_⟩
  exact g1 r1 H1 σ .refl p1 (q.ext e1) rfl
theorem s_set {i : Nat} {x : Str} {e : Expr} {ie : E} {pos pos' : Pos} (hN : X.N.Nodup) (hi : X.N[i]? = some x) (hx : Loc X.env.scope x) (h : PE X e (dE W C Wx ie)) (hs : swapsWith e (some (.Name x pos')) pos.line X.env = pure false := by rfl)
    (hf : X.fn x = true ∨ X.env.scope.names.lookup x = some .local := by first | exact .inl rfl | exact .inr rfl | assumption) : PS X (.Assign [.Name x pos'] e pos) (dS W C Wx (.set i ie)) := by
  refine psI (ps_set hN hi hx h hs hf) fun D σ H ⟨r, st, env, p, q, g⟩ => ⟨r, st, env, p, q, GoodS.seq g σ rfl fun v st1 r1 H1 x e1 p1 q1 g1 => ?_⟩
  exact g1 r1 H1 _ .refl p1 ((q.ext e1).set i q1) (by simp)
theorem s_ret {e : Expr} {i : E} {pos} (h : PE X e (dE W C Wx i)) : PS X (.Return (some e) pos) (dS W C Wx (.ret i)) := by
  refine psI (ps_ret h) fun D σ H ⟨r, st, env, p, q, g⟩ => ⟨r, st, env, p, q, GoodS.seq g σ rfl fun v st1 r1 H1 x e1 p1 q1 g1 => ?_⟩
  exact g1 r1 H1 _ .refl p1 q1
theorem s_if {c : Expr} {a b : List Stmt} {ic : E} {ia ib : S} {pos} (hc : PT X c (dT W C Wx ic)) (ha : PSs X a (dS W C Wx ia)) (hb : PSs X b (dS W C Wx ib)) : PS X (.If c a b pos) (dS W C Wx (.ite ic ia ib)) := by
  refine psI (ps_if hc ha hb) fun D σ H ⟨r, st, env, p, q, g⟩ => ⟨r, st, env, p, q, ?_⟩
  have g : GoodS W ((ev C ic env st).run fun x st1 => match x with | .bl true => ex C ia env st1 | .bl false => ex C ib env st1 | _ => .no) r H σ.length D (EX W Wx) := g
  cases h : ev C ic env st with
  | no => rw [h] at g; exact g
  | exc k st1 => rw [h] at g; exact fun r1 H1 e1 p1 => g r1 H1 σ e1 p1 rfl
  | ok v st1 =>
    rw [h] at g
    cases v with
    | bl k =>
      intro r1 H1 e1 p1
      cases k with
      | true => rw [if_pos rfl]; exact ⟨r1, st1, env, p1, q.ext e1, GoodS.ext e1 g⟩
      | false => rw [if_neg Bool.false_ne_true]; exact ⟨r1, st1, env, p1, q.ext e1, GoodS.ext e1 g⟩
    | _ => exact (show False from g).elim
theorem s_brk {pos : Pos} : PS X (.Break pos) (dS W C Wx .brk) := psI ps_break fun D σ H ⟨r, st, env, p, q, g⟩ => g r H σ .refl p q rfl
theorem s_pass {pos : Pos} : PS X (.Pass pos) (dS W C Wx .skip) := psI ps_pass fun D σ H ⟨r, st, env, p, q, g⟩ => g r H σ .refl p q rfl
theorem s_par {i j : Nat} {x y : Str} {a b : Expr} {l : E} {pos px py pt : Pos} {kt k2 pt2} (hc : X.calm = true) (hN : X.N.Nodup) (hi : X.N[i]? = some x) (hj : X.N[j]? = some y) (hij : i ≠ j)
    (hx : X.env.scope.names.lookup x = some .local) (hy : X.env.scope.names.lookup y = some .local) (ha : PA X [a, b] (dA W C Wx l))
    (hw : swappedStores [.Tuple [.Name x px, .Name y py] kt pt] (.Tuple [a, b] k2 pt2) X.env = pure (some [x, y]))
    (hs : swapsWithSole [.Tuple [.Name x px, .Name y py] kt pt] (.Tuple [a, b] k2 pt2) pos.line X.env = pure false := by rfl) :
    PS X (.Assign [.Tuple [.Name x px, .Name y py] kt pt] (.Tuple [a, b] k2 pt2) pos) (dS W C Wx (.par i j l)) := by
  refine psI (ps_par hc hN hi hj hij hx hy ha hw hs) fun D σ H ⟨r, st, env, p, q, g⟩ => ⟨r, st, env, p, q, ?_⟩
  have g : GoodS W ((ev C l env st).run fun v st1 => match v with | .tup [x, y] => .nx ((env.set i (some x)).set j (some y)) st1 | _ => .no) r H σ.length D (EX W Wx) := g
  cases h : ev C l env st with
  | no => rw [h] at g; exact g
  | exc k st1 => rw [h] at g; exact fun r1 H1 e1 p1 => g r1 H1 σ e1 p1 rfl
  | ok v st1 =>
    rw [h] at g
    cases v with
    | tup vs =>
      intro r1 H1 xs e1 p1 q1
      match vs, g, q1 with
      | [a, b], g, ⟨y1, s1, ex, h1, y2, s2, ex2, h2, hn⟩ =>
        subst ex ex2
        cases (show s2 = [] from hn)
        exact ⟨y1, y2, rfl, g r1 H1 _ e1 p1 (((q.ext e1).set i h1).set j h2) (by simp)⟩
      | [], g, _ => exact (show False from g).elim
      | [_], g, _ => exact (show False from g).elim
      | _ :: _ :: _ :: _, g, _ => exact (show False from g).elim
    | _ => exact (show False from g).elim
theorem s_aug {i : Nat} {x : Str} {e : Expr} {ie : E} {op : Operator} {o : Op} {f : Int → Int → Int} {pos pos' : Pos} (hN : X.N.Nodup) (hi : X.N[i]? = some x) (hx : Loc X.env.scope x) (h : PE X e (dE W C Wx ie)) (ho : PIp X op (ipI f))
    (hb : ∀ i j st, binV o (.int i) (.int j) st = .ok (.int (f i j)) st) (hb2 : ∀ i b st, (∀ j, b ≠ .int j) → binV o (.int i) b st = .no)
    (hf : X.fn x = true ∨ X.env.scope.names.lookup x = some .local := by first | exact .inl rfl | exact .inr rfl | assumption) : PS X (.AugAssign (.Name x pos') op e pos) (dS W C Wx (.aug i o ie)) := by
  refine psI (ps_aug hN hi hx h ho hf) fun D σ H ⟨r, st, env, p, q, g⟩ => ?_
  have g : GoodS W (match env[i]? with | some (some x) => ((ev C ie env st).run fun y st1 => (match x with | .int _ => (binV o x y st1).run fun z st2 => .nx (env.set i (some z)) st2 | _ => .no)) | _ => .no) r H σ.length D (EX W Wx) := g
  cases hv : env[i]? with
  | none => rw [hv] at g; exact g.elim
  | some u =>
    cases u with
    | none => rw [hv] at g; exact g.elim
    | some u =>
      rw [hv] at g
      obtain ⟨y, hy, ry⟩ := q.at_ i u hv
      refine ⟨y, hy, r, st, env, p, q, GoodS.seq g σ rfl fun v st1 r1 H1 z e1 p1 q1 g1 => ?_⟩
      cases u with
      | int k =>
        cases (show y = .int k from ry)
        by_cases hj : ∃ j, v = .int j
        · obtain ⟨j, rfl⟩ := hj
          have g1 : GoodS W ((binV o (.int k) (.int j) st1).run fun z st2 => .nx (env.set i (some z)) st2) r1 H1 σ.length D (EX W Wx) := g1
          rw [hb] at g1
          exact ⟨k, j, rfl, q1, g1 r1 H1 _ .refl p1 ((q.ext e1).set i (show Rel W r1 H1 (.int (f k j)) (.int (f k j)) from rfl)) (by simp)⟩
        · have g1 : GoodS W ((binV o (.int k) v st1).run fun z st2 => .nx (env.set i (some z)) st2) r1 H1 σ.length D (EX W Wx) := g1
          rw [hb2 k v st1 fun j e => hj ⟨j, e⟩] at g1
          exact g1.elim
      | _ => exact (show False from g1).elim
/-- while -/
theorem s_while {c : Expr} {body : List Stmt} {ic : E} {ib : S} {pos : Pos} (hp : PassesOwn (model X.prog X.w) X.A X.env X.xe) (hc : PT X c (dT W C Wx ic)) (hb : PSs X body (dS W C Wx ib)) : PS X (.While c body [] pos) (dS W C Wx (.whl ic ib)) := by
  refine psI (ps_while hp hc hb) fun D σ H ⟨r, st, env, p, q, g⟩ => ?_
  refine ⟨fun m σ' H' => ∃ r st env, Rep W r st H' ∧ RelE W r H' env σ' ∧ σ'.length = σ.length ∧ GoodS W (whlI (ev C ic) (ex C ib) m env st) r H' σ.length D (EX W Wx), ⟨fuel, r, st, env, p, q, rfl, g⟩, ?_⟩
  rintro m σ1 H1 ⟨r1, st1, env1, p1, q1, l1, g1⟩
  cases m with
  | zero => exact g1.elim
  | succ m =>
    refine ⟨r1, st1, env1, p1, q1, ?_⟩
    unfold whlI at g1
    cases h : ev C ic env1 st1 with
    | no => rw [h] at g1; exact g1
    | exc k st2 => rw [h] at g1; exact fun r2 H2 e2 p2 => g1 r2 H2 σ1 e2 p2 l1
    | ok v st2 =>
      rw [h] at g1
      cases v with
      | bl b =>
        intro r2 H2 e2 p2
        cases b with
        | false =>
          rw [if_neg Bool.false_ne_true]
          exact g1 r2 H2 σ1 e2 p2 (q1.ext e2) l1
        | true =>
          rw [if_pos rfl]
          refine ⟨fun σ' H' => ∃ r st env, Rep W r st H' ∧ RelE W r H' env σ' ∧ σ'.length = σ.length ∧ GoodS W (whlI (ev C ic) (ex C ib) m env st) r H' σ.length D (EX W Wx), fun σ' H' h => ⟨m, Nat.lt_succ_self m, h⟩, ?_⟩
          refine ⟨r2, st2, env1, p2, q1.ext e2, ?_⟩
          rw [l1]
          have g2 : GoodS W (match ex C ib env1 st2 with | .nx e' st' => whlI (ev C ic) (ex C ib) m e' st' | .bk e' st' => .nx e' st' | .ret v st' => .ret v st' | .exc x st' => .exc x st' | .no => .no) r2 H2 σ.length D (EX W Wx) := GoodS.ext e2 g1
          cases h2 : ex C ib env1 st2 with
          | no => rw [h2] at g2; exact g2
          | exc k st3 => rw [h2] at g2; exact g2
          | ret w st3 => rw [h2] at g2; exact g2
          | bk e3 st3 => rw [h2] at g2; exact g2
          | nx e3 st3 =>
            rw [h2] at g2
            exact fun r4 H4 σ4 e4 p4 q4 l4 => ⟨r4, st3, e3, p4, q4, l4, GoodS.ext e4 g2⟩
      | _ => exact (show False from g1).elim
end
end G

end

section
/-! What is walked; targets; for; comprehensions. -/
namespace G
open PySem PySem.Spec PyProof.Rows L2
/-! ### targets -/
def setV : List Nat → List V → St → St
  | i :: is, x :: xs, σ => setV is xs (σ.set i (some x))
  | _, _, σ => σ
def dG (tg : Tg) : TG := fun x σ H Q => match tg with
  | .one i => Q (σ.set i (some x)) H
  | .many is => ∃ a xs, x = .ref a ∧ H a = some (.tup xs) ∧ xs.length = is.length ∧ Q (setV is xs σ) H
theorem setV_len : ∀ (is : List Nat) (xs : List V) (σ : St), (setV is xs σ).length = σ.length
  | [], _, _ => rfl
  | _ :: _, [], _ => rfl
  | i :: is, x :: xs, σ => by
    show (setV is xs (σ.set i (some x))).length = σ.length
    rw [setV_len is xs, List.length_set]
section
variable {X : Cx} {W : Wd} {C : Calls} {Wx : WX}
theorem g_one {i : Nat} {x : Str} {pos : Pos} (hN : X.N.Nodup) (hi : X.N[i]? = some x) (hx : Loc X.env.scope x) (hf : X.fn x = true ∨ X.env.scope.names.lookup x = some .local := by first | exact .inl rfl | exact .inr rfl | assumption) : PG X (.Name x pos) (dG (.one i)) := pg_name hN hi hx hf
def gVs (is : List Nat) : TGs := fun xs σ H Q => xs.length = is.length ∧ Q (setV is xs σ) H
theorem pgsI {es : List Expr} {t t' : TGs} (h : PGs X es t) (w : ∀ xs σ H Q, t' xs σ H Q → t xs σ H Q) : PGs X es t' := ⟨fun pins s σ H vs us Q I r q => h.run pins s σ H vs us Q I r (w vs σ H Q q)⟩
theorem pgI {e : Expr} {t t' : TG} (h : PG X e t) (w : ∀ x σ H Q, t' x σ H Q → t x σ H Q) : PG X e t' := ⟨fun pins s σ H v u Q I r q => h.run pins s σ H v u Q I r (w v σ H Q q)⟩
theorem gs_nil : PGs X [] (gVs []) := pgsI pgs_nil fun xs σ H Q ⟨h, q⟩ => by
  have e : xs = [] := List.eq_nil_of_length_eq_zero h
  subst e
  exact ⟨rfl, q⟩
theorem gs_cons {i : Nat} {is : List Nat} {x : Str} {pos : Pos} {es : List Expr} (hN : X.N.Nodup) (hi : X.N[i]? = some x) (hx : Loc X.env.scope x) (h : PGs X es (gVs is)) (hf : X.fn x = true ∨ X.env.scope.names.lookup x = some .local := by first | exact .inl rfl | exact .inr rfl | assumption)
    (hs : (assignEach (.Name x pos :: es) X.env).map (·.2) = assign (.Name x pos) X.env :: (assignEach es X.env).map (·.2) := by rfl) : PGs X (.Name x pos :: es) (gVs (i :: is)) := by
  refine pgsI (pgs_cons (pg_name hN hi hx hf) h hs) fun xs σ H Q ⟨hl, q⟩ => ?_
  cases xs with
  | nil => cases hl
  | cons y ys => exact ⟨y, ys, rfl, by simpa using hl, q⟩
theorem g_many {is : List Nat} {es : List Expr} {k : Nat} {pos : Pos} (hc : X.calm = true) (h : PGs X es (gVs is)) (hn : (assignEach es X.env).length = is.length := by rfl) (hst : (assignEach es X.env).findIdx? (·.1) = none := by rfl) : PG X (.Tuple es k pos) (dG (.many is)) :=
  pgI (pg_tup hc h hn hst) fun x σ H Q ⟨a, xs, e, ha, hl, q⟩ => ⟨a, xs, e, .of ha, hl, hl, q⟩
theorem setL_ok {r : Pl} {H : Hp} : ∀ {is : List Nat} {vs : List Val} {env env' : Env} {xs : List V} {σ : St}, setL is vs env = some env' → RelE W r H env σ → RelL W r H vs xs → xs.length = is.length ∧ RelE W r H env' (setV is xs σ)
  | [], [], env, env', xs, σ, h, q, l => by
    cases h
    cases (show xs = [] from l)
    exact ⟨rfl, q⟩
  | [], _ :: _, env, env', xs, σ, h, q, l => by cases h
  | _ :: _, [], env, env', xs, σ, h, q, l => by cases h
  | i :: is, v :: vs, env, env', xs, σ, h, q, ⟨y, s, e, h1, h2⟩ => by
    subst e
    obtain ⟨a, b⟩ := setL_ok (show setL is vs (env.set i (some v)) = some env' from h) (q.set i h1) h2
    exact ⟨by simp [a], b⟩
/-- the target's slots are among own -/
def tgIn (tg : Tg) (own : List Nat) : Bool := match tg with
  | .one i => own.contains i
  | .many is => is.all fun i => own.contains i
theorem wipe_get (σ : St) : ∀ (vs : List Nat) (j : Nat), (L2.wipe σ vs)[j]? = if j ∈ vs then (if j < σ.length then some none else none) else σ[j]?
  | [], j => by simp [L2.wipe]
  | v :: vs, j => by
    unfold L2.wipe
    by_cases h : v = j
    · subst h
      rw [if_pos List.mem_cons_self]
      by_cases hl : v < σ.length
      · rw [List.getElem?_set_self (by rw [wipe_length]; exact hl), if_pos hl]
      · rw [if_neg hl, List.getElem?_eq_none (by rw [List.length_set, wipe_length]; omega)]
    · rw [List.getElem?_set_ne h, wipe_get σ vs j]
      by_cases hm : j ∈ vs
      · rw [if_pos hm, if_pos (List.mem_cons_of_mem _ hm)]
      · rw [if_neg hm, if_neg (fun z => (List.mem_cons.mp z).elim (fun e => h e.symm) hm)]
theorem wipe_set {σ : St} {i : Nat} {o : Option V} {vs : List Nat} (h : i ∈ vs) : L2.wipe (σ.set i o) vs = L2.wipe σ vs := by
  apply List.ext_getElem?
  intro j
  rw [wipe_get, wipe_get, List.length_set]
  by_cases hm : j ∈ vs
  · rw [if_pos hm, if_pos hm]
  · rw [if_neg hm, if_neg hm, List.getElem?_set_ne (fun e : i = j => hm (by rw [← e]; exact h))]
theorem wipe_wipe {σ : St} {vs : List Nat} : L2.wipe (L2.wipe σ vs) vs = L2.wipe σ vs := by
  apply List.ext_getElem?
  intro j
  rw [wipe_get, wipe_length, wipe_get]
  by_cases hm : j ∈ vs
  · rw [if_pos hm, if_pos hm]
  · rw [if_neg hm]
theorem wipe_setV {own : List Nat} : ∀ (is : List Nat) (xs : List V) (σ : St), (∀ i ∈ is, i ∈ own) → L2.wipe (setV is xs σ) own = L2.wipe σ own
  | [], _, _, _ => rfl
  | _ :: _, [], _, _ => rfl
  | i :: is, x :: xs, σ, h => by
    show L2.wipe (setV is xs (σ.set i (some x))) own = L2.wipe σ own
    rw [wipe_setV is xs _ fun j hj => h j (List.mem_cons_of_mem _ hj), wipe_set (h i List.mem_cons_self)]
theorem asg_ok {tg : Tg} {v : Val} {x : V} {env env' : Env} {σ : St} {r : Pl} {H : Hp} {Q : St → Hp → Prop} (h : asg tg v env = some env') (q : RelE W r H env σ) (hv : Rel W r H v x)
    (k : ∀ σ' : St, RelE W r H env' σ' → σ'.length = σ.length → (∀ own : List Nat, tgIn tg own = true → L2.wipe σ' own = L2.wipe σ own) → Q σ' H) : dG tg x σ H Q := by
  cases tg with
  | one i =>
    cases h
    exact k _ (q.set i hv) (by simp) fun own ho => wipe_set (by simpa [tgIn] using ho)
  | many is =>
    cases v with
    | tup vs =>
      obtain ⟨a, xs, rfl, ha, l⟩ := hv
      obtain ⟨e, q'⟩ := setL_ok h q l
      exact ⟨a, xs, rfl, ha, e, k _ q' (setV_len _ _ _) fun own ho => wipe_setV is xs σ (by simpa [tgIn] using ho)⟩
    | _ => cases h
theorem s_setT {tgE e : Expr} {tg : Tg} {ie : E} {pos : Pos} (h : PE X e (dE W C Wx ie)) (hg : PG X tgE (dG tg)) (hs : swapsWithSole [tgE] e pos.line X.env = pure false := by rfl) (hw : swappedStores [tgE] e X.env = pure none := by rfl)
    (h1 : (assignEach [tgE] X.env).map (·.2) = [assign tgE X.env] := by rfl) : PS X (.Assign [tgE] e pos) (dS W C Wx (.setT tg ie)) := by
  refine psI (ps_asg h hg hs hw h1) fun D σ H ⟨r, st, env, p, q, g⟩ => ⟨r, st, env, p, q, GoodS.seq g σ rfl fun v st1 r1 H1 x e1 p1 q1 g1 => ?_⟩
  have g1 : GoodS W (match asg tg v env with | some e' => .nx e' st1 | none => .no) r1 H1 σ.length D (EX W Wx) := g1
  cases ha : asg tg v env with
  | none => rw [ha] at g1; exact g1.elim
  | some e' =>
    rw [ha] at g1
    exact asg_ok ha (q.ext e1) q1 fun σ' q' l _ => g1 r1 H1 σ' .refl p1 q' l

/-! ### what is walked -/
/-- J walks src -/
def SrcOk (W : Wd) (K : PySem.W.Frag) (r : Pl) (H : Hp) (J : It) (src : Src) : Prop := match src with
  | .fz vs => ∀ r' H', Ext r H r' H' → ∀ i : Nat, (∀ v, vs[i]? = some v → J.go i H' ∧ ∀ x H'', J.yld i H' x H'' → ((H'' = H') ∨ ∃ T o, H' T = none ∧ H'' = upd H' T o) ∧ (∀ st, Rep W r' st H' → Rel W r' H'' v x)) ∧ (vs.length ≤ i → J.stop i H')
  | .lv n => ∃ a, r n = some a ∧ J = Itl K a
def GoodI (W : Wd) (K : PySem.W.Frag) (rs : Rs) (r : Pl) (H : Hp) (R : It → Hp → Prop) (E : Nat → Hp → Prop) : Prop := match rs with
  | .ok v st => match srcOf st v with
    | some (src, _) => ∀ r' H' J, Ext r H r' H' → Rep W r' st H' → SrcOk W K r' H' J src → R J H'
    | none => False
  | .exc k st => ∀ r' H', Ext r H r' H' → Rep W r' st H' → E k H'
  | .no => False
def dI (W : Wd) (K : PySem.W.Frag) (C : Calls) (Wx : WX) (e : E) : TI := fun σ H R => ∃ r st env, Rep W r st H ∧ RelE W r H env σ ∧ GoodI W K (ev C e env st) r H R fun k H' => EX W Wx k σ H'
theorem piI {tg it : Expr} {t t' : TI} (h : PI X tg it t) (w : ∀ σ H R, t' σ H R → t σ H R) : PI X tg it t' := ⟨fun pins s σ H R I q => h.run pins s σ H R I (w σ H R q)⟩
/-- a list or a tuple, whichever it is -/
theorem pi_seq {tg l : Expr} {tl : TE} (hl : PE X l tl) : PI X tg l (fun σ H R => tl σ H fun x H1 => ∃ a, x = .ref a ∧ (((∃ xs, SqL X.K H1 a xs) ∧ R (Itl X.K a) H1) ∨ ((∃ xs, SqT X.K H1 a xs) ∧ R (Itt X.K a) H1))) := by
  refine ⟨fun pins s σ H R I h => ?_⟩
  refine thn (hl.run pins s σ H _ I h) fun v s1 ⟨x, H1, I1, r1, q1⟩ => ?_
  obtain ⟨a, e, q⟩ := q1
  subst e
  cases r1
  rcases q with ⟨⟨xs, hq⟩, q⟩ | ⟨⟨xs, hq⟩, q⟩
  · obtain ⟨its, rv, p, hz⟩ := I1.list hq
    refine wpAny_pyIter_list p.isList ?_
    refine ⟨s1.heap.objs.size, [s1.heap.objs.size], _, _, H1, rfl, I1.kept (t' := s1.toks) fun b o e => Heap.get?_push_of_some _ e, turn_list a _, ⟨_, Heap.get?_push_size _ rfl, rfl, rfl⟩, fun b hb => ?_, q⟩
    have e : b = s1.heap.objs.size := by simpa using hb
    subst e
    exact I1.fpOk (Nat.le_refl _) (I1.hok.fresh (Nat.le_refl _))
  · obtain ⟨its, rv, p, hz⟩ := I1.tuple hq
    refine wpAny_pyIter_tuple (show s1.heap.IsTuple a its.toArray from p) ?_
    refine ⟨s1.heap.objs.size, [s1.heap.objs.size], _, _, H1, rfl, I1.kept (t' := s1.toks) fun b o e => Heap.get?_push_of_some _ e, turn_tuple a _, ⟨_, Heap.get?_push_size _ rfl, rfl, rfl⟩, fun b hb => ?_, q⟩
    have e : b = s1.heap.objs.size := by simpa using hb
    subst e
    exact I1.fpOk (Nat.le_refl _) (I1.hok.fresh (Nat.le_refl _))
theorem src_tup {K : PySem.W.Frag} {r : Pl} {H : Hp} {a : Addr} {xs : List Val} {ys : List V} (h : H a = some (.tup ys)) (q : RelL W r H xs ys) : SrcOk W K r H (Itt K a) (.fz xs) := by
  intro r' H' e i
  have h' := e.tups _ _ h
  refine ⟨fun v hv => ?_, fun hi => ⟨ys, .of h', by rw [← q.len]; exact hi⟩⟩
  obtain ⟨y, a1, a2⟩ := q.get hv
  refine ⟨⟨ys, y, .of h', a1⟩, fun x H'' ⟨e1, hx⟩ => ⟨.inl e1, fun st p => ?_⟩⟩
  subst e1
  have := hx ys (.of h')
  rw [a1] at this
  cases this
  exact a2.ext e
theorem src_tl {K : PySem.W.Frag} {r : Pl} {H : Hp} {a : Addr} {xs : List Val} {ys : List V} (h : H a = some (.lst ys)) (f : Fre r a) (q : RelL W r H xs ys) : SrcOk W K r H (Itl K a) (.fz xs) := by
  intro r' H' e i
  have h' := e.keep _ _ h f.1
  refine ⟨fun v hv => ?_, fun hi => ⟨ys, .of h', by rw [← q.len]; exact hi⟩⟩
  obtain ⟨y, a1, a2⟩ := q.get hv
  refine ⟨⟨ys, y, .of h', a1⟩, fun x H'' ⟨e1, hx⟩ => ⟨.inl e1, fun st p => ?_⟩⟩
  subst e1
  have := hx ys (.of h')
  rw [a1] at this
  cases this
  exact a2.ext e
theorem i_seq {tg l : Expr} {i : E} (h : PE X l (dE W C Wx i)) : PI X tg l (dI W X.K C Wx i) := by
  refine piI (pi_seq h) fun σ H R ⟨r, st, env, p, q, g⟩ => ⟨r, st, env, p, q, ?_⟩
  cases h1 : ev C i env st with
  | no => rw [h1] at g; exact g
  | exc k st1 => rw [h1] at g; exact g
  | ok v st1 =>
    rw [h1] at g
    intro r1 H1 x e1 p1 q1
    cases v with
    | tup xs =>
      obtain ⟨a, ys, rfl, ha, l⟩ := q1
      exact ⟨a, rfl, .inr ⟨⟨ys, .of ha⟩, g r1 H1 _ e1 p1 (src_tup ha l)⟩⟩
    | tl xs =>
      obtain ⟨a, ys, rfl, f, ha, l⟩ := q1
      exact ⟨a, rfl, .inl ⟨⟨ys, .of ha⟩, g r1 H1 _ e1 p1 (src_tl ha f l)⟩⟩
    | ref n =>
      obtain ⟨a, rfl, hr⟩ := q1
      obtain ⟨o, ho, l⟩ := p1.at_ hr
      simp only [GoodI, srcOf, ho] at g
      cases o with
      | lst xs =>
        obtain ⟨ys, ha, l⟩ := l
        exact ⟨a, rfl, .inl ⟨⟨ys, .of ha⟩, g r1 H1 _ e1 p1 ⟨a, hr, rfl⟩⟩⟩
      | _ => exact (show False from g).elim
    | _ => exact (show False from g).elim
theorem upto_get : ∀ (n : Nat) (lo : Int) (i : Nat), (upto lo n)[i]? = if i < n then some (.int (lo + i)) else none
  | 0, lo, i => by simp [upto]
  | n + 1, lo, 0 => by simp [upto]
  | n + 1, lo, i + 1 => by
    show (upto (lo + 1) n)[i]? = _
    rw [upto_get n (lo + 1) i]
    by_cases h : i < n
    · rw [if_pos h, if_pos (by omega)]
      congr 2
      omega
    · rw [if_neg h, if_neg (by omega)]
theorem upto_len : ∀ (n : Nat) (lo : Int), (upto lo n).length = n
  | 0, _ => rfl
  | n + 1, lo => by
    show (upto (lo + 1) n).length + 1 = n + 1
    rw [upto_len n]
theorem src_rng {K : PySem.W.Frag} {r : Pl} {H : Hp} (lo : Int) (n : Nat) : SrcOk W K r H (Itr lo n) (.fz (upto lo n)) := by
  intro r' H' e i
  refine ⟨fun v hv => ?_, fun hi => by rw [upto_len] at hi; exact hi⟩
  rw [upto_get] at hv
  by_cases h : i < n
  · rw [if_pos h] at hv
    cases hv
    exact ⟨h, fun x H'' ⟨e1, hx⟩ => ⟨.inl e1, fun _ _ => hx⟩⟩
  · rw [if_neg h] at hv
    cases hv
theorem goodA_I {K : PySem.W.Frag} {l : E} {n : Nat} {env : Env} {st : Sto} {r : Pl} {H : Hp} {R : It → Hp → Prop} {Er : Nat → Hp → Prop} {f : List Val → Option (List Val)} {Q : List V → Hp → Prop} (hc : chain l = some n)
    (g : GoodI W K ((ev C l env st).bind fun x st1 => match x with | .tup as => (match f as with | some xs => .ok (.tl xs) st1 | none => .no) | _ => .no) r H R Er)
    (k : ∀ as xs st1 r1 H1 ys, f as = some xs → as.length = n → Ext r H r1 H1 → Rep W r1 st1 H1 → RelL W r1 H1 as ys → (∀ J, SrcOk W K r1 H1 J (.fz xs) → R J H1) → Q ys H1) : GoodA W (ev C l env st) r H Q Er := by
  cases h1 : ev C l env st with
  | no => rw [h1] at g; exact g
  | exc k st1 => rw [h1] at g; exact g
  | ok v st1 =>
    rw [h1] at g
    obtain ⟨as, rfl, hl⟩ := chain_len hc h1
    intro r1 H1 ys e1 p1 q1
    have g : GoodI W K (match f as with | some xs => .ok (.tl xs) st1 | none => .no) r H R Er := g
    cases hf : f as with
    | none => rw [hf] at g; exact g.elim
    | some xs =>
      rw [hf] at g
      exact k as xs st1 r1 H1 ys hf hl e1 p1 q1 fun J hJ => g r1 H1 J e1 p1 hJ
theorem RelL.i1 {r : Pl} {H : Hp} {j : Int} {ys : List V} (h : RelL W r H [.int j] ys) : ys = [.int j] := by
  obtain ⟨y, s, e, h1, h2⟩ := h
  subst e
  cases (show s = [] from h2)
  cases (show y = .int j from h1)
  rfl
theorem RelL.i2 {r : Pl} {H : Hp} {i j : Int} {ys : List V} (h : RelL W r H [.int i, .int j] ys) : ys = [.int i, .int j] := by
  obtain ⟨y, s, e, h1, h2⟩ := h
  subst e
  rw [RelL.i1 h2, show y = .int i from h1]
theorem RelL.i3 {r : Pl} {H : Hp} {i j c : Int} {ys : List V} (h : RelL W r H [.int i, .int j, .int c] ys) : ys = [.int i, .int j, .int c] := by
  obtain ⟨y, s, e, h1, h2⟩ := h
  subst e
  rw [RelL.i2 h2, show y = .int i from h1]
theorem rngV_of {as xs : List Val} (h : rngV as = some xs) : (∃ j, as = [.int j] ∧ smallI j = true ∧ xs = upto 0 j.toNat) ∨ (∃ i j, as = [.int i, .int j] ∧ smallI i = true ∧ smallI j = true ∧ xs = upto i (j - i).toNat) ∨
    ∃ i j c, as = [.int i, .int j, .int c] ∧ (smallI i && smallI j && ilt 0 c && ilt c 1000000) = true ∧ xs = byStep c i (if ilt i j then ((j - i - 1) / c + 1).toNat else 0) := by
  unfold rngV at h
  split at h
  · rename_i j
    cases hs : smallI j with
    | false => rw [hs] at h; cases h
    | true => rw [hs] at h; cases h; exact .inl ⟨j, rfl, hs, rfl⟩
  · rename_i i j
    cases hs : smallI i && smallI j with
    | false => rw [hs] at h; cases h
    | true => rw [hs] at h; cases h; rw [Bool.and_eq_true] at hs; exact .inr (.inl ⟨i, j, rfl, hs.1, hs.2, rfl⟩)
  · rename_i i j c
    cases hs : smallI i && smallI j && ilt 0 c && ilt c 1000000 with
    | false => rw [hs] at h; cases h
    | true => rw [hs] at h; cases h; exact .inr (.inr ⟨i, j, c, rfl, hs, rfl⟩)
  · cases h
theorem i_rng1 {tg a : Expr} {l : E} {p pos : Pos} (hg : Gl X "range") (hm : X.mg "range" = none) (ha : PA X [a] (dA W C Wx l)) (hc : chain l = some 1 := by rfl) (hs : starEach [a] X.env = [(false, eval a X.env)] := by rfl) : PI X tg (.Call (.Name "range" p) [a] [] pos) (dI W X.K C Wx (.rng l)) := by
  refine piI (pi_range1 hg hm ha hs) fun σ H R ⟨r, st, env, p, q, g⟩ => ⟨r, st, env, p, q, goodA_I hc g fun as xs st1 r1 H1 ys hf hl e1 p1 q1 k => ?_⟩
  rcases rngV_of hf with ⟨j, rfl, hj, rfl⟩ | ⟨i, j, rfl, _⟩ | ⟨i, j, c, rfl, _⟩
  · obtain ⟨h1, h2⟩ := small_of hj
    exact ⟨j, q1.i1, by omega, by omega, k _ (src_rng 0 _)⟩
  · cases hl
  · cases hl
theorem i_rng2 {tg a b : Expr} {l : E} {p pos : Pos} (hg : Gl X "range") (hm : X.mg "range" = none) (ha : PA X [a, b] (dA W C Wx l)) (hc : chain l = some 2 := by rfl) (hs : starEach [a, b] X.env = [(false, eval a X.env), (false, eval b X.env)] := by rfl) (hs2 : starEach [b] X.env = [(false, eval b X.env)] := by rfl) :
    PI X tg (.Call (.Name "range" p) [a, b] [] pos) (dI W X.K C Wx (.rng l)) := by
  refine piI (pi_range2 hg hm ha hs hs2) fun σ H R ⟨r, st, env, p, q, g⟩ => ⟨r, st, env, p, q, goodA_I hc g fun as xs st1 r1 H1 ys hf hl e1 p1 q1 k => ?_⟩
  rcases rngV_of hf with ⟨j, rfl, _⟩ | ⟨i, j, rfl, hi, hj, rfl⟩ | ⟨i, j, c, rfl, _⟩
  · cases hl
  · obtain ⟨h1, h2⟩ := small_of hi
    obtain ⟨h3, h4⟩ := small_of hj
    exact ⟨i, j, q1.i2, ⟨by omega, by omega, by omega, by omega⟩, k _ (src_rng i _)⟩
  · cases hl
/-- zip of two lists, of two tuples -/
theorem zipV_get : ∀ (xs ys : List Val) (i : Nat), (zipV xs ys)[i]? = (match xs[i]? with | some x => (match ys[i]? with | some y => some (.tup [x, y]) | none => none) | none => none)
  | [], _, i => by simp [zipV]
  | x :: xs, [], i => by
    show ([] : List Val)[i]? = _
    cases (x :: xs)[i]? <;> simp
  | x :: xs, y :: ys, 0 => rfl
  | x :: xs, y :: ys, i + 1 => by
    show (zipV xs ys)[i]? = _
    rw [zipV_get xs ys i]
    rfl
theorem zipV_len : ∀ (xs ys : List Val), (zipV xs ys).length = min xs.length ys.length
  | [], _ => by simp [zipV]
  | _ :: _, [] => by simp [zipV]
  | x :: xs, y :: ys => by
    show (zipV xs ys).length + 1 = _
    rw [zipV_len xs ys]
    simp
theorem src_zip {K : PySem.W.Frag} {r : Pl} {H : Hp} {J : It} {SqX : Hp → Addr → List V → Prop} {a b : Addr} {xs ys : List Val} {us vs : List V} (q1 : RelL W r H xs us) (q2 : RelL W r H ys vs)
    (hJ : J = ⟨fun i H => ∃ (xs ys : List V) (x y : V), SqX H a xs ∧ SqX H b ys ∧ xs[i]? = some x ∧ ys[i]? = some y,
      fun i H v H' => ∃ T x y, v = .ref T ∧ H T = none ∧ H' = upd H T (.tup [x, y]) ∧ (∀ xs, SqX H a xs → xs[i]? = some x) ∧ ∀ ys, SqX H b ys → ys[i]? = some y,
      fun i H => ∃ xs ys : List V, SqX H a xs ∧ SqX H b ys ∧ (xs.length ≤ i ∨ ys.length ≤ i)⟩)
    (h1 : ∀ r' H', Ext r H r' H' → SqX H' a us) (h2 : ∀ r' H', Ext r H r' H' → SqX H' b vs) : SrcOk W K r H J (.fz (zipV xs ys)) := by
  intro r' H' e i
  subst hJ
  refine ⟨fun v hv => ?_, fun hi => ⟨us, vs, h1 r' H' e, h2 r' H' e, ?_⟩⟩
  · rw [zipV_get] at hv
    cases hx : xs[i]? with
    | none => rw [hx] at hv; cases hv
    | some x =>
      rw [hx] at hv
      have hv : (match ys[i]? with | some y => some (.tup [x, y]) | none => none) = some v := hv
      cases hy : ys[i]? with
      | none => rw [hy] at hv; cases hv
      | some y =>
        rw [hy] at hv
        cases hv
        obtain ⟨x', a1, a2⟩ := q1.get hx
        obtain ⟨y', b1, b2⟩ := q2.get hy
        refine ⟨⟨us, vs, x', y', h1 r' H' e, h2 r' H' e, a1, b1⟩, fun z H'' ⟨T, x2, y2, e1, e2, e3, e4, e5⟩ => ⟨.inr ⟨T, _, e2, e3⟩, fun st p => ?_⟩⟩
        subst e3
        have f1 := e4 us (h1 r' H' e)
        have f2 := e5 vs (h2 r' H' e)
        rw [a1] at f1
        rw [b1] at f2
        cases f1
        cases f2
        refine ⟨T, _, e1, upd_same, ⟨_, _, rfl, (a2.ext e).ext (.new e2), _, _, rfl, (b2.ext e).ext (.new e2), rfl⟩⟩
  · rw [zipV_len, q1.len, q2.len] at hi
    omega
theorem i_zip {e e2 : Expr} {ia ib : E} {p pos tpos : Pos} {elts : List Expr} {kk : Nat} (hg : Gl X "zip") (hm : X.mg "zip" = none) (ha : PE X e (dE W C Wx ia)) (hb : PE X e2 (dE W C Wx ib))
    (hs : starEach [e, e2] X.env = (false, eval e X.env) :: starEach [e2] X.env := by rfl) (hs2 : starEach [e2] X.env = (false, eval e2 X.env) :: starEach [] X.env := by rfl) (hpl : (backTo pos (starEach [e2] X.env)).any (·.1) = false := by rfl) :
    PI X (.Tuple elts kk tpos) (.Call (.Name "zip" p) [e, e2] [] pos) (dI W X.K C Wx (.zip ia ib)) := by
  refine piI (RZ.pi_zipA hg hm (pa_cons ha (pa_cons hb pa_nil hs2) hs) hs hpl) fun σ H R ⟨r, st, env, p, q, g⟩ => ⟨r, st, env, p, q, ?_⟩
  have g : GoodI W X.K ((ev C ia env st).bind fun x st1 => (ev C ib env st1).bind fun y st2 => zipW x y st2) r H R _ := g
  cases k1 : ev C ia env st with
  | no => rw [k1] at g; exact g
  | exc k st1 => rw [k1] at g; exact g
  | ok v st1 =>
    rw [k1] at g
    intro r1 H1 x e1 p1 q1
    refine ⟨r1, st1, env, p1, q.ext e1, ?_⟩
    have g : GoodI W X.K ((ev C ib env st1).bind fun y st2 => zipW v y st2) r H R _ := g
    cases k2 : ev C ib env st1 with
    | no => rw [k2] at g; exact g
    | exc k st2 => rw [k2] at g; exact fun r2 H2 e2 p2 => g r2 H2 (e1.trans e2) p2
    | ok w st2 =>
      rw [k2] at g
      intro r2 H2 y e2 p2 q2
      cases v with
      | tl xs =>
        cases w with
        | tl ys =>
          obtain ⟨a, us, rfl, fa, ha, l1⟩ := q1.ext e2
          obtain ⟨b, vs, rfl, fb, hb, l2⟩ := q2
          exact ⟨a, b, us, vs, rfl, .inl ⟨.of ha, .of hb, g r2 H2 _ (e1.trans e2) p2 (src_zip (SqX := fun H a xs => SqL X.K H a xs) l1 l2 rfl (fun r' H' e => .of (e.keep _ _ ha fa.1)) fun r' H' e => .of (e.keep _ _ hb fb.1))⟩⟩
        | _ => exact (show False from g).elim
      | tup xs =>
        cases w with
        | tup ys =>
          obtain ⟨a, us, rfl, ha, l1⟩ := q1.ext e2
          obtain ⟨b, vs, rfl, hb, l2⟩ := q2
          exact ⟨a, b, us, vs, rfl, .inr ⟨.of ha, .of hb, g r2 H2 _ (e1.trans e2) p2 (src_zip (SqX := fun H a xs => SqT X.K H a xs) l1 l2 rfl (fun r' H' e => .of (e.tups _ _ ha)) fun r' H' e => .of (e.tups _ _ hb))⟩⟩
        | _ => exact (show False from g).elim
      | _ => cases w <;> exact (show False from g).elim
end
end G

end

section
/-! for; list comprehensions. -/
namespace G
open PySem PySem.Spec PyProof.Rows L2
section
variable {X : Cx} {W : Wd} {C : Calls} {Wx : WX}
theorem SrcOk.ext {K : PySem.W.Frag} {r r' : Pl} {H H' : Hp} {J : It} {src : Src} (x : Ext r H r' H') (h : SrcOk W K r H J src) : SrcOk W K r' H' J src := by
  cases src with
  | fz vs => exact fun r2 H2 e => h r2 H2 (x.trans e)
  | lv n => obtain ⟨a, e, q⟩ := h; exact ⟨a, x.mono _ _ e, q⟩
/-- one turn: it stops, or it yields -/
theorem SrcOk.turn {K : PySem.W.Frag} {r : Pl} {H : Hp} {st : Sto} {J : It} {src : Src} (h : SrcOk W K r H J src) (p : Rep W r st H) (i : Nat) :
    match src.get i st with
    | none => True
    | some none => J.stop i H
    | some (some v) => J.go i H ∧ ∀ x H', J.yld i H x H' → Ext r H r H' ∧ Rep W r st H' ∧ Rel W r H' v x := by
  cases src with
  | fz vs =>
    have z := h r H .refl i
    show match some vs[i]? with | none => True | some none => J.stop i H | some (some v) => _
    cases hv : vs[i]? with
    | none => exact z.2 (List.getElem?_eq_none_iff.mp hv)
    | some v =>
      obtain ⟨a, b⟩ := z.1 v hv
      refine ⟨a, fun x H' hy => ?_⟩
      obtain ⟨c, d⟩ := b x H' hy
      rcases c with e | ⟨T, o, e1, e2⟩
      · subst e; exact ⟨.refl, p, d st p⟩
      · subst e2; exact ⟨.new e1, p.new e1, d st p⟩
  | lv n =>
    obtain ⟨a, hr, rfl⟩ := h
    obtain ⟨o, ho, q⟩ := p.at_ hr
    show match (match st[n]? with | some (.lst xs) => some xs[i]? | _ => none) with | none => True | some none => _ | some (some v) => _
    rw [ho]
    cases o with
    | lst xs =>
      obtain ⟨ys, ha, l⟩ := q
      show match some xs[i]? with | none => True | some none => _ | some (some v) => _
      cases hv : xs[i]? with
      | none => exact ⟨ys, .of ha, by rw [← l.len]; exact List.getElem?_eq_none_iff.mp hv⟩
      | some v =>
        obtain ⟨y, a1, a2⟩ := l.get hv
        refine ⟨⟨ys, y, .of ha, a1⟩, fun x H' ⟨e, hx⟩ => ?_⟩
        subst e
        have := hx ys (.of ha)
        rw [a1] at this
        cases this
        exact ⟨.refl, p, a2⟩
    | _ => trivial
/-- for -/
theorem s_for {tgE iter : Expr} {body : List Stmt} {tg : Tg} {it : E} {ib : S} {pos : Pos} (hp : PassesOwn (model X.prog X.w) X.A X.env X.xe) (hc : X.calm = true) (hi : PI X tgE iter (dI W X.K C Wx it)) (hg : PG X tgE (dG tg)) (hb : PSs X body (dS W C Wx ib))
    (hs : ∀ x, foldedSetIterable iter X.env x = pure x := by intro _; rfl) : PS X (.For tgE iter body [] pos) (dS W C Wx (.for tg it ib)) := by
  refine psI (ps_for hp hc hi hg hb hs) fun D σ H ⟨r, st, env, p, q, g⟩ => ⟨r, st, env, p, q, ?_⟩
  have g : GoodS W ((ev C it env st).run fun x st1 => match srcOf st1 x with | some (src, n) => forI tg src (ex C ib) (n + 1) 0 env st1 | none => .no) r H σ.length D (EX W Wx) := g
  cases h1 : ev C it env st with
  | no => rw [h1] at g; exact g
  | exc k st1 => rw [h1] at g; exact fun r1 H1 e1 p1 => g r1 H1 σ e1 p1 rfl
  | ok v st1 =>
    rw [h1] at g
    have g : GoodS W (match srcOf st1 v with | some (src, n) => forI tg src (ex C ib) (n + 1) 0 env st1 | none => .no) r H σ.length D (EX W Wx) := g
    show match srcOf st1 v with | some (src, _) => _ | none => False
    cases h2 : srcOf st1 v with
    | none => rw [h2] at g; exact g
    | some sn =>
      obtain ⟨src, n⟩ := sn
      rw [h2] at g
      intro r1 H1 J e1 p1 hJ
      have g : GoodS W (forI tg src (ex C ib) (n + 1) 0 env st1) r1 H1 σ.length D (EX W Wx) := GoodS.ext e1 g
      refine ⟨fun i m σ' H' => ∃ r st env, Rep W r st H' ∧ RelE W r H' env σ' ∧ σ'.length = σ.length ∧ SrcOk W X.K r H' J src ∧ GoodS W (forI tg src (ex C ib) m i env st) r H' σ.length D (EX W Wx), ⟨n + 1, r1, st1, env, p1, q.ext e1, rfl, hJ, g⟩, ?_⟩
      rintro i m σ2 H2 ⟨r2, st2, env2, p2, q2, l2, hJ2, g2⟩
      cases m with
      | zero => exact g2.elim
      | succ m =>
        unfold forI at g2
        have z := hJ2.turn p2 i
        cases h3 : src.get i st2 with
        | none => rw [h3] at g2; exact g2.elim
        | some o =>
          rw [h3] at g2 z
          cases o with
          | none => exact .inl ⟨z, g2 r2 H2 σ2 .refl p2 q2 l2⟩
          | some w =>
            obtain ⟨go, yl⟩ := z
            refine .inr ⟨go, fun σ' H' => ∃ r st env, Rep W r st H' ∧ RelE W r H' env σ' ∧ σ'.length = σ.length ∧ SrcOk W X.K r H' J src ∧ GoodS W (forI tg src (ex C ib) m (i + 1) env st) r H' σ.length D (EX W Wx), fun σ' H' h => ⟨m, Nat.lt_succ_self m, h⟩, fun x H' hy => ?_⟩
            obtain ⟨e3, p3, q3⟩ := yl x H' hy
            have g3 : GoodS W (match asg tg w env2 with | none => .no | some e => (match ex C ib e st2 with | .nx e' st' => forI tg src (ex C ib) m (i + 1) e' st' | .bk e' st' => .nx e' st' | .ret v st' => .ret v st' | .exc x st' => .exc x st' | .no => .no)) r2 H' σ.length D (EX W Wx) := GoodS.ext e3 g2
            cases h4 : asg tg w env2 with
            | none => rw [h4] at g3; exact g3.elim
            | some env3 =>
              rw [h4] at g3
              refine asg_ok h4 (q2.ext e3) q3 fun σ3 q4 l3 _ => ⟨r2, st2, env3, p3, q4, ?_⟩
              rw [l3, l2]
              have g3 : GoodS W (match ex C ib env3 st2 with | .nx e' st' => forI tg src (ex C ib) m (i + 1) e' st' | .bk e' st' => .nx e' st' | .ret v st' => .ret v st' | .exc x st' => .exc x st' | .no => .no) r2 H' σ.length D (EX W Wx) := g3
              cases h5 : ex C ib env3 st2 with
              | no => rw [h5] at g3; exact g3
              | exc k st3 => rw [h5] at g3; exact g3
              | ret u st3 => rw [h5] at g3; exact g3
              | bk e4 st3 => rw [h5] at g3; exact g3
              | nx e4 st3 =>
                rw [h5] at g3
                exact fun r5 H5 σ5 e5 p5 q5 l5 => ⟨r5, st3, e4, p5, q5, l5, (hJ2.ext e3).ext e5, GoodS.ext e5 g3⟩

/-! ### a list that is being made: hidden -/
def hide (r : Pl) (D : Addr) : Pl := ⟨r.at_, fun a => r.hid a ∨ a = D⟩
def unhide (r : Pl) (D : Addr) : Pl := ⟨r.at_, fun a => r.hid a ∧ a ≠ D⟩
theorem Ext.hide {r : Pl} {H : Hp} {D : Addr} {o : HO} (h : H D = none) : Ext r H (hide r D) (upd H D o) where
  mono := fun _ _ e => e
  fresh := fun _ _ e => .inl e
  keep := (Ext.new (r := r) h).keep
  tups := (Ext.new (r := r) h).tups
  stay := (Ext.new (r := r) h).stay
  hup := fun _ e => .inl e
  hdn := fun a e => e.elim .inl fun z => .inr (by rw [z]; exact h)
  frzs := (Ext.new (r := r) h).frzs
theorem RelN.map {r r' : Pl} {H H' : Hp} (hR : ∀ (vs : List Val) (ys : List V), RelL W r H vs ys → RelL W r' H' vs ys) : ∀ (ks : List Val) {xs : List (NestedKey × Addr × Value)}, RelN W r H ks xs → RelN W r' H' ks xs
  | [], _, h => h
  | k :: ks, _, ⟨y, s, e, h, q, t⟩ => by
    obtain ⟨z, s', e', hz, _⟩ := hR [k] [.ref y.2.1] (RelL.one q)
    injection e' with e1 e2
    exact ⟨y, s, e, h, by rw [e1]; exact hz, RelN.map hR ks t⟩
theorem RO.ext' {r r' : Pl} {H H' : Hp} (hR : ∀ (vs : List Val) (ys : List V), RelL W r H vs ys → RelL W r' H' vs ys) {a : Addr} (ha : H' a = H a) : ∀ {o : Ob}, RO W r H a o → RO W r' H' a o
  | .lst xs, ⟨ys, h, q⟩ => ⟨ys, ha.trans h, hR _ _ q⟩
  | .dic false ks vs, ⟨kvs, h, k, q⟩ => ⟨kvs, ha.trans h, k, hR _ _ q⟩
  | .dic true ks vs, ⟨kvs, h, k, q⟩ => ⟨kvs, ha.trans h, k, hR _ _ q⟩
  | .dcn ks vs, ⟨xs, h, k, z⟩ => ⟨xs, ha.trans h, RelN.map hR ks k, z⟩
  | .ins fs, ⟨dx, ys, h, k, z⟩ => ⟨dx, ys, ha.trans h, hR _ _ k, z⟩
  | .fdi ks vs, ⟨kvs, od, h, k, q⟩ => ⟨kvs, od, ha.trans h, k, hR _ _ q⟩
theorem Rep.hide {r : Pl} {st : Sto} {H : Hp} {D : Addr} {o : HO} (p : Rep W r st H) (h : H D = none) : Rep W (hide r D) st (upd H D o) where
  inj := p.inj
  dom := p.dom
  obj := fun n ob e => by
    obtain ⟨b, hb, q⟩ := p.obj n ob e
    obtain ⟨u, hu⟩ := q.isome
    exact ⟨b, hb, RO.ext' (fun vs ys z => RelL.ext (Ext.hide h) vs z) (upd_ne (ne_of_none hu h)) q⟩
  nh := fun n a e z => z.elim (p.nh n a e) fun w => (p.nfree h).1 n (by rw [← w]; exact e)
  ht := fun a z => z.elim (fun w => by
    obtain ⟨u, hu⟩ := p.ht a w
    exact ⟨u, by rw [upd_ne (ne_of_none hu h)]; exact hu⟩) fun w => by rw [w]; exact ⟨_, upd_same⟩
/-- values that do not name D go over where D's content changes -/
theorem Ext.over {r0 r : Pl} {H0 H : Hp} {D : Addr} {o : HO} (x : Ext r0 H0 r H) (h : H0 D = none) : Ext r0 H0 r (upd H D o) where
  mono := x.mono
  fresh := x.fresh
  keep := fun a u e p => by rw [upd_ne (ne_of_none e h)]; exact x.keep a u e p
  tups := fun a ys e => by rw [upd_ne (ne_of_none e h)]; exact x.tups a ys e
  stay := fun a e => by
    by_cases hb : a = D
    · rw [hb]; exact h
    · rw [upd_ne hb] at e; exact x.stay a e
  hup := x.hup
  hdn := x.hdn
  frzs := fun a o u e => by rw [upd_ne (ne_of_none e h)]; exact x.frzs a o u e
mutual
theorem Rel.over {r : Pl} {H : Hp} {D : Addr} {ys zs : List V} (hh : r.hid D) (hD : H D = some (.lst ys)) : ∀ (v : Val) {y : V}, Rel W r H v y → Rel W r (upd H D (.lst zs)) v y
  | .non, _, h => h
  | .bl _, _, h => h
  | .int _, _, h => h
  | .str _, _, h => h
  | .tup xs, _, ⟨a, ys', e, h, q⟩ => ⟨a, ys', e, by rw [upd_ne (ne_of h hD (fun z => nomatch z))]; exact h, RelL.over hh hD xs q⟩
  | .tl xs, _, ⟨a, ys', e, p, h, q⟩ => ⟨a, ys', e, p, by rw [upd_ne (fun z => p.2 (by rw [z]; exact hh))]; exact h, RelL.over hh hD xs q⟩
  | .td false ks vs, _, ⟨a, e, p, kvs, h, k, q⟩ => ⟨a, e, p, kvs, by rw [upd_ne (fun z => p.2 (by rw [z]; exact hh))]; exact h, k, RelL.over hh hD vs q⟩
  | .td true ks vs, _, ⟨a, e, p, kvs, h, k, q⟩ => ⟨a, e, p, kvs, by rw [upd_ne (fun z => p.2 (by rw [z]; exact hh))]; exact h, k, RelL.over hh hD vs q⟩
  | .ref n, _, h => h
  | .fn _, _, h => h
  | .scr, _, ⟨e, .inl k⟩ => ⟨e, .inl k⟩
  | .scr, _, ⟨e, .inr ⟨p, o, h⟩⟩ => ⟨e, .inr ⟨p, o, by rw [upd_ne (fun z => p.2 (by rw [z]; exact hh))]; exact h⟩⟩
theorem RelL.over {r : Pl} {H : Hp} {D : Addr} {ys zs : List V} (hh : r.hid D) (hD : H D = some (.lst ys)) : ∀ (vs : List Val) {us : List V}, RelL W r H vs us → RelL W r (upd H D (.lst zs)) vs us
  | [], _, h => h
  | v :: vs, _, ⟨y, s, e, h, q⟩ => ⟨y, s, e, Rel.over hh hD v h, RelL.over hh hD vs q⟩
end
theorem Rep.over {r : Pl} {st : Sto} {H : Hp} {D : Addr} {ys zs : List V} (p : Rep W r st H) (hh : r.hid D) (hD : H D = some (.lst ys)) : Rep W r st (upd H D (.lst zs)) where
  inj := p.inj
  dom := p.dom
  obj := fun n ob e => by
    obtain ⟨b, hb, q⟩ := p.obj n ob e
    exact ⟨b, hb, RO.ext' (fun vs us z => RelL.over hh hD vs z) (upd_ne fun z => p.nh n b hb (by rw [z]; exact hh)) q⟩
  nh := p.nh
  ht := fun a z => by
    by_cases e : a = D
    · rw [e]; exact ⟨_, upd_same⟩
    · rw [upd_ne e]; exact p.ht a z
mutual
theorem Rel.unhide {r : Pl} {H : Hp} {D : Addr} : ∀ (v : Val) {y : V}, Rel W r H v y → Rel W (unhide r D) H v y
  | .non, _, h => h
  | .bl _, _, h => h
  | .int _, _, h => h
  | .str _, _, h => h
  | .tup xs, _, ⟨a, ys', e, h, q⟩ => ⟨a, ys', e, h, RelL.unhide xs q⟩
  | .tl xs, _, ⟨a, ys', e, p, h, q⟩ => ⟨a, ys', e, ⟨p.1, fun z => p.2 z.1⟩, h, RelL.unhide xs q⟩
  | .td false ks vs, _, ⟨a, e, p, kvs, h, k, q⟩ => ⟨a, e, ⟨p.1, fun z => p.2 z.1⟩, kvs, h, k, RelL.unhide vs q⟩
  | .td true ks vs, _, ⟨a, e, p, kvs, h, k, q⟩ => ⟨a, e, ⟨p.1, fun z => p.2 z.1⟩, kvs, h, k, RelL.unhide vs q⟩
  | .ref n, _, h => h
  | .fn _, _, h => h
  | .scr, _, ⟨e, .inl k⟩ => ⟨e, .inl k⟩
  | .scr, _, ⟨e, .inr ⟨p, o, h⟩⟩ => ⟨e, .inr ⟨⟨p.1, fun z => p.2 z.1⟩, o, h⟩⟩
theorem RelL.unhide {r : Pl} {H : Hp} {D : Addr} : ∀ (vs : List Val) {us : List V}, RelL W r H vs us → RelL W (unhide r D) H vs us
  | [], _, h => h
  | v :: vs, _, ⟨y, s, e, h, q⟩ => ⟨y, s, e, Rel.unhide v h, RelL.unhide vs q⟩
end
theorem Rep.unhide {r : Pl} {st : Sto} {H : Hp} {D : Addr} (p : Rep W r st H) : Rep W (unhide r D) st H where
  inj := p.inj
  dom := p.dom
  obj := fun n ob e => by
    obtain ⟨b, hb, q⟩ := p.obj n ob e
    exact ⟨b, hb, RO.ext' (fun vs us z => RelL.unhide vs z) rfl q⟩
  nh := fun n a e z => p.nh n a e z.1
  ht := fun a z => p.ht a z.1
theorem Ext.unhide {r0 r : Pl} {H0 H : Hp} {D : Addr} {st : Sto} (x : Ext r0 H0 r H) (p0 : Rep W r0 st H0) (h : H0 D = none) : Ext r0 H0 (unhide r D) H where
  mono := x.mono
  fresh := x.fresh
  keep := x.keep
  tups := x.tups
  stay := x.stay
  hup := fun a e => ⟨x.hup a e, fun z => (p0.nfree h).2 (by rw [← z]; exact e)⟩
  hdn := fun a e => x.hdn a e.1
  frzs := x.frzs

def W0 : WX := fun _ _ _ _ => False
theorem RelE.wiped {r : Pl} {H : Hp} {env : Env} {σ : St} (h : RelE W r H env σ) (own : List Nat) : RelE W r H (wipeE env own) (L2.wipe σ own) := h.wipe own
/-- the turns of a comprehension -/
theorem lc_turns {tg : Tg} {it ic ie : E} {own : List Nat} {wi : TI} {σ : St} {H : Hp} {Q : VK} (ho : tgIn tg own = true) (h : dE W C Wx (.lc own tg it ic ie) σ H Q) : tLc (dI W X.K C Wx it) (dG tg) (dT W C W0 ic) (dE W C W0 ie) own σ H Q := by
  obtain ⟨r, st, env, p, q, g⟩ := h
  refine ⟨r, st, env, p, q, ?_⟩
  have g : Good W ((ev C it env st).bind fun x st1 => match srcOf st1 x with | some (src, n) => lcI tg src (ev C ic) (ev C ie) (wipeE env own) (n + 1) 0 st1 [] | none => .no) r H Q fun k H' => EX W Wx k σ H' := g
  cases h1 : ev C it env st with
  | no => rw [h1] at g; exact g
  | exc k st1 => rw [h1] at g; exact g
  | ok v st1 =>
    rw [h1] at g
    have g : Good W (match srcOf st1 v with | some (src, n) => lcI tg src (ev C ic) (ev C ie) (wipeE env own) (n + 1) 0 st1 [] | none => .no) r H Q fun k H' => EX W Wx k σ H' := g
    show match srcOf st1 v with | some (src, _) => _ | none => False
    cases h2 : srcOf st1 v with
    | none => rw [h2] at g; exact g
    | some sn =>
      obtain ⟨src, n⟩ := sn
      rw [h2] at g
      intro r1 H1 J e1 p1 hJ D hD
      have g : Good W (lcI tg src (ev C ic) (ev C ie) (wipeE env own) (n + 1) 0 st1 []) r1 H1 Q _ := Good.ext e1 g
      have q1 := (q.ext e1).wiped own
      refine ⟨fun i m H' => ∃ r st acc ys, Ext r1 H1 r H' ∧ Rep W r st H' ∧ r.hid D ∧ H' D = some (.lst ys) ∧ RelL W r H' acc ys ∧ Good W (lcI tg src (ev C ic) (ev C ie) (wipeE env own) m i st acc) r1 H1 Q fun k H' => EX W Wx k σ H',
        ⟨n + 1, hide r1 D, st1, [], [], .hide hD, p1.hide hD, .inr rfl, upd_same, rfl, g⟩, ?_⟩
      rintro i m H2 ⟨r2, st2, acc, ys, e2, p2, hh, hD2, l2, g2⟩
      cases m with
      | zero => exact g2.elim
      | succ m =>
        unfold lcI at g2
        have z := (hJ.ext e2).turn p2 i
        cases h3 : src.get i st2 with
        | none => rw [h3] at g2; exact g2.elim
        | some o =>
          rw [h3] at g2 z
          cases o with
          | none =>
            refine .inl ⟨z, g2 (unhide r2 D) H2 _ (e2.unhide p1 hD) p2.unhide ⟨D, ys, rfl, ⟨?_, fun z => z.2 rfl⟩, hD2, l2.unhide⟩⟩
            exact fun k e => p2.nh k D e hh
          | some w =>
            obtain ⟨go, yl⟩ := z
            refine .inr ⟨go, fun H' => ∃ r st acc ys, Ext r1 H1 r H' ∧ Rep W r st H' ∧ r.hid D ∧ H' D = some (.lst ys) ∧ RelL W r H' acc ys ∧ Good W (lcI tg src (ev C ic) (ev C ie) (wipeE env own) m (i + 1) st acc) r1 H1 Q fun k H' => EX W Wx k σ H', fun H' h => ⟨m, Nat.lt_succ_self m, h⟩, fun x H3 hy => ?_⟩
            obtain ⟨e3, p3, q3⟩ := yl x H3 hy
            have oD : Out r2 D := fun k e => p2.nh k D e hh
            have g3 : Good W (match asg tg w (wipeE env own) with | none => .no | some e => (match ev C ic e st2 with | .ok (.bl true) st1 => (match ev C ie e st1 with | .ok x st2 => (match Nat.ble acc.length lineN with | true => lcI tg src (ev C ic) (ev C ie) (wipeE env own) m (i + 1) st2 (acc ++ [x]) | false => .no) | _ => .no) | .ok (.bl false) st1 => lcI tg src (ev C ic) (ev C ie) (wipeE env own) m (i + 1) st1 acc | _ => .no)) r1 H1 Q _ := g2
            cases h4 : asg tg w (wipeE env own) with
            | none => rw [h4] at g3; exact g3.elim
            | some env3 =>
              rw [h4] at g3
              refine asg_ok h4 ((q1.ext e2).ext e3) q3 fun σ3 q4 l3 hw => ⟨by rw [hw own ho, wipe_wipe], r2, st2, env3, p3, q4, ?_⟩
              have g3 : Good W (match ev C ic env3 st2 with | .ok (.bl true) st1 => (match ev C ie env3 st1 with | .ok x st2 => (match Nat.ble acc.length lineN with | true => lcI tg src (ev C ic) (ev C ie) (wipeE env own) m (i + 1) st2 (acc ++ [x]) | false => .no) | _ => .no) | .ok (.bl false) st1 => lcI tg src (ev C ic) (ev C ie) (wipeE env own) m (i + 1) st1 acc | _ => .no) r1 H1 Q _ := g3
              cases h5 : ev C ic env3 st2 with
              | no => rw [h5] at g3; exact g3.elim
              | exc k st3 => rw [h5] at g3; exact (show False from g3).elim
              | ok b st3 =>
                rw [h5] at g3
                cases b with
                | bl b =>
                  intro r4 H4 e4 p4
                  have hh4 : r4.hid D := e4.hup D hh
                  have e14 := (e2.trans e3).trans e4
                  have hD4 : H4 D = some (.lst ys) := e4.keep D _ (e3.keep D _ hD2 oD) oD
                  cases b with
                  | false =>
                    rw [if_neg Bool.false_ne_true]
                    exact ⟨r4, st3, acc, ys, e14, p4, hh4, hD4, (l2.ext e3).ext e4, g3⟩
                  | true =>
                    rw [if_pos rfl]
                    refine ⟨r4, st3, env3, p4, q4.ext e4, ?_⟩
                    have g3 : Good W (match ev C ie env3 st3 with | .ok x st2 => (match Nat.ble acc.length lineN with | true => lcI tg src (ev C ic) (ev C ie) (wipeE env own) m (i + 1) st2 (acc ++ [x]) | false => .no) | _ => .no) r1 H1 Q _ := g3
                    cases h6 : ev C ie env3 st3 with
                    | no => rw [h6] at g3; exact g3.elim
                    | exc k st4 => rw [h6] at g3; exact (show False from g3).elim
                    | ok y st4 =>
                      rw [h6] at g3
                      have g3 : Good W (match Nat.ble acc.length lineN with | true => lcI tg src (ev C ic) (ev C ie) (wipeE env own) m (i + 1) st4 (acc ++ [y]) | false => .no) r1 H1 Q _ := g3
                      cases h7 : Nat.ble acc.length lineN with
                      | false => rw [h7] at g3; exact g3.elim
                      | true =>
                        rw [h7] at g3
                        have hl : acc.length ≤ 100000 := Nat.le_of_ble_eq_true h7
                        intro r5 H5 x5 e5 p5 q5
                        have oD4 : Out r4 D := fun k e => p4.nh k D e hh4
                        have hh5 : r5.hid D := e5.hup D hh4
                        have hD5 : H5 D = some (.lst ys) := e5.keep D _ hD4 oD4
                        have l5 : RelL W r5 H5 acc ys := ((l2.ext e3).ext e4).ext e5
                        refine ⟨ys, hD5, line_lt (by rw [← l5.len]; omega), ?_⟩
                        exact ⟨r5, st4, acc ++ [y], ys ++ [x5], (e14.trans e5).over hD, p5.over hh5 hD5, hh5, upd_same, RelL.over hh5 hD5 _ (l5.app (.one q5)), g3⟩
                | _ => exact (show False from g3).elim
theorem e_lc {elt tgE iter : Expr} {ifs : List Expr} {scope : Scope} {own : List (Str × Nat)} {ownN : List Nat} {tg : Tg} {it ic ie : E} {pos : Pos} (hc : X.calm = true) (hN : X.N.Nodup) (hi : PI X tgE iter (dI W X.K C Wx it)) (ok : BlkOk X.N X.env.scope scope own) (hon : own.map (·.2) = ownN)
    (hg : ∀ (s : Shared) (H : Hp) (Ca : Addr) (cl : List (Str × Addr)) (fp : List Addr), PG (X.blk s H scope (compEnvC scope cl Ca X.env) fp) tgE (dG tg))
    (ht : ∀ (s : Shared) (H : Hp) (Ca : Addr) (cl : List (Str × Addr)) (fp : List Addr), PTs (X.blk s H scope (compEnvC scope cl Ca X.env) fp) ifs (dT W C W0 ic))
    (he : ∀ (s : Shared) (H : Hp) (Ca : Addr) (cl : List (Str × Addr)) (fp : List Addr), PE (X.blk s H scope (compEnvC scope cl Ca X.env) fp) elt (dE W C W0 ie))
    (ho : tgIn tg ownN = true := by rfl) (hs : ∀ x, foldedSetIterable iter X.env x = pure x := by intro _; rfl) : PE X (.ListComp elt [⟨tgE, iter, ifs, 0⟩] scope pos) (dE W C Wx (.lc ownN tg it ic ie)) := by
  subst hon
  exact peI (pe_lc hc hN hi ok hg ht he hs) fun σ H Q h => lc_turns (wi := fun _ _ _ => True) ho h
/-- no test -/
theorem t_nil : PTs X [] (dT W C W0 (.lit (.bl true))) := ptsI pts_nil fun σ H Q ⟨r, st, env, p, q, g⟩ => g r H .refl p
theorem t_one {c : Expr} {i : E} (h : PT X c (dT W C W0 i)) : PTs X [c] (dT W C W0 i) := pts_one h
theorem s_setLc {i : Nat} {y : Str} {py : Pos} {elt tgE iter : Expr} {ifs : List Expr} {scope : Scope} {own : List (Str × Nat)} {ownN : List Nat} {tg : Tg} {it ic ie : E} {pos spos : Pos} (hc : X.calm = true) (hN : X.N.Nodup) (hy : X.N[i]? = some y) (hyl : X.env.scope.names.lookup y = some .local)
    (hsw : swapsWith (.ListComp elt [⟨tgE, iter, ifs, 0⟩] scope pos) (some (.Name y py)) spos.line X.env = pure true) (hi : PI X tgE iter (dI W X.K C Wx it)) (ok : BlkOk X.N X.env.scope scope own) (hon : own.map (·.2) = ownN)
    (hg : ∀ (s : Shared) (H : Hp) (Ca : Addr) (cl : List (Str × Addr)) (fp : List Addr), PG (X.blk s H scope (compEnvC scope cl Ca X.env) fp) tgE (dG tg))
    (ht : ∀ (s : Shared) (H : Hp) (Ca : Addr) (cl : List (Str × Addr)) (fp : List Addr), PTs (X.blk s H scope (compEnvC scope cl Ca X.env) fp) ifs (dT W C W0 ic))
    (he : ∀ (s : Shared) (H : Hp) (Ca : Addr) (cl : List (Str × Addr)) (fp : List Addr), PE (X.blk s H scope (compEnvC scope cl Ca X.env) fp) elt (dE W C W0 ie))
    (ho : tgIn tg ownN = true := by rfl) (hs : ∀ x, foldedSetIterable iter X.env x = pure x := by intro _; rfl) : PS X (.Assign [.Name y py] (.ListComp elt [⟨tgE, iter, ifs, 0⟩] scope pos) spos) (dS W C Wx (.set i (.lc ownN tg it ic ie))) := by
  subst hon
  refine psI (ps_setLc hc hN hy hyl hsw hi ok hg ht he hs) fun D σ H ⟨r, st, env, p, q, g⟩ => lc_turns (wi := fun _ _ _ => True) ho ⟨r, st, env, p, q, GoodS.seq g σ rfl fun v st1 r1 H1 x e1 p1 q1 g1 => ?_⟩
  exact g1 r1 H1 _ .refl p1 ((q.ext e1).set i q1) (by simp)
end
end G

end

section
/-! Calls, raise, a def keeps its promise. -/
namespace G
open PySem PySem.Spec PyProof.Rows L2
/-! ### freezing, by values -/
section
variable {W : Wd} {r r1 : Pl} {H : Hp} {st : Sto}
theorem mapO_rel {f : Val → Option Val} (hf : ∀ {v w : Val} {x : V}, f v = some w → Rel W r H v x → Rel W r1 H w x) : ∀ {xs ws : List Val} {ys : List V}, mapO f xs = some ws → RelL W r H xs ys → RelL W r1 H ws ys
  | [], ws, ys, h, q => by cases h; exact q
  | x :: xs, ws, ys, h, ⟨y, s, e, h1, h2⟩ => by
    have h : (match f x with | some y => (match mapO f xs with | some s => some (y :: s) | none => none) | none => none) = some ws := h
    cases k1 : f x with
    | none => rw [k1] at h; cases h
    | some z =>
      rw [k1] at h
      have h : (match mapO f xs with | some s => some (z :: s) | none => none) = some ws := h
      cases k2 : mapO f xs with
      | none => rw [k2] at h; cases h
      | some zs =>
        rw [k2] at h
        cases h
        exact ⟨y, s, e, hf k1 h1, mapO_rel hf k2 h2⟩
theorem frz_rel (hF : ∀ a, Fre r a → Fre r1 a) (hS : ∀ n o a, st[n]? = some o → r n = some a → RO W r H a o ∧ Fre r1 a) : ∀ {n : Nat} {v w : Val} {x : V}, frz n st v = some w → Rel W r H v x → Rel W r1 H w x
  | 0, v, w, x, h, q => by
    cases v with
    | non => cases h; exact q
    | bl b => cases h; exact q
    | int i => cases h; exact q
    | str s => cases h; exact q
    | _ => cases h
  | n + 1, v, w, x, h, q => by
    cases v with
    | non => cases h; exact q
    | bl b => cases h; exact q
    | int i => cases h; exact q
    | str s => cases h; exact q
    | tup xs =>
      have h : (match mapO (frz n st) xs with | some ys => some (.tup ys) | none => none) = some w := h
      cases k : mapO (frz n st) xs with
      | none => rw [k] at h; cases h
      | some ws =>
        rw [k] at h
        cases h
        obtain ⟨a, ys, e, ha, q⟩ := q
        exact ⟨a, ys, e, ha, mapO_rel (frz_rel hF hS) k q⟩
    | tl xs =>
      have h : (match mapO (frz n st) xs with | some ys => some (.tl ys) | none => none) = some w := h
      cases k : mapO (frz n st) xs with
      | none => rw [k] at h; cases h
      | some ws =>
        rw [k] at h
        cases h
        obtain ⟨a, ys, e, f, ha, q⟩ := q
        exact ⟨a, ys, e, hF a f, ha, mapO_rel (frz_rel hF hS) k q⟩
    | ref m =>
      have h : (match st[m]? with | some (.lst xs) => (match mapO (frz n st) xs with | some ys => some (.tl ys) | none => none) | _ => none) = some w := h
      obtain ⟨a, e, hr⟩ := q
      cases ho : st[m]? with
      | none => rw [ho] at h; cases h
      | some o =>
        rw [ho] at h
        obtain ⟨q, f⟩ := hS m o a ho hr
        cases o with
        | lst xs =>
          have h : (match mapO (frz n st) xs with | some ys => some (.tl ys) | none => none) = some w := h
          cases k : mapO (frz n st) xs with
          | none => rw [k] at h; cases h
          | some ws =>
            rw [k] at h
            cases h
            obtain ⟨ys, ha, q⟩ := q
            exact ⟨a, ys, e, f, ha, mapO_rel (frz_rel hF hS) k q⟩
        | _ => cases h
    | _ => cases h
theorem mapO_id {f : Val → Option Val} (hf : ∀ {v w : Val}, f v = some w → w = v) : ∀ {xs ws : List Val}, mapO f xs = some ws → ws = xs
  | [], ws, h => by cases h; rfl
  | x :: xs, ws, h => by
    have h : (match f x with | some y => (match mapO f xs with | some s => some (y :: s) | none => none) | none => none) = some ws := h
    cases k1 : f x with
    | none => rw [k1] at h; cases h
    | some z =>
      rw [k1] at h
      have h : (match mapO f xs with | some s => some (z :: s) | none => none) = some ws := h
      cases k2 : mapO f xs with
      | none => rw [k2] at h; cases h
      | some zs =>
        rw [k2] at h
        cases h
        rw [hf k1, mapO_id hf k2]
theorem frz_id : ∀ {n : Nat} {v w : Val}, frz n [] v = some w → w = v
  | 0, v, w, h => by cases v <;> first | (cases h; rfl) | cases h
  | n + 1, v, w, h => by
    cases v with
    | non => cases h; rfl
    | bl b => cases h; rfl
    | int i => cases h; rfl
    | str s => cases h; rfl
    | tup xs =>
      have h : (match mapO (frz n []) xs with | some ys => some (.tup ys) | none => none) = some w := h
      cases k : mapO (frz n []) xs with
      | none => rw [k] at h; cases h
      | some ws => rw [k] at h; cases h; rw [mapO_id frz_id k]
    | tl xs =>
      have h : (match mapO (frz n []) xs with | some ys => some (.tl ys) | none => none) = some w := h
      cases k : mapO (frz n []) xs with
      | none => rw [k] at h; cases h
      | some ws => rw [k] at h; cases h; rw [mapO_id frz_id k]
    | ref m =>
      have h : (match ([] : Sto)[m]? with | some (.lst xs) => (match mapO (frz n []) xs with | some ys => some (.tl ys) | none => none) | _ => none) = some w := h
      rw [List.getElem?_nil] at h
      cases h
    | _ => cases h
theorem nilS {P : Nat → Ob → Addr → Prop} : ∀ n o a, ([] : Sto)[n]? = some o → r n = some a → P n o a := fun n o a e _ => by simp at e
/-- values without a ref -/
theorem pure_rel (hF : ∀ a, Fre r a → Fre r1 a) {v : Val} {x : V} (h : pureV v = true) (q : Rel W r H v x) : Rel W r1 H v x := by
  have go : ∀ {v : Val}, (frz 6 [] v).isSome = true → Rel W r H v x → Rel W r1 H v x := by
    intro v h q
    obtain ⟨w, hw⟩ := Option.isSome_iff_exists.mp h
    have z := frz_rel (st := []) hF nilS hw q
    rw [frz_id hw] at z
    exact z
  cases v with
  | fn f => exact q
  | scr => cases h
  | td t ks vs =>
    obtain ⟨ws, hw⟩ := Option.isSome_iff_exists.mp (show (mapO (frz 5 []) vs).isSome = true from h)
    have e := mapO_id (f := frz 5 []) frz_id hw
    cases t with
    | false =>
      obtain ⟨a, e1, f, kvs, h1, h2, h3⟩ := q
      have z := mapO_rel (frz_rel (st := []) hF nilS) hw h3
      rw [e] at z
      exact ⟨a, e1, hF a f, kvs, h1, h2, z⟩
    | true =>
      obtain ⟨a, e1, f, kvs, h1, h2, h3⟩ := q
      have z := mapO_rel (frz_rel (st := []) hF nilS) hw h3
      rw [e] at z
      exact ⟨a, e1, hF a f, kvs, h1, h2, z⟩
  | non => exact go h q
  | bl b => exact go h q
  | int i => exact go h q
  | str s => exact go h q
  | tup xs => exact go h q
  | tl xs => exact go h q
  | ref n => exact go h q
theorem pureL_rel (hF : ∀ a, Fre r a → Fre r1 a) : ∀ {vs : List Val} {xs : List V}, pureL vs = true → RelL W r H vs xs → RelL W r1 H vs xs
  | [], _, _, q => q
  | v :: vs, _, h, ⟨y, s, e, h1, h2⟩ => by
    have h : (match pureV v with | true => pureL vs | false => false) = true := h
    cases k : pureV v with
    | false => rw [k] at h; cases h
    | true =>
      rw [k] at h
      exact ⟨y, s, e, pure_rel hF k h1, pureL_rel hF h h2⟩
/-- a dict of the store is frozen: what is said of values stays -/
def Dct (u : HO) : Prop := (∃ kvs, u = .dK kvs) ∨ ∃ kvs, u = .dT kvs
theorem Dct.mut {u : HO} (h : Dct u) : Mut (some u) := by
  rcases h with ⟨kvs, rfl⟩ | ⟨kvs, rfl⟩ <;> trivial
theorem Dct.nl {u : HO} (h : Dct u) {ys : List V} : HO.lst ys ≠ u := by
  rcases h with ⟨kvs, rfl⟩ | ⟨kvs, rfl⟩ <;> exact fun z => nomatch z
theorem Dct.nt {u : HO} (h : Dct u) {ys : List V} : HO.tup ys ≠ u := by
  rcases h with ⟨kvs, rfl⟩ | ⟨kvs, rfl⟩ <;> exact fun z => nomatch z
theorem Dct.nf {u : HO} (h : Dct u) {o : Obj} {v : HO} : HO.frz o v ≠ u := by
  rcases h with ⟨kvs, rfl⟩ | ⟨kvs, rfl⟩ <;> exact fun z => nomatch z
mutual
theorem Rel.lock {D : Addr} {u : HO} {od : Obj} (hu : Dct u) (hD : H D = some u) : ∀ (v : Val) {y : V}, Rel W r H v y → Rel W r (upd H D (.frz od u)) v y
  | .non, _, h => h
  | .bl _, _, h => h
  | .int _, _, h => h
  | .str _, _, h => h
  | .tup xs, _, ⟨a, ys', e, h, q⟩ => ⟨a, ys', e, by rw [upd_ne (ne_of h hD hu.nt)]; exact h, RelL.lock hu hD xs q⟩
  | .tl xs, _, ⟨a, ys', e, p, h, q⟩ => ⟨a, ys', e, p, by rw [upd_ne (ne_of h hD hu.nl)]; exact h, RelL.lock hu hD xs q⟩
  | .td false ks vs, _, ⟨a, e, p, kvs, ⟨o, h⟩, k, q⟩ => ⟨a, e, p, kvs, ⟨o, by rw [upd_ne (ne_of h hD hu.nf)]; exact h⟩, k, RelL.lock hu hD vs q⟩
  | .td true ks vs, _, ⟨a, e, p, kvs, ⟨o, h⟩, k, q⟩ => ⟨a, e, p, kvs, ⟨o, by rw [upd_ne (ne_of h hD hu.nf)]; exact h⟩, k, RelL.lock hu hD vs q⟩
  | .ref n, _, h => h
  | .fn _, _, h => h
  | .scr, _, ⟨e, .inl k⟩ => ⟨e, .inl k⟩
  | .scr, _, ⟨e, .inr ⟨p, o, h⟩⟩ => ⟨e, .inr ⟨p, o, by rw [upd_ne (ne_of h hD hu.nf)]; exact h⟩⟩
theorem RelL.lock {D : Addr} {u : HO} {od : Obj} (hu : Dct u) (hD : H D = some u) : ∀ (vs : List Val) {us : List V}, RelL W r H vs us → RelL W r (upd H D (.frz od u)) vs us
  | [], _, h => h
  | v :: vs, _, ⟨y, s, e, h, q⟩ => ⟨y, s, e, Rel.lock hu hD v h, RelL.lock hu hD vs q⟩
end
theorem frzD_rel (hF : ∀ a, Fre r a → Fre r1 a) (hS : ∀ n o a, st[n]? = some o → r n = some a → RO W r H a o ∧ Fre r1 a) {v w : Val} {x : V} (h : frzD st v = some w) (hp : ∀ n, v = .ref n → ∃ o, st[n]? = some o) (q : Rel W r H v x) :
    Rel W r1 H w x ∨ ∃ n a u, r n = some a ∧ x = .ref a ∧ H a = some u ∧ Dct u ∧ ∀ od, Rel W r1 (upd H a (.frz od u)) w x := by
  cases v with
  | ref m =>
    obtain ⟨o, ho⟩ := hp m rfl
    have h : (match st[m]? with | some (.dic t ks vs) => (match mapO (frz 5 []) ks with | some ks' => (match mapO (frz 5 []) vs with | some vs' => some (.td t ks' vs') | none => none) | none => none) | _ => frz 6 st (.ref m)) = some w := h
    rw [ho] at h
    cases o with
    | dic t ks vs =>
      have h : (match mapO (frz 5 []) ks with | some ks' => (match mapO (frz 5 []) vs with | some vs' => some (.td t ks' vs') | none => none) | none => none) = some w := h
      cases k1 : mapO (frz 5 []) ks with
      | none => rw [k1] at h; cases h
      | some ks' =>
        rw [k1] at h
        have h : (match mapO (frz 5 []) vs with | some vs' => some (.td t ks' vs') | none => none) = some w := h
        cases k2 : mapO (frz 5 []) vs with
        | none => rw [k2] at h; cases h
        | some vs' =>
          rw [k2] at h
          cases h
          rw [mapO_id frz_id k1]
          obtain ⟨a, e, hr⟩ := q
          obtain ⟨z, f⟩ := hS m _ a ho hr
          cases t with
          | false =>
            obtain ⟨kvs, h1, h2, h3⟩ := z
            exact .inr ⟨m, a, _, hr, e, h1, .inl ⟨_, rfl⟩, fun od => ⟨a, e, f, kvs, ⟨od, upd_same⟩, h2, RelL.lock (.inl ⟨_, rfl⟩) h1 _ (mapO_rel (frz_rel (st := []) hF nilS) k2 h3)⟩⟩
          | true =>
            obtain ⟨kvs, h1, h2, h3⟩ := z
            exact .inr ⟨m, a, _, hr, e, h1, .inr ⟨_, rfl⟩, fun od => ⟨a, e, f, kvs, ⟨od, upd_same⟩, h2, RelL.lock (.inr ⟨_, rfl⟩) h1 _ (mapO_rel (frz_rel (st := []) hF nilS) k2 h3)⟩⟩
    | lst xs => exact .inl (frz_rel hF hS h q)
    | dcn ks vs => exact .inl (frz_rel hF hS h q)
    | ins fs => exact .inl (frz_rel hF hS h q)
    | fdi ks vs => exact .inl (frz_rel hF hS h q)
  | td t ks vs =>
    have h : (match mapO (frz 5 []) vs with | some vs' => some (.td t ks vs') | none => none) = some w := h
    cases k2 : mapO (frz 5 []) vs with
    | none => rw [k2] at h; cases h
    | some vs' =>
      rw [k2] at h
      cases h
      cases t with
      | false =>
        obtain ⟨a, e1, f, kvs, h1, h2, h3⟩ := q
        exact .inl ⟨a, e1, hF a f, kvs, h1, h2, mapO_rel (frz_rel (st := []) hF nilS) k2 h3⟩
      | true =>
        obtain ⟨a, e1, f, kvs, h1, h2, h3⟩ := q
        exact .inl ⟨a, e1, hF a f, kvs, h1, h2, mapO_rel (frz_rel (st := []) hF nilS) k2 h3⟩
  | non => exact .inl (frz_rel hF hS h q)
  | bl b => exact .inl (frz_rel hF hS h q)
  | int i => exact .inl (frz_rel hF hS h q)
  | str s => exact .inl (frz_rel hF hS h q)
  | tup xs => exact .inl (frz_rel hF hS h q)
  | tl xs => exact .inl (frz_rel hF hS h q)
  | fn f => exact .inl (frz_rel hF hS h q)
  | scr => exact .inl (frz_rel hF hS h q)
end
/-- a dict that comes out may be frozen -/
def orFz (Q : VK) : VK := fun x H => Q x H ∨ ∃ a u, x = .ref a ∧ H a = some u ∧ Dct u ∧ ∀ od, Q x (upd H a (.frz od u))
theorem unFz {X : Cx} {pins : List (Addr × Obj)} {σ : St} {Q : VK} {u : Value} {s : Shared} (h : EP X pins σ (orFz Q) u s) : EP X pins σ Q u s := by
  obtain ⟨v, H', I, rv, q | ⟨a, o, e, ha, hd, q⟩⟩ := h
  · exact ⟨v, H', I, rv, q⟩
  · obtain ⟨od, I1⟩ := I.lock ha hd.mut
    exact ⟨v, _, I1, rv, q od⟩
/-! ### promises -/
def spG (W : Wd) (C : Calls) (f n : Nat) : Sp := fun vs H Q E => vs.length = n ∧ ∃ r st as, Rep W r st H ∧ RelL W r H as vs ∧ Good W (C f as st) r H Q fun k H' => E (.ref (W.xa k)) none H'
/-- a store of its own; what the caller's holds is out of reach -/
def away (r : Pl) : Pl := ⟨fun _ => none, fun a => r.hid a ∨ ∃ n, r n = some a⟩
section
variable {X : Cx} {W : Wd} {C : Calls} {Wx : WX}
theorem Rep.away {r : Pl} {st : Sto} {H : Hp} (p : Rep W r st H) : Rep W (away r) [] H where
  inj := fun _ _ _ e _ => (nomatch e)
  dom := fun _ _ e => (nomatch e)
  obj := fun n o e => by simp at e
  nh := fun _ _ e => (nomatch e)
  ht := fun a e => e.elim (p.ht a) fun ⟨n, h⟩ => by
    obtain ⟨o, _, q⟩ := p.at_ h
    exact q.isome
theorem away_fre {r : Pl} {a : Addr} (h : Fre r a) : Fre (away r) a := ⟨fun n e => (nomatch e), fun z => z.elim h.2 fun ⟨n, e⟩ => h.1 n e⟩
theorem fre_away {r : Pl} {a : Addr} (h : ¬ (away r).hid a) : Fre r a := ⟨fun n e => h (.inr ⟨n, e⟩), fun z => h (.inl z)⟩
/-- behind a run of its own: the caller's store stands as it stood -/
theorem away_ext {r r' : Pl} {H H' : Hp} (x : Ext (away r) H r' H') : Ext r H r H' where
  mono := fun _ _ e => e
  fresh := fun _ _ e => .inl e
  keep := fun a o e _ => x.keep a o e fun n z => (nomatch z)
  tups := x.tups
  stay := x.stay
  hup := fun _ e => e
  hdn := fun _ e => .inl e
  frzs := x.frzs
theorem away_rep {r r' : Pl} {st : Sto} {H H' : Hp} (p : Rep W r st H) (x : Ext (away r) H r' H') : Rep W r st H' where
  inj := p.inj
  dom := p.dom
  obj := fun n o e => by
    obtain ⟨b, hb, q⟩ := p.obj n o e
    obtain ⟨u, hu⟩ := q.isome
    exact ⟨b, hb, RO.ext (away_ext x) ((x.keep b u hu fun n z => (nomatch z)).trans hu.symm) q⟩
  nh := p.nh
  ht := fun a e => by
    obtain ⟨u, hu⟩ := p.ht a e
    exact ⟨u, x.keep a u hu fun n z => (nomatch z)⟩
/-- a call by values -/
theorem call_val {f n : Nat} {as : List Val} {vs : List V} {st : Sto} {r : Pl} {H : Hp} {Q : VK} {E : Nat → Hp → Prop} {E' : XK} (p : Rep W r st H) (q : RelL W r H as vs) (hn : vs.length = n) (g : Good W (callV C f as st) r H Q E)
    (hE : ∀ k H', E k H' → E' (.ref (W.xa k)) none H') : spG W C f n vs H (orFz Q) E' := by
  refine ⟨hn, ?_⟩
  have g : Good W (match pureL as with | true => (match C f as [] with | .ok v st' => (match frzD st' v with | some w => .ok w st | none => .no) | .exc k _ => .exc k st | .no => .no) | false => C f as st) r H Q E := g
  cases hp : pureL as with
  | false =>
    rw [hp] at g
    refine ⟨r, st, as, p, q, ?_⟩
    have g : Good W (C f as st) r H Q E := g
    cases h : C f as st with
    | no => rw [h] at g; exact g
    | ok v st1 => rw [h] at g; exact fun r1 H1 x e1 p1 q1 => .inl (g r1 H1 x e1 p1 q1)
    | exc k st1 => rw [h] at g; exact fun r1 H1 e1 p1 => hE _ _ (g r1 H1 e1 p1)
  | true =>
    rw [hp] at g
    have g : Good W (match C f as [] with | .ok v st' => (match frzD st' v with | some w => .ok w st | none => .no) | .exc k _ => .exc k st | .no => .no) r H Q E := g
    refine ⟨away r, [], as, p.away, pureL_rel (fun a => away_fre) hp q, ?_⟩
    cases h : C f as [] with
    | no => rw [h] at g; exact g
    | exc k st1 =>
      rw [h] at g
      exact fun r1 H1 e1 p1 => hE _ _ (g r H1 (away_ext e1) (away_rep p e1))
    | ok v st1 =>
      rw [h] at g
      have g : Good W (match frzD st1 v with | some w => .ok w st | none => .no) r H Q E := g
      cases hw : frzD st1 v with
      | none => rw [hw] at g; exact g.elim
      | some w =>
        rw [hw] at g
        intro r1 H1 x e1 p1 q1
        have nf : ∀ a, ¬ r1.hid a → Fre r a := fun a z => fre_away fun y => z (e1.hup a y)
        have fz := frzD_rel (r1 := r) (fun a z => nf a z.2) (fun n o a ho hr => ?_) hw (fun n e => ?_) q1
        · rcases fz with z | ⟨m, a, u, hr, hx, ha, hd, z⟩
          · exact .inl (g r H1 x (away_ext e1) (away_rep p e1) z)
          · have h0 : H a = none := (e1.fresh m a hr).elim (fun y => nomatch y) fun y => y
            exact .inr ⟨a, u, hx, ha, hd, fun od => g r _ x (away_ext (e1.over h0)) (away_rep p (e1.over h0)) (z od)⟩
        · obtain ⟨b, hb, z⟩ := p1.obj n o ho
          rw [hr] at hb
          cases hb
          exact ⟨z, nf a (p1.nh n a hr)⟩
        · subst e
          obtain ⟨a, _, hr⟩ := q1
          obtain ⟨o, ho, _⟩ := p1.at_ hr
          exact ⟨o, ho⟩
/-- what stands in the table -/
structure Tabs (P : Program) (w : World) (K : PySem.W.Frag) (mg : Str → Option Value) (base : Heap) (W : Wd) (C : Calls) (k : Nat) : Prop where
  fn : ∀ i as st, C i as st ≠ .no → ∃ fd ps, as.length = ps.length ∧ FnOk P w K mg base (L2N.CX P w) k (W.fa i) fd ps (spG W C i ps.length) ∧ Binds K fd ps []
  kp : ∀ i, PySem.W.keepIn K (.ref (W.fa i)) = true
/-- what raises may be let out -/
abbrev TakesN (X : Cx) (Wx : WX) : Prop := L2N.Takes X Wx
theorem takesN0 : TakesN X W0 := fun u s' ⟨_, _, _, _, _, _, _, _, _, _, _, _, _, _, _, _, z⟩ => z.elim
theorem Good.noNo {rs : Rs} {r : Pl} {H : Hp} {Q : VK} {E : Nat → Hp → Prop} (g : Good W rs r H Q E) : rs ≠ .no := fun e => by rw [e] at g; exact g
theorem callV_no {f : Nat} {as : List Val} {st : Sto} (h : callV C f as st ≠ .no) : ∃ st', C f as st' ≠ .no := by
  cases hp : pureL as with
  | false => exact ⟨st, fun e => h (by unfold callV; rw [hp]; exact e)⟩
  | true => exact ⟨[], fun e => h (by unfold callV; rw [hp, e])⟩
/-- a call where what is called is known to be the def at fa, with the promise of the table -/
theorem run_tab {k f : Nat} {as : List Val} {st : Sto} {r : Pl} {pins : List (Addr × Obj)} {σ : St} {H : Hp} {s : Shared} {Q : VK} {us : List Value} {vs : List V} (T : Tabs X.prog X.w X.K X.mg X.base W C k) (hr : Room k X.A) (tk : TakesN X Wx)
    (I : Inv X pins σ H s) (rv : Vals vs us) (p : Rep W r st H) (q : RelL W r H as vs) (g : Good W (callV C f as st) r H Q fun k H' => EX W Wx k σ H') : wpAny (model X.prog X.w) X.A (call (.ref (W.fa f)) us) (EP X pins σ Q) X.xe s := by
  obtain ⟨st', hne⟩ := callV_no g.noNo
  obtain ⟨fd, ps, hl, F, b⟩ := T.fn f as st' hne
  exact thn (run_fnS (E := WE Wx) F hr b (L2N.passAt tk σ) I rv (call_val p q (q.len.symm.trans hl) g fun _ _ h => h)) fun _ _ z => unFz z
theorem e_call {k f : Nat} {x : Str} {e : Expr} {es : List Expr} {l : E} {q pos : Pos} (T : Tabs X.prog X.w X.K X.mg X.base W C k) (hr : Room k X.A) (tk : TakesN X Wx) (hg : Gl X x) (hm : X.mg x = some (.ref (W.fa f))) (ha : PA X (e :: es) (dA W C Wx l))
    (hdb : (x == ("__debug__" : Str)) = false := by decide) (he : starEach (e :: es) X.env = (false, eval e X.env) :: starEach es X.env := by rfl) (hpl : (backTo pos (starEach es X.env)).any (·.1) = false := by rfl) :
    PE X (.Call (.Name x q) (e :: es) [] pos) (dE W C Wx (.call f l)) := by
  refine ⟨fun pins s σ H Q I ⟨r, st, env, p, q, g⟩ => ?_⟩
  refine wpAny_Call_Name_kw (ld_glob I hg hm ?_ hdb)
  have g : Good W ((ev C l env st).bind fun x st1 => match x with | .tup as => callV C f as st1 | _ => .no) r H Q fun k H' => EX W Wx k σ H' := g
  have h : dA W C Wx l σ H fun vs H1 => ∃ r1 st1 as, Rep W r1 st1 H1 ∧ RelL W r1 H1 as vs ∧ Good W (callV C f as st1) r1 H1 Q fun k H' => EX W Wx k σ H' := by
    refine ⟨r, st, env, p, q, ?_⟩
    cases h1 : ev C l env st with
    | no => rw [h1] at g; exact g
    | exc k st1 => rw [h1] at g; exact g
    | ok v st1 =>
      rw [h1] at g
      cases v with
      | tup as => exact fun r1 H1 xs e1 p1 q1 => ⟨r1, st1, as, p1, q1, Good.ext e1 g⟩
      | _ => exact (show False from g).elim
  refine PySem.W.callWith_K (h₀ := X.base) I.ok.mod.kin (T.kp f) (thn (ha.run pos pins s σ H _ I h) fun us s1 ⟨vs, H1, I1, rv, r1, st1, as, p1, q1, g1⟩ => ⟨I1.kIn, ?_⟩) he hpl
  exact run_tab T hr tk I1 rv p1 q1 g1
/-- a call of what an expression gives -/
theorem e_callv {k : Nat} {fe e : Expr} {es : List Expr} {i l : E} {pos : Pos} (T : Tabs X.prog X.w X.K X.mg X.base W C k) (hr : Room k X.A) (tk : TakesN X Wx) (hf : PE X fe (dE W C Wx i)) (ha : PA X (e :: es) (dA W C Wx l))
    (hev : eval (.Call fe (e :: es) [] pos) X.env = (do callWith pos (← eval fe X.env) [] (backTo pos (starEach (e :: es) X.env)) (backToKw pos (keywordEach [] X.env))) := by rfl)
    (he : starEach (e :: es) X.env = (false, eval e X.env) :: starEach es X.env := by rfl) (hpl : (backTo pos (starEach es X.env)).any (·.1) = false := by rfl) :
    PE X (.Call fe (e :: es) [] pos) (dE W C Wx (.callv i l)) := by
  refine ⟨fun pins s σ H Q I ⟨r, st, env, p, q, g⟩ => ?_⟩
  have h0 : dE W C Wx i σ H fun x H1 => ∃ f r1 st1, x = .ref (W.fa f) ∧ Rep W r1 st1 H1 ∧ RelE W r1 H1 env σ ∧ Good W ((ev C l env st1).bind fun x st2 => match x with | .tup as => callV C f as st2 | _ => .no) r1 H1 Q fun k H' => EX W Wx k σ H' := by
    refine ⟨r, st, env, p, q, Good.seq g fun v st1 r1 H1 x e1 p1 q1 g1 => ?_⟩
    cases v with
    | fn f => exact ⟨f, r1, st1, q1, p1, q.ext e1, g1⟩
    | _ => exact (show False from g1).elim
  refine Call_ (thn (hf.run pins s σ H _ I h0) fun u s1 ⟨x, H1, I1, rx, f, r1, st1, ex, p1, q1, g1⟩ => ?_) hev
  subst ex
  cases rx
  have h : dA W C Wx l σ H1 fun vs H2 => ∃ r2 st2 as, Rep W r2 st2 H2 ∧ RelL W r2 H2 as vs ∧ Good W (callV C f as st2) r2 H2 Q fun k H' => EX W Wx k σ H' := by
    refine ⟨r1, st1, env, p1, q1, ?_⟩
    cases h1 : ev C l env st1 with
    | no => rw [h1] at g1; exact g1
    | exc k st2 => rw [h1] at g1; exact g1
    | ok v st2 =>
      rw [h1] at g1
      cases v with
      | tup as => exact fun r2 H2 xs e2 p2 q2 => ⟨r2, st2, as, p2, q2, Good.ext e2 g1⟩
      | _ => exact (show False from g1).elim
  refine PySem.W.callWith_K (h₀ := X.base) I.ok.mod.kin (T.kp f) (thn (ha.run pos pins s1 σ H1 _ I1 h) fun us s2 ⟨vs, H2, I2, rv, r2, st2, as, p2, q2, g2⟩ => ⟨I2.kIn, ?_⟩) he hpl
  exact run_tab T hr tk I2 rv p2 q2 g2
/-- a def's name as a value -/
theorem e_fn {f : Nat} {x : Str} {pos : Pos} (hg : Gl X x) (hm : X.mg x = some (.ref (W.fa f))) (hd : (x == ("__debug__" : Str)) = false := by decide) : PE X (.Name x pos) (dE W C Wx (.lit (.fn f))) :=
  e_lit (pe_glob hg hm (show RelV (.ref (W.fa f)) (.ref (W.fa f)) from rfl) hd) fun _ _ => rfl
/-- an error class of the text -/
structure Exc (K : PySem.W.Frag) (mg : Str → Option Value) (x : Str) (C : Addr) : Prop where
  g : mg x = some (.ref C)
  x : PySem.W.excIn K C [.type "ValueError", .type "Exception", .type "BaseException", .type "object"] "ValueError.__new__" = true
  k : PySem.W.keepIn K (.ref C) = true
  b : PySem.W.subIn K (.ref C) (.type "BaseException") = some true
  t : PySem.W.typeIn K (.ref C) = some (.type "type")
theorem s_raise {k : Nat} {x m : Str} {j : Nat} {p p2 pos pos2 : Pos} (hc : X.calm = true) (tk : TakesN X Wx) (e : Exc X.K X.mg x (W.xa k)) (hg : Gl X x) (hdb : (x == ("__debug__" : Str)) = false := by decide) :
    PS X (.Raise (some (.Call (.Name x p) [.Constant (.str m) j p2] [] pos)) none pos2) (dS W C Wx (.raise k)) :=
  psI (L2N.ps_raise hc tk (L2N.pmk_own PySem.F.excBase_ValueError e.x e.g e.k (raises_own e.b e.t) hg hdb)) fun D σ H ⟨r, st, env, p, q, g⟩ => g r H σ .refl p rfl
end
/-! ### a def keeps its promise -/
theorem start_rel {W : Wd} {r : Pl} {H : Hp} {N : List Str} {as : List Val} {vs : List V} {np ns : Nat} (q : RelL W r H as vs) (h1 : as.length = np) (h2 : N.length = ns) : RelE W r H (start np ns as) (L2.start N vs) := by
  have hl := q.len
  refine ⟨by unfold start L2.start; simp; omega, fun i v e => ?_⟩
  unfold start at e
  unfold L2.start
  by_cases hi : i < as.length
  · rw [List.getElem?_append_left (by simpa using hi), List.getElem?_map] at e
    cases ha : as[i]? with
    | none => rw [ha] at e; cases e
    | some w =>
      rw [ha] at e
      cases e
      obtain ⟨y, a1, a2⟩ := q.get ha
      refine ⟨y, ?_, a2⟩
      rw [List.getElem?_append_left (by rw [List.length_map]; omega), List.getElem?_map, a1]
      rfl
  · rw [List.getElem?_append_right (by simpa using hi), List.getElem?_replicate] at e
    split at e <;> cases e
theorem fn_ok {P : Program} {w : World} {K : PySem.W.Frag} {mg : Str → Option Value} {base : Heap} {W : Wd} {T : List Fd} {dr : Nat → Int → Int} {k d i np ns : Nat} {b : S} {x y : Str} {st : Stmt} {f : Addr} {fd : FuncData} {N ps : List Str} (F : Fun K y x st f fd) (Sc : FnScope N ps (defScope st))
    (hT : T[i]? = some (.df np ns b)) (hp : ps.length = np) (hN : N.length = ns)
    (hb : ∀ (cdv : Value) (A : Around) (outer : List PySem.Env) (s : Shared) (H : Hp) (E : XK), Room k (A.deeper (envOfC x (defScope st) s.heap.objs.size f cdv)) → PSs (cxOf (L2N.CX P w) P w K mg base N x (defScope st) f cdv A outer s H E) (defBody st) (dS W (run T dr d) (fun cls d _ H => E cls d H) b)) :
    FnOk P w K mg base (L2N.CX P w) (k + 1) f fd ps (spG W (run T dr (d + 1)) i ps.length) := by
  obtain ⟨oc, od, kV, doc, pm, an, cdv, ct, osl, rfl, lk, hcd⟩ := F.ex
  refine fn_of lk hcd Sc (fun vs H Q E h => h.1) fun A outer s H vs Q E hr hsp => ⟨_, hb cdv A outer s H E hr, ?_⟩
  obtain ⟨hl, r, st, as, p, q, g⟩ := hsp
  have e : run T dr (d + 1) i as st = (match Nat.beq as.length np with | true => fin (ex (run T dr d) b (start np ns as) st) | false => .no) := by
    show (match T[i]? with | some (.df np ns b) => (match Nat.beq as.length np with | true => fin (ex (run T dr d) b (start np ns as) st) | false => .no) | some .draw => drawV dr as st | some .gap => .no | none => .no) = _
    rw [hT]
  rw [e] at g
  have ha : as.length = np := by rw [q.len, hl, hp]
  rw [ha, Nat.beq_refl] at g
  refine ⟨r, st, _, p, start_rel q ha hN, ?_⟩
  have g : Good W (fin (ex (run T dr d) b (start np ns as) st)) r H Q _ := g
  cases h : ex (run T dr d) b (start np ns as) st with
  | no => rw [h] at g; exact g
  | nx e1 st1 => rw [h] at g; exact fun r1 H1 σ1 x1 p1 _ _ => g r1 H1 .non x1 p1 rfl
  | ret v st1 => rw [h] at g; exact g
  | bk e1 st1 => rw [h] at g; exact (show False from g).elim
  | exc k st1 => rw [h] at g; exact fun r1 H1 σ1 x1 p1 _ => g r1 H1 x1 p1
theorem takes_fn {P : Program} {w : World} {K : PySem.W.Frag} {mg : Str → Option Value} {base : Heap} {N : List Str} {x : Str} {sc : Scope} {f : Addr} {cdv : Value} {A : Around} {outer : List PySem.Env} {s : Shared} {H : Hp} {E : XK} :
    TakesN (cxOf (L2N.CX P w) P w K mg base N x sc f cdv A outer s H E) (fun cls d _ H => E cls d H) := L2N.takes_of rfl rfl rfl rfl
theorem passes_fn {P : Program} {w : World} {K : PySem.W.Frag} {mg : Str → Option Value} {base : Heap} {N : List Str} {x : Str} {sc : Scope} {f : Addr} {cdv : Value} {A : Around} {outer : List PySem.Env} {s : Shared} {H : Hp} {E : XK} :
    PassesOwn (model P w) (A.deeper (envOfC x sc s.heap.objs.size f cdv)) (envOfC x sc s.heap.objs.size f cdv) (cxOf (L2N.CX P w) P w K mg base N x sc f cdv A outer s H E).xe := passes_of (X := cxOf (L2N.CX P w) P w K mg base N x sc f cdv A outer s H E) rfl
end G

end

section
/-! Built-ins; in; slices; dicts that are written. -/
namespace G
open PySem PySem.Spec PyProof.Rows L2
section
variable {X : Cx} {W : Wd} {C : Calls} {Wx : WX}
def rBi (W : Wd) (b : Bi) : List V → Hp → VK → Prop := fun xs H Q => ∃ r st as E, Rep W r st H ∧ RelL W r H as xs ∧ Good W (biV b as st) r H Q E
/-- a built-in with values -/
theorem biA {l : E} {f : List Val → Sto → Rs} {σ : St} {H : Hp} {Q : VK} {r : Pl} {st : Sto} {env : Env} (p : Rep W r st H) (q : RelE W r H env σ)
    (g : Good W ((ev C l env st).bind fun x st1 => match x with | .tup as => f as st1 | _ => .no) r H Q fun k H' => EX W Wx k σ H') :
    dA W C Wx l σ H fun xs H1 => ∃ r1 st1 as E, Rep W r1 st1 H1 ∧ RelL W r1 H1 as xs ∧ Good W (f as st1) r1 H1 Q E := by
  refine ⟨r, st, env, p, q, ?_⟩
  cases h1 : ev C l env st with
  | no => rw [h1] at g; exact g
  | exc k st1 => rw [h1] at g; exact g
  | ok v st1 =>
    rw [h1] at g
    cases v with
    | tup as => exact fun r1 H1 xs e1 p1 q1 => ⟨r1, st1, as, _, p1, q1, Good.ext e1 g⟩
    | _ => exact (show False from g).elim
theorem e_biB {b : Bi} {id : String} {x : Str} {e : Expr} {es : List Expr} {l : E} {p pos : Pos} (hc : CallR X (.builtin id) (rBi W b)) (hg : Gl X x) (hm : X.mg x = none) (hv : bootBuiltins x = some (.builtin id)) (ha : PA X (e :: es) (dA W C Wx l)) (hn : x ≠ "__name__" := by decide) (hdb : (x == ("__debug__" : Str)) = false := by decide)
    (he : starEach (e :: es) X.env = (false, eval e X.env) :: starEach es X.env := by rfl) (hpl : (backTo pos (starEach es X.env)).any (·.1) = false := by rfl) : PE X (.Call (.Name x p) (e :: es) [] pos) (dE W C Wx (.bi b l)) :=
  peI (pe_callB hc hg hm hv ha hn hdb he hpl) fun σ H Q ⟨r, st, env, p, q, g⟩ => biA p q g
theorem e_biT {b : Bi} {id : String} {x : Str} {e : Expr} {es : List Expr} {l : E} {p pos : Pos} (hc : CallR X (.type id) (rBi W b)) (hg : Gl X x) (hm : X.mg x = none) (hv : bootBuiltins x = some (.type id)) (ha : PA X (e :: es) (dA W C Wx l)) (hn : x ≠ "__name__" := by decide) (hdb : (x == ("__debug__" : Str)) = false := by decide)
    (he : starEach (e :: es) X.env = (false, eval e X.env) :: starEach es X.env := by rfl) (hpl : (backTo pos (starEach es X.env)).any (·.1) = false := by rfl) : PE X (.Call (.Name x p) (e :: es) [] pos) (dE W C Wx (.bi b l)) :=
  peI (pe_callTy hc hg hm hv ha hn hdb he hpl) fun σ H Q ⟨r, st, env, p, q, g⟩ => biA p q g
/-- one argument -/
theorem one_arg {r : Pl} {H : Hp} {a : Val} {xs : List V} (h : RelL W r H [a] xs) : ∃ x, xs = [x] ∧ Rel W r H a x := by
  obtain ⟨y, s, e, h1, h2⟩ := h
  subst e
  cases (show s = [] from h2)
  exact ⟨y, rfl, h1⟩
theorem two_args {r : Pl} {H : Hp} {a b : Val} {xs : List V} (h : RelL W r H [a, b] xs) : ∃ x y, xs = [x, y] ∧ Rel W r H a x ∧ Rel W r H b y := by
  obtain ⟨y, s, e, h1, h2⟩ := h
  obtain ⟨z, e2, h3⟩ := one_arg h2
  subst e e2
  exact ⟨y, z, rfl, h1, h3⟩
/-- built-ins of one argument -/
theorem bi1 {v : Value} {b : Bi} (h0 : ∀ as st, (∀ a, as ≠ [a]) → biV b as st = .no)
    (h : ∀ (a : Val) (x : V) (r : Pl) (st : Sto) (E : Nat → Hp → Prop) (pins : List (Addr × Obj)) (s : Shared) (σ : St) (H : Hp) (us : List Value) (Q : VK), Inv X pins σ H s → Vals [x] us → Rep W r st H → Rel W r H a x → Good W (biV b [a] st) r H Q E → wpAny (model X.prog X.w) X.A (call v us) (EP X pins σ Q) X.xe s) : CallR X v (rBi W b) := by
  intro pins s σ H xs us Q I rv ⟨r, st, as, E, p, q, g⟩
  by_cases ha : ∃ a, as = [a]
  · obtain ⟨a, rfl⟩ := ha
    obtain ⟨x, rfl, rx⟩ := one_arg q
    exact h a x r st E pins s σ H us Q I rv p rx g
  · rw [h0 as st fun a e => ha ⟨a, e⟩] at g
    exact g.elim
theorem seqOf_rel {r : Pl} {st : Sto} {H : Hp} {c : Val} {z : V} {zs : List Val} (p : Rep W r st H) (hc : seqOf st c = some zs) (rc : Rel W r H c z) : ∃ l ws, z = .ref l ∧ (H l = some (.lst ws) ∨ H l = some (.tup ws)) ∧ RelL W r H zs ws := by
  cases c with
  | tup ws =>
    cases (show some ws = some zs from hc)
    obtain ⟨l, ys, e, h, q⟩ := rc
    exact ⟨l, ys, e, .inr h, q⟩
  | tl ws => obtain ⟨l, ys, e, h, q⟩ := items_rel p (show items st (.tl ws) = some zs from hc) rc; exact ⟨l, ys, e, .inl h, q⟩
  | ref n => obtain ⟨l, ys, e, h, q⟩ := items_rel p (show items st (.ref n) = some zs from hc) rc; exact ⟨l, ys, e, .inl h, q⟩
  | _ => cases hc
theorem RelK.len : ∀ {ks : List Val} {kk : List Key}, RelK ks kk → ks.length = kk.length
  | [], _, h => by cases (show _ = [] from h); rfl
  | _ :: _, _, ⟨_, _, e, _, h⟩ => by rw [e, List.length_cons, List.length_cons, RelK.len h]
theorem RelT.len : ∀ {ks : List Val} {kk : List (List Key)}, RelT ks kk → ks.length = kk.length
  | [], _, h => by cases (show _ = [] from h); rfl
  | _ :: _, _, ⟨_, _, _, e, _, _, h⟩ => by rw [e, List.length_cons, List.length_cons, RelT.len h]
theorem d_lenRd {pins : List (Addr × Obj)} {s : Shared} {σ : St} {H : Hp} {r : Pl} {a : Addr} {t : Bool} {ks vs : List Val} {Q : VK} (I : Inv X pins σ H s) (h : RD W r H a t ks vs) (q : Q (.int (.ofNat ks.length)) H) : wpAny (model X.prog X.w) X.A (call (.builtin "len") [.ref a]) (EP X pins σ Q) X.xe s := by
  cases t with
  | false =>
    obtain ⟨kvs, e, h1, _⟩ := h
    have hl := h1.len
    rw [List.length_map] at hl
    rw [hl] at q
    exact d_len I e fun t' s' I' => ⟨.int (.ofNat kvs.length), H, I', ⟨t', rfl⟩, q⟩
  | true =>
    obtain ⟨kvs, e, h1, _⟩ := h
    have hl := h1.len
    rw [List.length_map] at hl
    rw [hl] at q
    obtain ⟨z, hd, ys, rel, dd⟩ := dt_rd I.hok e
    have hl : kvs.length = ys.length := Paired.length rel
    refine call_len_dictH hd dd (by rw [← hl]; rw [sizeLine_eq] at z; omega) ?_
    exact ⟨.int (.ofNat kvs.length), H, I.tok _, ⟨_, by rw [← hl]; rfl⟩, q⟩
theorem b_len : CallR X (.builtin "len") (rBi W .len) := by
  refine bi1 (fun as st h => ?_) fun a x r st E pins s σ H us Q I rv p q g => ?_
  · match as with
    | [] => rfl
    | [a] => exact absurd rfl (h a)
    | [_, _] => rfl
    | [_, _, _] => rfl
    | [_, _, _, _] => rfl
    | _ :: _ :: _ :: _ :: _ :: _ => rfl
  · cases a with
    | str t =>
      obtain ⟨rfl, ha⟩ := q
      have g : Good W (match Nat.ble t.length lineN with | true => .ok (.int (.ofNat t.length)) st | false => .no) r H Q E := g
      cases hl : Nat.ble t.length lineN with
      | false => rw [hl] at g; exact g.elim
      | true =>
        rw [hl] at g
        refine call_len pins s σ H _ us Q I rv ⟨_, t.length, rfl, ⟨by rw [sOf_len]; exact line_ok (by have := ha.1; omega), (sOf_len t).symm⟩, g r H _ .refl p rfl⟩
    | tup xs =>
      obtain ⟨l, ys, rfl, hl, q⟩ := q
      exact call_len pins s σ H _ us Q I rv ⟨_, xs.length, rfl, .inr ⟨ys, .of hl, q.len⟩, g r H _ .refl p rfl⟩
    | tl xs =>
      obtain ⟨l, ys, rfl, _, hl, q⟩ := q
      exact call_len pins s σ H _ us Q I rv ⟨_, xs.length, rfl, .inl ⟨ys, .of hl, q.len⟩, g r H _ .refl p rfl⟩
    | td t ks vs =>
      obtain ⟨l, rfl, hd⟩ := Rel.rd q
      obtain ⟨u, rfl, ru⟩ := vals1 rv
      cases ru
      exact d_lenRd I hd (g r H _ .refl p rfl)
    | ref n =>
      obtain ⟨l, rfl, hr⟩ := q
      obtain ⟨o, ho, q⟩ := p.at_ hr
      simp only [biV, ho] at g
      cases o with
      | lst xs =>
        obtain ⟨ys, hl, q⟩ := q
        exact call_len pins s σ H _ us Q I rv ⟨_, xs.length, rfl, .inl ⟨ys, .of hl, q.len⟩, g r H _ .refl p rfl⟩
      | dic t ks vs =>
        obtain ⟨u, rfl, ru⟩ := vals1 rv
        cases ru
        exact d_lenRd I q.rd (g r H _ .refl p rfl)
      | dcn ks vs => exact (show False from g).elim
      | ins fs => exact (show False from g).elim
      | fdi ks vs => exact (show False from g).elim
    | _ => exact (show False from g).elim
theorem not1 (b : Bi) (hb : ∀ x y st, biV b [x, y] st = .no) (hb4 : ∀ x y z w st, biV b [x, y, z, w] st = .no) : ∀ as st, (∀ a, as ≠ [a]) → biV b as st = .no := fun as st h => by
  match as with
  | [] => rfl
  | [a] => exact absurd rfl (h a)
  | [_, _] => exact hb _ _ _
  | [_, _, _] => rfl
  | [_, _, _, _] => exact hb4 _ _ _ _ _
  | _ :: _ :: _ :: _ :: _ :: _ => rfl
/-- all([..]) of truth values -/
theorem allB_of {r : Pl} {H : Hp} : ∀ {xs : List Val} {ys : List V} {c : Bool}, allB xs = some c → RelL W r H xs ys → ∃ bs : List Bool, ys = bs.map V.bl ∧ bs.all id = c
  | [], ys, c, h, q => by cases h; exact ⟨[], q, rfl⟩
  | x :: xs, ys, c, h, ⟨y, s, e, h1, h2⟩ => by
    cases x with
    | bl b =>
      have h : (match allB xs with | some c => some (b && c) | none => none) = some c := h
      cases k : allB xs with
      | none => rw [k] at h; cases h
      | some d =>
        rw [k] at h
        cases h
        obtain ⟨bs, e2, e3⟩ := allB_of k h2
        refine ⟨b :: bs, by rw [e, e2, show y = .bl b from h1]; rfl, ?_⟩
        show (b && bs.all id) = (b && d)
        rw [e3]
    | _ => cases h
theorem b_all (hc : X.calm = true) : CallR X (.builtin "all") (rBi W .all) := by
  refine bi1 (not1 _ (fun _ _ _ => rfl) fun _ _ _ _ _ => rfl) fun a x r st E pins s σ H us Q I rv p q g => ?_
  have g : Good W (match items st a with | some xs => ob (allB xs) st | none => .no) r H Q E := g
  cases h1 : items st a with
  | none => rw [h1] at g; exact g.elim
  | some xs =>
    rw [h1] at g
    obtain ⟨l, ys, rfl, hl, q⟩ := items_rel p h1 q
    have g : Good W (ob (allB xs) st) r H Q E := g
    cases h2 : allB xs with
    | none => rw [h2] at g; exact g.elim
    | some c =>
      rw [h2] at g
      obtain ⟨bs, rfl, e⟩ := allB_of h2 q
      refine cr_all hc pins s σ H _ us Q I rv ⟨l, bs, rfl, .of hl, ?_⟩
      rw [e]
      exact g r H _ .refl p rfl
theorem b_list : CallR X (.type "list") (rBi W .list) := by
  refine bi1 (not1 _ (fun _ _ _ => rfl) fun _ _ _ _ _ => rfl) fun a x r st E pins s σ H us Q I rv p q g => ?_
  have g : Good W (match seqOf st a with | some xs => .ok (.tl xs) st | none => .no) r H Q E := g
  cases h1 : seqOf st a with
  | none => rw [h1] at g; exact g.elim
  | some xs =>
    rw [h1] at g
    obtain ⟨l, ys, rfl, hl, q⟩ := seqOf_rel p h1 q
    refine call_list_of pins s σ H _ us Q I rv ⟨l, ys, rfl, hl.elim (fun z => .inl (.of z)) (fun z => .inr (.of z)), fun d hd => ?_⟩
    exact g r _ _ (.new hd) (p.new hd) ⟨d, _, rfl, p.nfree hd, upd_same, q.ext (.new hd)⟩
theorem b_listM : CallR X (.type "list") (rBi W .listM) := by
  refine bi1 (not1 _ (fun _ _ _ => rfl) fun _ _ _ _ _ => rfl) fun a x r st E pins s σ H us Q I rv p q g => ?_
  have g : Good W (match seqOf st a with | some xs => .ok (.ref st.length) (st ++ [.lst xs]) | none => .no) r H Q E := g
  cases h1 : seqOf st a with
  | none => rw [h1] at g; exact g.elim
  | some xs =>
    rw [h1] at g
    obtain ⟨l, ys, rfl, hl, q⟩ := seqOf_rel p h1 q
    refine call_list_of pins s σ H _ us Q I rv ⟨l, ys, rfl, hl.elim (fun z => .inl (.of z)) (fun z => .inr (.of z)), fun d hd => ?_⟩
    refine g _ _ _ (.plus p hd) (p.plus hd ⟨ys, upd_same, q.ext (.plus p hd)⟩) ⟨d, rfl, ?_⟩
    rw [plus_at, if_pos rfl]
theorem b_tuple : CallR X (.type "tuple") (rBi W .tuple) := by
  refine bi1 (not1 _ (fun _ _ _ => rfl) fun _ _ _ _ _ => rfl) fun a x r st E pins s σ H us Q I rv p q g => ?_
  have g : Good W (match seqOf st a with | some xs => .ok (.tup xs) st | none => .no) r H Q E := g
  cases h1 : seqOf st a with
  | none => rw [h1] at g; exact g.elim
  | some xs =>
    rw [h1] at g
    obtain ⟨l, ys, rfl, hl, q⟩ := seqOf_rel p h1 q
    rcases hl with hl | hl
    · exact call_tuple_of pins s σ H _ us Q I rv ⟨l, ys, rfl, .inl ⟨.of hl, fun d hd => g r _ _ (.new hd) (p.new hd) ⟨d, _, rfl, upd_same, q.ext (.new hd)⟩⟩⟩
    · exact call_tuple_of pins s σ H _ us Q I rv ⟨l, ys, rfl, .inr ⟨.of hl, g r _ _ .refl p ⟨l, _, rfl, hl, q⟩⟩⟩
/-! ### isinstance -/
def tyN : Ty → String
  | .int => "int"
  | .bool => "bool"
  | .tuple => "tuple"
  | .str => "str"
  | .viewer => "?"
theorem isi_ty {r : Pl} {H : Hp} {t : Ty} {a : Val} {x : V} {b : Bool} (ht : t ≠ .viewer) (h : isiV t a = some b) (q : Rel W r H a x) : ∃ ty, TyX X.K H x ty ∧ PySem.W.kitOne X.K ty (.type (tyN t)) = some b := by
  cases a with
  | non => cases (show x = .non from q); refine ⟨_, .base .non, ?_⟩; cases t <;> first | exact absurd rfl ht | (cases h; exact kit_ty (by decide +kernel))
  | bl c => cases (show x = .bl c from q); refine ⟨_, .base (.bl c), ?_⟩; cases t <;> first | exact absurd rfl ht | (cases h; exact kit_ty (by decide +kernel))
  | int i => cases (show x = .int i from q); refine ⟨_, .base (.int i), ?_⟩; cases t <;> first | exact absurd rfl ht | (cases h; exact kit_ty (by decide +kernel))
  | str s => obtain ⟨rfl, _⟩ := q; refine ⟨_, .base (.str _), ?_⟩; cases t <;> first | exact absurd rfl ht | (cases h; exact kit_ty (by decide +kernel))
  | tup xs => obtain ⟨l, ys, rfl, hl, _⟩ := q; refine ⟨_, .base (.tup hl), ?_⟩; cases t <;> first | exact absurd rfl ht | (cases h; exact kit_ty (by decide +kernel))
  | tl xs => obtain ⟨l, ys, rfl, _, hl, _⟩ := q; refine ⟨_, .base (.lst hl), ?_⟩; cases t <;> first | exact absurd rfl ht | (cases h; exact kit_ty (by decide +kernel))
  | _ => cases h
theorem e_isi {t : Ty} {e : Expr} {y : Str} {i : E} {p p2 pos : Pos} (ht : t ≠ .viewer) (hg : Gl X "isinstance") (hm : X.mg "isinstance" = none) (he : PE X e (dE W C Wx i)) (hgy : Gl X y) (hmy : X.mg y = none) (hby : bootBuiltins y = some (.type (tyN t)))
    (hny : y ≠ "__name__" := by decide) (hdy : (y == ("__debug__" : Str)) = false := by decide)
    (hs : starEach [e, .Name y p2] X.env = (false, eval e X.env) :: starEach [.Name y p2] X.env := by rfl) (hs2 : starEach [.Name y p2] X.env = (false, eval (.Name y p2) X.env) :: starEach [] X.env := by rfl) (hpl : (backTo pos (starEach [.Name y p2] X.env)).any (·.1) = false := by rfl) :
    PE X (.Call (.Name "isinstance" p) [e, .Name y p2] [] pos) (dE W C Wx (.bi (.isi t) (.cons i .nil))) := by
  refine peI (pe_callB call_isi hg hm boot_isinstance (pa_cons he (pa_cons (pe_bltn hgy hmy hby (show RelV (.ty (tyN t)) _ from rfl) hny hdy) pa_nil hs2) hs) (by decide) (by decide) hs hpl) fun σ H Q ⟨r, st, env, p, q, g⟩ => ?_
  have g : Good W (((ev C i env st).bind fun x st1 => .ok (.tup [x]) st1).bind fun x st1 => match x with | .tup as => biV (.isi t) as st1 | _ => .no) r H Q fun k H' => EX W Wx k σ H' := g
  refine ⟨r, st, env, p, q, ?_⟩
  cases h1 : ev C i env st with
  | no => rw [h1] at g; exact g
  | exc k st1 => rw [h1] at g; exact g
  | ok v st1 =>
    rw [h1] at g
    intro r1 H1 x e1 p1 q1
    have g : Good W (ob (isiV t v) st1) r1 H1 Q _ := Good.ext e1 g
    cases h2 : isiV t v with
    | none => rw [h2] at g; exact g.elim
    | some b =>
      rw [h2] at g
      obtain ⟨ty, h3, h4⟩ := isi_ty (X := X) ht h2 q1
      exact ⟨x, .ty (tyN t), ty, _, b, rfl, .ty _, h3, h4, g r1 H1 _ .refl p1 rfl⟩
/-! ### max, min of two -/
theorem b_min2 (hc : X.calm = true) : CallR X (.builtin "min") (rBi W .min2) := by
  intro pins s σ H xs us Q I rv ⟨r, st, as, E, p, q, g⟩
  match as, q, g with
  | [.int i, .int j], q, g =>
    rw [q.i2] at rv
    have g : Good W (.ok (.int (if ilt j i then j else i)) st) r H Q E := g
    refine call_min2 hc pins s σ H _ us Q I rv ⟨i, j, rfl, ?_⟩
    have e : (if j < i then j else i) = (if ilt j i then j else i) := by
      rw [ilt_eq]
      by_cases h : j < i <;> simp [h]
    rw [e]
    exact g r H _ .refl p rfl
  | [], _, g => exact (show False from g).elim
  | [_], _, g => exact (show False from g).elim
  | .int i :: .non :: [], _, g => exact (show False from g).elim
  | .int i :: .bl _ :: [], _, g => exact (show False from g).elim
  | .int i :: .str _ :: [], _, g => exact (show False from g).elim
  | .int i :: .tup _ :: [], _, g => exact (show False from g).elim
  | .int i :: .tl _ :: [], _, g => exact (show False from g).elim
  | .int i :: .td _ _ _ :: [], _, g => exact (show False from g).elim
  | .int i :: .ref _ :: [], _, g => exact (show False from g).elim
  | .int i :: .fn _ :: [], _, g => exact (show False from g).elim
  | .int i :: .scr :: [], _, g => exact (show False from g).elim
  | .non :: _ :: [], _, g => exact (show False from g).elim
  | .bl _ :: _ :: [], _, g => exact (show False from g).elim
  | .str _ :: _ :: [], _, g => exact (show False from g).elim
  | .tup _ :: _ :: [], _, g => exact (show False from g).elim
  | .tl _ :: _ :: [], _, g => exact (show False from g).elim
  | .td _ _ _ :: _ :: [], _, g => exact (show False from g).elim
  | .ref _ :: _ :: [], _, g => exact (show False from g).elim
  | .fn _ :: _ :: [], _, g => exact (show False from g).elim
  | .scr :: _ :: [], _, g => exact (show False from g).elim
  | [_, _, _], _, g => exact (show False from g).elim
  | [_, _, _, _], _, g => exact (show False from g).elim
  | _ :: _ :: _ :: _ :: _ :: _, _, g => exact (show False from g).elim
end
end G

end

section
/-! in, is; slices; dicts made and stored. -/
namespace G
open PySem PySem.Spec PyProof.Rows L2
theorem memN_eq (c : Nat) : ∀ y : List Nat, memN c y = decide (c ∈ y)
  | [] => by simp [memN]
  | x :: r => by
    show (match Nat.beq x c with | true => true | false => memN c r) = _
    rw [memN_eq c r]
    cases h : Nat.beq x c with
    | true =>
      have e : x = c := Nat.eq_of_beq_eq_true h
      simp [e]
    | false =>
      have e : c ≠ x := fun z => by
        subst z
        rw [Nat.beq_refl] at h
        cases h
      simp [e]
section
variable {X : Cx} {W : Wd} {C : Calls} {Wx : WX}
theorem flat_V {r : Pl} {H : Hp} {v : Val} {x : V} (h : flat v = true) (q : Rel W r H v x) : flatV x = true := by
  cases v with
  | non => cases (show x = .non from q); rfl
  | bl b => cases (show x = .bl b from q); rfl
  | int i => cases (show x = .int i from q); rfl
  | str s => obtain ⟨rfl, _⟩ := q; rfl
  | _ => cases h
theorem eqv_V {r : Pl} {H : Hp} {v w : Val} {x y : V} (hv : flat v = true) (hw : flat w = true) (q1 : Rel W r H v x) (q2 : Rel W r H w y) : eqv v w = eqV x y := by
  cases v with
  | non =>
    cases (show x = .non from q1)
    cases w with
    | non => cases (show y = .non from q2); rfl
    | bl b => cases (show y = .bl b from q2); rfl
    | int i => cases (show y = .int i from q2); rfl
    | str s => obtain ⟨rfl, _⟩ := q2; rfl
    | _ => cases hw
  | bl a =>
    cases (show x = .bl a from q1)
    cases w with
    | non => cases (show y = .non from q2); rfl
    | bl b => cases (show y = .bl b from q2); rfl
    | int i => cases (show y = .int i from q2); exact ieq_beq _ _
    | str s => obtain ⟨rfl, _⟩ := q2; rfl
    | _ => cases hw
  | int a =>
    cases (show x = .int a from q1)
    cases w with
    | non => cases (show y = .non from q2); rfl
    | bl b => cases (show y = .bl b from q2); exact ieq_beq _ _
    | int i => cases (show y = .int i from q2); exact ieq_beq _ _
    | str s => obtain ⟨rfl, _⟩ := q2; rfl
    | _ => cases hw
  | str s =>
    obtain ⟨rfl, _⟩ := q1
    cases w with
    | non => cases (show y = .non from q2); rfl
    | bl b => cases (show y = .bl b from q2); rfl
    | int i => cases (show y = .int i from q2); rfl
    | str t => obtain ⟨rfl, _⟩ := q2; exact (sOf_beq s t).symm
    | _ => cases hw
  | _ => cases hv
theorem inL_V {r : Pl} {H : Hp} {v : Val} {x : V} (hv : flat v = true) (q : Rel W r H v x) : ∀ {xs : List Val} {ys : List V}, allFlat xs = true → RelL W r H xs ys → inL v xs = L2.inV x ys ∧ ys.all flatV = true
  | [], ys, _, l => by cases (show ys = [] from l); exact ⟨rfl, rfl⟩
  | u :: us, ys, h, ⟨y, s, e, h1, h2⟩ => by
    have h : (match flat u with | true => allFlat us | false => false) = true := h
    cases hf : flat u with
    | false => rw [hf] at h; cases h
    | true =>
      rw [hf] at h
      obtain ⟨a, b⟩ := inL_V hv q h h2
      subst e
      refine ⟨?_, by rw [List.all_cons, flat_V hf h1, b]; rfl⟩
      show (match eqv u v with | true => true | false => inL v us) = ((y :: s).any fun z => eqV z x)
      rw [List.any_cons, eqv_V hf hv h1 q, a]
      cases eqV y x <;> rfl
theorem inL_D {n m : Nat} {v : Val} (hv : datN n v) : ∀ (ys : List Val), (∀ y ∈ ys, datN m y) → ((toDL ys).any fun z => PyData.eqv z (toD v)) = inL v ys
  | [], _ => rfl
  | y :: ys, h => by
    show (PyData.eqv (toD y) (toD v) || (toDL ys).any fun z => PyData.eqv z (toD v)) = (match eqv y v with | true => true | false => inL v ys)
    rw [inL_D hv ys fun z hz => h z (List.mem_cons_of_mem _ hz), eqv_D y v (h y List.mem_cons_self) hv]
    cases eqv y v <;> rfl
/-- in, in one go: what it rests on -/
theorem inV_or {r : Pl} {st : Sto} {H : Hp} {a b : Val} {x y : V} {c : Bool} (p : Rep W r st H) (h : inV a b st = some c) (ra : Rel W r H a x) (rb : Rel W r H b y) :
    (∃ (k : Nat) (z : Str), x = .str ⟨#[k]⟩ ∧ y = .str z ∧ decide (k ∈ z.cps.toList) = c) ∨ (∃ q xs, y = .ref q ∧ H q = some (.tup xs) ∧ flatV x = true ∧ xs.all flatV = true ∧ L2.inV x xs = c) ∨
    (∃ d ds, Dp X.K H x d ∧ Dp X.K H y (.list ds) ∧ SeqAt.shaped d = true ∧ SeqAt.shaped (.list ds) = true ∧ (ds.any fun z => PyData.eqv z d) = c) ∨ (∃ q o, y = .ref q ∧ DGet H q x o ∧ o.isSome = c) := by
  have lst : ∀ {xs : List Val} {l : Addr} {ys : List V}, y = .ref l → H l = some (.lst ys) → RelL W r H xs ys → inLst a xs st = some c →
      ∃ d ds, Dp X.K H x d ∧ Dp X.K H y (.list ds) ∧ SeqAt.shaped d = true ∧ SeqAt.shaped (.list ds) = true ∧ (ds.any fun z => PyData.eqv z d) = c := by
    intro xs l ys e hl q h
    unfold inLst at h
    cases h1 : frz 5 st a with
    | none => rw [h1] at h; cases h
    | some v =>
      rw [h1] at h
      have h : (match mapO (frz 5 st) xs with | some ys => some (inL v ys) | none => none) = some c := h
      cases h2 : mapO (frz 5 st) xs with
      | none => rw [h2] at h; cases h
      | some ws =>
        rw [h2] at h
        obtain ⟨k1, d1⟩ := frz_Dp (K := X.K) p h1 ra
        obtain ⟨k2, d2⟩ := mapO_Dp (K := X.K) (frz_Dp p) h2 q
        refine ⟨toD v, toDL ws, k1, by rw [e]; exact .lst (.of hl) k2, dat_shaped d1 (by decide), dat_shaped (n := 6) (v := .tl ws) d2 (by decide), ?_⟩
        rw [inL_D d1 ws d2]
        exact Option.some.inj h
  have dic : ∀ {t : Bool} {ks vs : List Val} {l : Addr}, y = .ref l → RD W r H l t ks vs → (match keyOk t a with | true => some (dget a ks vs).isSome | false => none) = some c → ∃ q o, y = .ref q ∧ DGet H q x o ∧ o.isSome = c := by
    intro t ks vs l e hd h
    cases hk : keyOk t a with
    | false => rw [hk] at h; cases h
    | true =>
      rw [hk] at h
      have z := hd.get hk ra
      have h : some (dget a ks vs).isSome = some c := h
      cases hg : dget a ks vs with
      | none => rw [hg] at z h; exact ⟨l, none, e, z, Option.some.inj h⟩
      | some v =>
        rw [hg] at z h
        obtain ⟨w, z, _⟩ := z
        exact ⟨l, some w, e, z, Option.some.inj h⟩
  cases b with
  | str t =>
    obtain ⟨rfl, _⟩ := rb
    cases a with
    | str s =>
      match s, h, ra with
      | [k], h, ⟨e, _⟩ =>
        refine .inl ⟨k, sOf t, e, rfl, ?_⟩
        show decide (k ∈ t.toArray.toList) = c
        rw [List.toList_toArray, ← memN_eq]
        exact Option.some.inj h
      | [], h, _ => cases h
      | _ :: _ :: _, h, _ => cases h
    | _ => cases h
  | tup xs =>
    have h : (match flat a && allFlat xs with | true => some (inL a xs) | false => none) = some c := h
    cases hf : flat a && allFlat xs with
    | false => rw [hf] at h; cases h
    | true =>
      rw [hf] at h
      rw [Bool.and_eq_true] at hf
      obtain ⟨l, ys, e, hl, q⟩ := rb
      obtain ⟨k1, k2⟩ := inL_V hf.1 ra hf.2 q
      exact .inr (.inl ⟨l, ys, e, hl, flat_V hf.1 ra, k2, by rw [← k1]; exact Option.some.inj h⟩)
  | tl xs =>
    obtain ⟨l, ys, e, _, hl, q⟩ := rb
    exact .inr (.inr (.inl (lst e hl q h)))
  | td t ks vs =>
    obtain ⟨l, e, hd⟩ := Rel.rd rb
    exact .inr (.inr (.inr (dic e hd h)))
  | ref n =>
    obtain ⟨l, e, hr⟩ := rb
    obtain ⟨o, ho, q⟩ := p.at_ hr
    simp only [inV, ho] at h
    cases o with
    | lst xs =>
      obtain ⟨ys, hl, q⟩ := q
      exact .inr (.inr (.inl (lst e hl q h)))
    | dic t ks vs => exact .inr (.inr (.inr (dic e q.rd h)))
    | dcn ks vs => cases h
    | ins fs => cases h
    | fdi ks vs => cases h
  | _ => cases h
theorem o_in (hu : X.A.units + 65 < cLine) : OpR X (compareOp .In) (rB W (cmpV .isIn)) := by
  intro pins s σ H x y v u Q I rx ry ⟨r, st, a, b, E, p, ra, rb, g⟩
  have g : Good W (ob (inV a b st) st) r H Q E := g
  cases h : inV a b st with
  | none => rw [h] at g; exact g.elim
  | some c =>
    rw [h] at g
    have fin : Q (.bl c) H := g r H _ .refl p rfl
    rcases inV_or (X := X) p h ra rb with ⟨k, z, e1, e2, e3⟩ | ⟨q, xs, e1, e2, e3, e4, e5⟩ | ⟨d, ds, e1, e2, e3, e4, e5⟩ | ⟨q, o, e1, e2, e3⟩
    · exact op_in_sign pins s σ H x y v u Q I rx ry ⟨k, z, e1, e2, by rw [e3]; exact fin⟩
    · exact op_in_seq pins s σ H x y v u Q I rx ry ⟨q, xs, e1, .inr (.of e2), e3, e4, by rw [e5]; exact fin⟩
    · exact op_inD hu pins s σ H x y v u Q I rx ry ⟨d, ds, e1, e2, e3, e4, by rw [e5]; exact fin⟩
    · exact op_inDict (by omega) pins s σ H x y v u Q I rx ry ⟨q, o, e1, e2, by rw [e3]; exact fin⟩
theorem o_notIn (hu : X.A.units + 65 < cLine) : OpR X (compareOp .NotIn) (rB W (cmpV .notIn)) := by
  intro pins s σ H x y v u Q I rx ry ⟨r, st, a, b, E, p, ra, rb, g⟩
  have g : Good W (ob (notO (inV a b st)) st) r H Q E := g
  cases h : inV a b st with
  | none => rw [h] at g; exact g.elim
  | some c =>
    rw [h] at g
    have fin : Q (.bl (!c)) H := g r H _ .refl p rfl
    rcases inV_or (X := X) p h ra rb with ⟨k, z, e1, e2, e3⟩ | ⟨q, xs, e1, e2, e3, e4, e5⟩ | ⟨d, ds, e1, e2, e3, e4, e5⟩ | ⟨q, o, e1, e2, e3⟩
    · exact op_notIn_sign pins s σ H x y v u Q I rx ry ⟨k, z, e1, e2, by rw [e3]; exact fin⟩
    · exact op_notIn_seq pins s σ H x y v u Q I rx ry ⟨q, xs, e1, .inr (.of e2), e3, e4, by rw [e5]; exact fin⟩
    · exact op_notInD hu pins s σ H x y v u Q I rx ry ⟨d, ds, e1, e2, e3, e4, by rw [e5]; exact fin⟩
    · exact op_notInDict (by omega) pins s σ H x y v u Q I rx ry ⟨q, o, e1, e2, by rw [e3]; exact fin⟩
theorem isV_or {r : Pl} {H : Hp} {a b : Val} {x y : V} {c : Bool} (h : isV a b = some c) (ra : Rel W r H a x) (rb : Rel W r H b y) : (y = .non ∧ decide (x = .non) = c) ∨ (∃ u v : Bool, x = .bl u ∧ y = .bl v ∧ decide (u = v) = c) := by
  cases b with
  | non =>
    refine .inl ⟨rb, ?_⟩
    cases a with
    | non => cases h; cases (show x = .non from ra); rfl
    | bl b => cases h; cases (show x = .bl b from ra); rfl
    | int b => cases h; cases (show x = .int b from ra); rfl
    | str s => cases h; obtain ⟨rfl, _⟩ := ra; rfl
    | tup s => cases h; obtain ⟨_, _, rfl, _⟩ := ra; rfl
    | tl s => cases h; obtain ⟨_, _, rfl, _⟩ := ra; rfl
    | td t ks vs => cases h; obtain ⟨_, rfl, _⟩ := Rel.rd ra; rfl
    | ref n => cases h; obtain ⟨_, rfl, _⟩ := ra; rfl
    | _ => cases h
  | bl v =>
    cases a with
    | bl u =>
      refine .inr ⟨u, v, ra, rb, ?_⟩
      cases h
      cases u <;> cases v <;> rfl
    | _ => cases h
  | _ => cases h
theorem o_is : OpR X (compareOp .Is) (rB W (cmpV .is)) := by
  intro pins s σ H x y v u Q I rx ry ⟨r, st, a, b, E, p, ra, rb, g⟩
  have g : Good W (ob (isV a b) st) r H Q E := g
  cases h : isV a b with
  | none => rw [h] at g; exact g.elim
  | some c =>
    rw [h] at g
    have fin : Q (.bl c) H := g r H _ .refl p rfl
    rcases isV_or h ra rb with ⟨e1, e2⟩ | ⟨u', v', e1, e2, e3⟩
    · exact op_isN pins s σ H x y v u Q I rx ry ⟨e1, by rw [e2]; exact fin⟩
    · exact op_isBl pins s σ H x y v u Q I rx ry ⟨u', v', e1, e2, by rw [e3]; exact fin⟩
theorem o_isNot : OpR X (compareOp .IsNot) (rB W (cmpV .isNot)) := by
  intro pins s σ H x y v u Q I rx ry ⟨r, st, a, b, E, p, ra, rb, g⟩
  have g : Good W (ob (notO (isV a b)) st) r H Q E := g
  cases h : isV a b with
  | none => rw [h] at g; exact g.elim
  | some c =>
    rw [h] at g
    have fin : Q (.bl (!c)) H := g r H _ .refl p rfl
    rcases isV_or h ra rb with ⟨e1, e2⟩ | ⟨u', v', e1, e2, e3⟩
    · exact op_notN pins s σ H x y v u Q I rx ry ⟨e1, by rw [e2]; exact fin⟩
    · exact op_notBl pins s σ H x y v u Q I rx ry ⟨u', v', e1, e2, by rw [e3]; exact fin⟩

/-! ### slices -/
def partV : Val → Option (Option Int)
  | .non => some none
  | .int i => some (some i)
  | _ => none
theorem cutI_s {n d : Nat} {v : Val} {k : Nat} (h : cutI n d v = some k) : ∃ o, partV v = some o ∧ HT.sIx n d o = k := by
  cases v with
  | non => cases h; exact ⟨none, rfl, rfl⟩
  | int i =>
    refine ⟨some i, rfl, ?_⟩
    cases i with
    | ofNat m =>
      cases h
      exact HT.sIx_nat n d m
    | negSucc m =>
      cases h
      show (if Int.negSucc m < 0 then (Int.negSucc m + (n : Int)).toNat else min (Int.negSucc m).toNat n) = n - (m + 1)
      rw [if_pos (by omega)]
      omega
  | _ => cases h
theorem RelL.cut {r : Pl} {H : Hp} {vs : List Val} {ys : List V} (h : RelL W r H vs ys) (i j : Nat) : RelL W r H (cut vs i j) ((ys.drop i).take (j - i)) := (h.drop i).take (j - i)
/-- an end of a slice, written or not -/
def dP (W : Wd) (C : Calls) (Wx : WX) (i : E) : TO := fun σ H Q => ∃ r st env, Rep W r st H ∧ RelE W r H env σ ∧ match evP (isAbs i) (ev C i env st) with
    | .ok v st1 => (match partV v with | some o => ∀ r1 H1, Ext r H r1 H1 → Rep W r1 st1 H1 → Q o H1 | none => False)
    | .exc k st1 => ∀ r1 H1, Ext r H r1 H1 → Rep W r1 st1 H1 → EX W Wx k σ H1
    | .no => False
theorem p_none : PO X none (dP W C Wx (.lit .non)) := ⟨fun pins s σ H Q I ⟨r, st, env, p, q, g⟩ => po_none.run pins s σ H Q I (g r H .refl p)⟩
theorem p_some {e : Expr} {i : E} (h : PE X e (dE W C Wx i)) (ha : isAbs i = false := by rfl) : PO X (some e) (dP W C Wx i) := by
  refine ⟨fun pins s σ H Q I ⟨r, st, env, p, q, g⟩ => (po_some h).run pins s σ H Q I ⟨r, st, env, p, q, ?_⟩⟩
  rw [ha] at g
  cases h1 : ev C i env st with
  | no => rw [h1] at g; exact g
  | exc k st1 => rw [h1] at g; exact g
  | ok v st1 =>
    rw [h1] at g
    intro r1 H1 x e1 p1 q1
    cases v with
    | int j => exact ⟨j, q1, g r1 H1 e1 p1⟩
    | _ => exact (show False from g).elim
def rSlG (W : Wd) : V → Option Int → Option Int → Hp → VK → Prop := fun x lo hi H Q => ∃ r st a y z E, Rep W r st H ∧ Rel W r H a x ∧ partV y = some lo ∧ partV z = some hi ∧ Good W (slcV a y z st) r H Q E
theorem sl_all : SlR X (rSlG W) := by
  intro pins s σ H x v vl vu lo hi sl Q I rx hs pl pu ⟨r, st, a, y, z, E, p, ra, hy, hz, g⟩
  have part : ∀ {n d : Nat} {w : Val} {o : Option Int} {k : Nat}, partV w = some o → cutI n d w = some k → HT.sIx n d o = k := by
    intro n d w o k h1 h2
    obtain ⟨o', h3, h4⟩ := cutI_s h2
    rw [h1] at h3
    cases h3
    exact h4
  have lst : ∀ {xs : List Val} {l : Addr} {ys : List V}, x = .ref l → H l = some (.lst ys) → RelL W r H xs ys → Good W (match cutI xs.length 0 y with | some i => (match cutI xs.length xs.length z with | some j => .ok (.tl (cut xs i j)) st | none => .no) | none => .no) r H Q E →
      ∃ T id, typeLookup (.type T) "__getitem__" = pure (some (.builtin id)) ∧ s.TypeIs v T ∧ wpAny (model X.prog X.w) X.A (getItem v (.ref sl)) (EP X pins σ Q) X.xe s := by
    intro xs l ys e hl q g
    cases h1 : cutI xs.length 0 y with
    | none => rw [h1] at g; exact g.elim
    | some i =>
      rw [h1] at g
      have g : Good W (match cutI xs.length xs.length z with | some j => .ok (.tl (cut xs i j)) st | none => .no) r H Q E := g
      cases h2 : cutI xs.length xs.length z with
      | none => rw [h2] at g; exact g.elim
      | some j =>
        rw [h2] at g
        refine sl_list pins s σ H x v vl vu lo hi sl Q I rx hs pl pu ⟨l, ys, e, .of hl, fun d hd => ?_⟩
        refine g r _ _ (.new hd) (p.new hd) ⟨d, _, rfl, p.nfree hd, upd_same, ?_⟩
        unfold cutV
        rw [← q.len, part hy h1, part hz h2]
        exact (q.cut i j).ext (.new hd)
  cases a with
  | tup xs =>
    have g : Good W (match cutI xs.length 0 y with | some i => (match cutI xs.length xs.length z with | some j => .ok (.tup (cut xs i j)) st | none => .no) | none => .no) r H Q E := g
    obtain ⟨l, ys, e, hl, q⟩ := ra
    cases h1 : cutI xs.length 0 y with
    | none => rw [h1] at g; exact g.elim
    | some i =>
      rw [h1] at g
      have g : Good W (match cutI xs.length xs.length z with | some j => .ok (.tup (cut xs i j)) st | none => .no) r H Q E := g
      cases h2 : cutI xs.length xs.length z with
      | none => rw [h2] at g; exact g.elim
      | some j =>
        rw [h2] at g
        refine sl_tupA pins s σ H x v vl vu lo hi sl Q I rx hs pl pu ⟨l, ys, e, .of hl, fun ⟨c1, c2⟩ => ?_, fun _ d hd => ?_⟩
        · rw [← q.len, part hy h1] at c1
          rw [← q.len, part hz h2] at c2
          subst c1 c2
          have g : Good W (.ok (.tup (cut xs 0 xs.length)) st) r H Q E := g
          rw [show cut xs 0 xs.length = xs by unfold cut; simp] at g
          exact g r H _ .refl p ⟨l, ys, rfl, hl, q⟩
        · refine g r _ _ (.new hd) (p.new hd) ⟨d, _, rfl, upd_same, ?_⟩
          unfold cutV
          rw [← q.len, part hy h1, part hz h2]
          exact (q.cut i j).ext (.new hd)
  | str t =>
    have g : Good W (match cutI t.length 0 y with | some i => (match cutI t.length t.length z with | some j => .ok (.str (cut t i j)) st | none => .no) | none => .no) r H Q E := g
    obtain ⟨rfl, ha⟩ := ra
    cases h1 : cutI t.length 0 y with
    | none => rw [h1] at g; exact g.elim
    | some i =>
      rw [h1] at g
      have g : Good W (match cutI t.length t.length z with | some j => .ok (.str (cut t i j)) st | none => .no) r H Q E := g
      cases h2 : cutI t.length t.length z with
      | none => rw [h2] at g; exact g.elim
      | some j =>
        rw [h2] at g
        refine sl_str pins s σ H _ v vl vu lo hi sl Q I rx hs pl pu ⟨sOf t, rfl, by rw [sOf_len]; exact line_ok (by have := ha.1; omega), ?_⟩
        have e : cutS (sOf t) lo hi = sOf (cut t i j) := by
          unfold cutS
          rw [sOf_len, part hy h1, part hz h2]
          show Str.mk (((t.toArray.toList).drop i).take (j - i)).toArray = _
          rw [List.toList_toArray]
          rfl
        rw [e]
        refine g r H _ .refl p ⟨rfl, ?_, fun c hc => ha.2 c ?_⟩
        · unfold cut
          rw [List.length_take, List.length_drop]
          have := ha.1
          omega
        · exact List.mem_of_mem_drop (List.mem_of_mem_take hc)
  | tl xs =>
    obtain ⟨l, ys, e, _, hl, q⟩ := ra
    exact lst e hl q g
  | ref n =>
    have g : Good W (match items st (.ref n) with | some xs => (match cutI xs.length 0 y with | some i => (match cutI xs.length xs.length z with | some j => .ok (.tl (cut xs i j)) st | none => .no) | none => .no) | none => .no) r H Q E := g
    cases hi' : items st (.ref n) with
    | none => rw [hi'] at g; exact g.elim
    | some xs =>
      rw [hi'] at g
      obtain ⟨l, ys, e, hl, q⟩ := items_rel p hi' ra
      exact lst e hl q g
  | _ => exact (show False from g).elim
theorem e_slc {a : Expr} {lo hi : Option Expr} {ia il ih : E} {p2 pos : Pos} (ha : PE X a (dE W C Wx ia)) (hl : PO X lo (dP W C Wx il)) (hh : PO X hi (dP W C Wx ih)) : PE X (.Subscript a (.Slice lo hi none p2) pos) (dE W C Wx (.slc ia il ih)) := by
  refine peI (pe_slice (sl_all (W := W)) ha hl hh) fun σ H Q ⟨r, st, env, p, q, g⟩ => ⟨r, st, env, p, q, Good.seq g fun v st1 r1 H1 x e1 p1 q1 g1 => ⟨r1, st1, env, p1, q.ext e1, ?_⟩⟩
  cases h1 : evP (isAbs il) (ev C il env st1) with
  | no => rw [h1] at g1; exact g1
  | exc k st2 => rw [h1] at g1; exact g1
  | ok y st2 =>
    rw [h1] at g1
    have hy : ∃ o, partV y = some o := by
      unfold evP at h1
      cases ha : isAbs il with
      | true =>
        rw [ha] at h1
        cases il with
        | lit w =>
          cases w with
          | non => cases h1; exact ⟨none, rfl⟩
          | _ => cases ha
        | _ => cases ha
      | false =>
        rw [ha] at h1
        have h1 : ((ev C il env st1).bind fun v st => match v with | .int i => .ok (.int i) st | _ => .no) = .ok y st2 := h1
        cases h2 : ev C il env st1 with
        | no => rw [h2] at h1; cases h1
        | exc k st3 => rw [h2] at h1; cases h1
        | ok w st3 =>
          rw [h2] at h1
          cases w with
          | int j => cases h1; exact ⟨some j, rfl⟩
          | _ => cases h1
    obtain ⟨o, ho⟩ := hy
    show match partV y with | some o => _ | none => False
    rw [ho]
    intro r2 H2 e2 p2
    refine ⟨r2, st2, env, p2, (q.ext e1).ext e2, ?_⟩
    have g2 : Good W ((evP (isAbs ih) (ev C ih env st2)).bind fun z st3 => slcV v y z st3) r2 H2 Q _ := Good.ext e2 g1
    cases h3 : evP (isAbs ih) (ev C ih env st2) with
    | no => rw [h3] at g2; exact g2
    | exc k st3 => rw [h3] at g2; exact g2
    | ok z st3 =>
      rw [h3] at g2
      have hz : ∃ o, partV z = some o := by
        unfold evP at h3
        cases ha : isAbs ih with
        | true =>
          rw [ha] at h3
          cases ih with
          | lit w =>
            cases w with
            | non => cases h3; exact ⟨none, rfl⟩
            | _ => cases ha
          | _ => cases ha
        | false =>
          rw [ha] at h3
          have h3 : ((ev C ih env st2).bind fun v st => match v with | .int i => .ok (.int i) st | _ => .no) = .ok z st3 := h3
          cases h2 : ev C ih env st2 with
          | no => rw [h2] at h3; cases h3
          | exc k st4 => rw [h2] at h3; cases h3
          | ok w st4 =>
            rw [h2] at h3
            cases w with
            | int j => cases h3; exact ⟨some j, rfl⟩
            | _ => cases h3
      obtain ⟨o2, ho2⟩ := hz
      show match partV z with | some o => _ | none => False
      rw [ho2]
      intro r3 H3 e3 p3
      exact ⟨r3, st3, v, y, z, _, p3, (q1.ext e2).ext e3, ho, ho2, Good.ext e3 g2⟩
/-! ### dicts -/
theorem e_dnew {t : Bool} {pos : Pos} : PE X (.Dict [] [] pos) (dE W C Wx (.dnew t)) := by
  cases t with
  | false =>
    refine peI pe_dnewK fun σ H Q ⟨r, st, env, p, q, g⟩ => fun a ha => ?_
    refine g _ _ _ (.plus p ha) (p.plus ha ⟨[], upd_same, rfl, rfl⟩) ⟨a, rfl, ?_⟩
    rw [plus_at, if_pos rfl]
  | true =>
    refine peI pe_dnewT fun σ H Q ⟨r, st, env, p, q, g⟩ => fun a ha => ?_
    refine g _ _ _ (.plus p ha) (p.plus ha ⟨[], upd_same, rfl, rfl⟩) ⟨a, rfl, ?_⟩
    rw [plus_at, if_pos rfl]
end
end G

end

section
/-! Short forms for the printed derivations; the draws' mathematics. -/
namespace G
open PySem PySem.Spec PyProof.Rows L2
section
variable {X : Cx} {W : Wd} {C : Calls} {Wx : WX}
theorem xv (i : Nat) {x : Str} {pos : Pos} (hN : X.N[i]? = some x := by rfl) (hv : Vis X.env.scope x := by first | exact Or.inl rfl | exact Or.inr (Or.inl rfl) | exact Or.inr (Or.inr rfl)) (hd : (x == ("__debug__" : Str)) = false := by decide)
    (hcd : (x == ("__classdict__" : Str)) = false := by decide) : PE X (.Name x pos) (dE W C Wx (.var i)) := e_var hN hv hd hcd
theorem xset (i : Nat) {x : Str} {e : Expr} {ie : E} {pos pos' : Pos} (hN : X.N.Nodup) (h : PE X e (dE W C Wx ie)) (hi : X.N[i]? = some x := by rfl) (hx : Loc X.env.scope x := by first | exact Or.inl rfl | exact Or.inr rfl) (hs : swapsWith e (some (.Name x pos')) pos.line X.env = pure false := by rfl)
    (hf : X.fn x = true ∨ X.env.scope.names.lookup x = some .local := by first | exact .inl rfl | exact .inr rfl) : PS X (.Assign [.Name x pos'] e pos) (dS W C Wx (.set i ie)) := s_set hN hi hx h hs hf
theorem xg (i : Nat) {x : Str} {pos : Pos} (hN : X.N.Nodup) (hi : X.N[i]? = some x := by rfl) (hx : Loc X.env.scope x := by first | exact Or.inl rfl | exact Or.inr rfl) (hf : X.fn x = true ∨ X.env.scope.names.lookup x = some .local := by first | exact .inl rfl | exact .inr rfl) : PG X (.Name x pos) (dG (.one i)) := g_one hN hi hx hf
theorem xgs (i : Nat) {is : List Nat} {x : Str} {pos : Pos} {es : List Expr} (hN : X.N.Nodup) (h : PGs X es (gVs is)) (hi : X.N[i]? = some x := by rfl) (hx : Loc X.env.scope x := by first | exact Or.inl rfl | exact Or.inr rfl) (hf : X.fn x = true ∨ X.env.scope.names.lookup x = some .local := by first | exact .inl rfl | exact .inr rfl)
    (hs : (assignEach (.Name x pos :: es) X.env).map (·.2) = assign (.Name x pos) X.env :: (assignEach es X.env).map (·.2) := by rfl) : PGs X (.Name x pos :: es) (gVs (i :: is)) := gs_cons hN hi hx h hf hs
theorem xpar (i j : Nat) {x y : Str} {a b : Expr} {l : E} {pos px py pt : Pos} {kt k2 pt2} (hc : X.calm = true) (hN : X.N.Nodup) (ha : PA X [a, b] (dA W C Wx l)) (hij : i ≠ j := by decide) (hi : X.N[i]? = some x := by rfl) (hj : X.N[j]? = some y := by rfl)
    (hx : X.env.scope.names.lookup x = some .local := by rfl) (hy : X.env.scope.names.lookup y = some .local := by rfl)
    (hw : swappedStores [.Tuple [.Name x px, .Name y py] kt pt] (.Tuple [a, b] k2 pt2) X.env = pure (some [x, y]) := by rfl)
    (hs : swapsWithSole [.Tuple [.Name x px, .Name y py] kt pt] (.Tuple [a, b] k2 pt2) pos.line X.env = pure false := by rfl) :
    PS X (.Assign [.Tuple [.Name x px, .Name y py] kt pt] (.Tuple [a, b] k2 pt2) pos) (dS W C Wx (.par i j l)) := s_par hc hN hi hj hij hx hy ha hw hs
theorem xaug_add (i : Nat) {x : Str} {e : Expr} {ie : E} {pos pos' : Pos} (hN : X.N.Nodup) (h : PE X e (dE W C Wx ie)) (hi : X.N[i]? = some x := by rfl) (hx : Loc X.env.scope x := by first | exact Or.inl rfl | exact Or.inr rfl)
    (hf : X.fn x = true ∨ X.env.scope.names.lookup x = some .local := by first | exact .inl rfl | exact .inr rfl) : PS X (.AugAssign (.Name x pos') .Add e pos) (dS W C Wx (.aug i .add ie)) :=
  s_aug hN hi hx h ip_add (fun _ _ _ => rfl) (fun i b st h => by cases b <;> first | rfl | exact absurd rfl (h _)) hf
theorem hu65 {k : Nat} {A : Around} (hr : Room k A) : A.units + 65 < cLine := by have := hr.un; omega
theorem hu1 {k : Nat} {A : Around} (hr : Room k A) : A.units + 1 < cLine := by have := hr.un; omega
/-- a text of the module's own -/
theorem e_gstr {x : Str} {z : Str} {s : List Nat} {t : Tok} {pos : Pos} (hg : Gl X x) (hm : X.mg x = some (.str z t)) (hz : z = sOf s) (hs : Asc s) (hd : (x == ("__debug__" : Str)) = false := by decide) : PE X (.Name x pos) (dE W C Wx (.lit (.str s))) := by
  subst hz
  exact e_lit (pe_glob hg hm (show RelV (.str (sOf s)) _ from ⟨t, rfl⟩) hd) fun _ _ => ⟨rfl, hs⟩
end
/-! ### the draws -/
def divs (x : Int) : Nat → Int
  | 0 => x
  | n + 1 => divs x n / 1000003
def cellV (ns : List Int) (k : Nat) : Int := if k < ns.length then ns.getD k 0 else if ns.length = 0 then 0 else
  ns.getD (k % ns.length) 0 * 31 + k + divs (ns.getD (k % ns.length) 0) (min (k / ns.length) 60) * 101
def mixV (ns : List Int) (k : Nat) (m : Int) : Int := ((cellV ns k * 1103515245 + 7919 * k + 12345) % 2147483647) ^ 5 % 2147483647 % 999983 % m
theorem mixV_lt (ns : List Int) (k : Nat) {m : Int} (h : 0 < m) : 0 ≤ mixV ns k m ∧ mixV ns k m < m := ⟨Int.emod_nonneg _ (by omega), Int.emod_lt_of_pos _ h⟩
def spCellAt (K : PySem.W.Frag) (W : Wd) : Sp := fun vs H Q _ => ∃ k : Nat, vs = [.ref W.sa, .int k] ∧ k ≤ 100000 ∧ SqL K H W.sa (W.ns.map V.int) ∧ ∀ H', (∀ a o, H a = some o → H' a = some o) → Q (.int (cellV W.ns k)) H'
def spMixed (K : PySem.W.Frag) (W : Wd) : Sp := fun vs H Q _ => ∃ (k : Nat) (m : Int), vs = [.ref W.sa, .int k, .int m] ∧ k ≤ 100000 ∧ 0 < m ∧ SqL K H W.sa (W.ns.map V.int) ∧ ∀ H', (∀ a o, H a = some o → H' a = some o) → Q (.int (mixV W.ns k m)) H'
theorem sql_more {K : PySem.W.Frag} {H H' : Hp} {a : Addr} {xs : List V} (h : SqL K H a xs) (k : ∀ a o, H a = some o → H' a = some o) : SqL K H' a xs := by
  rcases h with (h | ⟨o, h⟩) | h
  · exact .inl (.inl (k _ _ h))
  · exact .inl (.inr ⟨o, k _ _ h⟩)
  · exact .inr h
theorem at_getD {ns : List Int} {j : Nat} (h : j < ns.length) : atI (ns.map V.int) (j : Int) = some (.int (ns.getD j 0)) := by
  refine atI_nat ?_
  rw [List.getElem?_map, List.getElem?_eq_getElem h, List.getD_eq_getElem?_getD, List.getElem?_eq_getElem h]
  rfl
end G

end

section
/-! The draws: what the store's draw asks of the heap. -/
namespace G
open PySem PySem.Spec PyProof.Rows L2
theorem iT {b : Bool} {A B : Prop} (hb : b = true) (h : A) : if b = true then A else B := by rw [if_pos hb]; exact h
theorem iF {b : Bool} {A B : Prop} (hb : b = false) (h : B) : if b = true then A else B := by rw [if_neg (by rw [hb]; exact Bool.false_ne_true)]; exact h
theorem dpAll_ints {K : PySem.W.Frag} {H : Hp} : ∀ ns : List Int, DpAll K H (ns.map V.int) (ns.map PyData.int)
  | [] => .nil
  | n :: ns => .cons (.int n) (dpAll_ints ns)
theorem ints_shaped (ns : List Int) : SeqAt.shaped (.list (ns.map PyData.int)) = true := by
  have go : ∀ ns : List Int, PyData.canLayAll0 (ns.map PyData.int) = true ∧ PyData.depthAll (ns.map PyData.int) ≤ 1 := by
    intro ns
    induction ns with
    | nil => exact ⟨rfl, by decide⟩
    | cons n ns ih => exact ⟨by simp [PyData.canLayAll0, ih.1, PyData.canLay0], by have := ih.2; simp only [List.map_cons, PyData.depthAll, PyData.depth]; omega⟩
  have h := go ns
  unfold SeqAt.shaped
  simp only [PyData.canLay0, PyData.depth, Bool.and_eq_true, decide_eq_true_eq]
  exact ⟨h.1, decide_eq_true (by omega)⟩
section
variable {W : Wd} {r r' : Pl} {H H' : Hp} {st : Sto}
theorem ext_more {H2 : Hp} (x : Ext r H r' H') (k : ∀ a o, H' a = some o → H2 a = some o) : Ext r H r' H2 where
  mono := x.mono
  fresh := x.fresh
  keep := fun a o h p => k _ _ (x.keep a o h p)
  tups := fun a ys h => k _ _ (x.tups a ys h)
  stay := fun a h => x.stay a (by
    cases h1 : H' a with
    | none => rfl
    | some o => rw [k _ _ h1] at h; cases h)
  hup := x.hup
  hdn := x.hdn
  frzs := fun a o u h => k _ _ (x.frzs a o u h)
theorem rep_more (p : Rep W r st H) (k : ∀ a o, H a = some o → H' a = some o) : Rep W r st H' where
  inj := p.inj
  dom := p.dom
  obj := fun n o e => by
    obtain ⟨b, hb, q⟩ := p.obj n o e
    obtain ⟨u, hu⟩ := q.isome
    exact ⟨b, hb, RO.ext (ext_more Ext.refl k) ((k b u hu).trans hu.symm) q⟩
  nh := p.nh
  ht := fun a e => by
    obtain ⟨u, hu⟩ := p.ht a e
    exact ⟨u, k _ _ hu⟩
theorem run_draw {T : List Fd} {dr : Nat → Int → Int} {d i : Nat} {as : List Val} (hT : T[i]? = some .draw) : run T dr (d + 1) i as st = drawV dr as st := by
  show (match T[i]? with | some (.df np ns b) => (match Nat.beq as.length np with | true => fin (ex (run T dr d) b (start np ns as) st) | false => .no) | some .draw => drawV dr as st | some .gap => .no | none => .no) = _
  rw [hT]
theorem drawV_shape {dr : Nat → Int → Int} {as : List Val} (h : drawV dr as st ≠ .no) : ∃ n m xs, as = [.scr, .ref n, .int m] ∧ st[n]? = some (.lst xs) ∧ 0 < m ∧ xs.length ≤ 1000 ∧ drawV dr as st = .ok (.int (dr (xs.length + 1) m)) (st.set n (.lst (xs ++ [.int 0]))) := by
  unfold drawV at h ⊢
  split at h
  · rename_i n m
    split at h
    · rename_i xs e
      split at h
      · rename_i hb
        simp only [Bool.and_eq_true, ilt_eq, Nat.ble_eq, decide_eq_true_eq] at hb
        refine ⟨n, m, xs, rfl, e, hb.1.1, hb.1.2, ?_⟩
        simp only [e]
      · exact absurd rfl h
    · exact absurd rfl h
  · exact absurd rfl h
theorem draw_len {T : List Fd} {dr : Nat → Int → Int} {d i : Nat} {as : List Val} (hT : T[i]? = some .draw) (h : run T dr (d + 1) i as st ≠ .no) : as.length = 3 := by
  rw [run_draw hT] at h
  obtain ⟨n, m, xs, rfl, _⟩ := drawV_shape h
  rfl
theorem df_len {T : List Fd} {dr : Nat → Int → Int} {d i np ns : Nat} {b : S} {as : List Val} (hT : T[i]? = some (.df np ns b)) (h : run T dr (d + 1) i as st ≠ .no) : as.length = np := by
  have e : run T dr (d + 1) i as st = (match Nat.beq as.length np with | true => fin (ex (run T dr d) b (start np ns as) st) | false => .no) := by
    show (match T[i]? with | some (.df np ns b) => (match Nat.beq as.length np with | true => fin (ex (run T dr d) b (start np ns as) st) | false => .no) | some .draw => drawV dr as st | some .gap => .no | none => .no) = _
    rw [hT]
  rw [e] at h
  cases hb : Nat.beq as.length np with
  | true => exact Nat.eq_of_beq_eq_true hb
  | false => rw [hb] at h; exact absurd rfl h
theorem draw_in {T : List Fd} {dr : Nat → Int → Int} {d i : Nat} {as : List Val} {vs : List V} {Q : VK} {E : Nat → Hp → Prop} (p : Rep W r st H) (l : RelL W r H as vs) (g : Good W (run T dr (d + 1) i as st) r H Q E) (hT : T[i]? = some .draw) :
    ∃ (n : Nat) (m : Int) (a : Addr) (xs : List Val) (ys : List V), as = [.scr, .ref n, .int m] ∧ vs = [.ref W.sa, .ref a, .int m] ∧ st[n]? = some (.lst xs) ∧ r n = some a ∧ xs.length ≤ 1000 ∧ 0 < m ∧ H a = some (.lst ys) ∧ RelL W r H xs ys ∧ (∀ u, SqL W.K (upd H a u) W.sa (W.ns.map V.int)) ∧
      ∀ r' H' x, Ext r H r' H' → Rep W r' (st.set n (.lst (xs ++ [.int 0]))) H' → x = .int (dr (xs.length + 1) m) → Q x H' := by
  have h := g.noNo
  rw [run_draw hT] at h g
  obtain ⟨n, m, xs, rfl, e, hm, hx, eq⟩ := drawV_shape h
  rw [eq] at g
  obtain ⟨_, _, rfl, ⟨rfl, hS⟩, _, _, rfl, ⟨a, rfl, hr⟩, _, _, rfl, rfl, rfl⟩ := l
  obtain ⟨b, hb, ys, hy, q⟩ := p.obj n _ e
  rw [hr] at hb
  cases hb
  refine ⟨n, m, a, xs, ys, rfl, rfl, e, hr, hx, hm, hy, q, fun u => ?_, fun r' H' x e p h => g r' H' x e p h⟩
  rcases hS with k | ⟨f, o, hS⟩
  · exact .inr k
  · exact .inl (.inr ⟨o, by rw [upd_ne (fun z => f.1 n (by rw [z]; exact hr))]; exact hS⟩)
end
end G

end

section
/-! The end of a law: from the run of the evaluator to the row. -/
namespace G
open PySem PySem.Spec PyProof.Rows L2
/-- what a law's def promises -/
def spTop (K : PySem.W.Frag) : Sp := fun vs H Q _ => ∃ (a : Addr) (ns : List Int), vs = [.ref a] ∧ Only H ∧ SqL K H a (ns.map V.int) ∧ ∀ H', Q (.bl true) H'
/-- a draw stays below its bound -/
def Fair (dr : Nat → Int → Int) : Prop := ∀ k m, 0 < m → 0 ≤ dr k m ∧ dr k m < m
/-- the law's run ends in True, whatever is drawn -/
def Sure (T : List Fd) (i D : Nat) : Prop := ∀ dr, Fair dr → ∃ st, run T dr D i [.scr] [] = .ok (.bl true) st
theorem fair_mix (ns : List Int) : Fair (mixV ns) := fun k m h => mixV_lt ns k h
theorem top_ok {P : Program} {w : World} {K : PySem.W.Frag} {mg : Str → Option Value} {base : Heap} {k D i : Nat} {f : Addr} {fd : FuncData} {T : List Fd} {fa xa : Nat → Addr} {va : Addr} (hs : Sure T i D)
    (F : ∀ sa ns, FnOk P w K mg base (L2N.CX P w) k f fd ["script"] (spG ⟨K, fa, xa, sa, ns, va, P, w⟩ (run T (mixV ns) D) i 1)) : FnOk P w K mg base (L2N.CX P w) k f fd ["script"] (spTop K) where
  len := fun vs H Q E ⟨a, ns, e, _⟩ => by rw [e]; rfl
  run := fun A outer s H args us vs Q E hr e0 hb hv ⟨a, ns, e, hO, hS, q⟩ => by
    refine (F a ns).run A outer s H args us vs Q E hr e0 hb hv ?_
    subst e
    obtain ⟨st, h⟩ := hs (mixV ns) (fair_mix ns)
    refine ⟨rfl, ⟨fun _ => none, fun _ => False⟩, [], [.scr], ⟨fun _ _ _ e _ => (nomatch e), fun _ _ e => (nomatch e), fun n o e => by simp at e, fun _ _ e => (nomatch e), fun _ e => e.elim⟩, ⟨_, [], rfl, ⟨rfl, ?_⟩, rfl⟩, ?_⟩
    · rcases hS with (h | ⟨o, h⟩) | h
      · rcases hO a with z | ⟨o, xs, z⟩ <;> rw [h] at z <;> cases z
      · exact .inr ⟨⟨fun n e => (nomatch e), fun e => e.elim⟩, o, h⟩
      · exact .inl h
    · rw [h]
      exact fun r' H' x _ _ e => by
        cases (show x = .bl true from e)
        exact q H'
theorem no_cx {P : Program} {w : World} (H : Hp) (s : Shared) (e : Value) (s' : Shared) (h : L2N.CX P w [] H s (fun _ _ _ => False) e s') : False := by
  obtain ⟨_, _, _, _, _, _, _, _, _, _, _, _, z⟩ := h
  exact z
end G

end

section
/-! Plain facts of the evaluator. -/
namespace G
section
variable {dr : Nat → Int → Int} {d : Nat} {st : Sto}
theorem run_df {T : List Fd} {i np ns : Nat} {b : S} {as : List Val} (hT : T[i]? = some (.df np ns b)) (hl : as.length = np) : run T dr (d + 1) i as st = fin (ex (run T dr d) b (start np ns as) st) := by
  show (match T[i]? with | some (.df np ns b) => (match Nat.beq as.length np with | true => fin (ex (run T dr d) b (start np ns as) st) | false => .no) | some .draw => drawV dr as st | some .gap => .no | none => .no) = _
  rw [hT]
  show (match Nat.beq as.length np with | true => fin (ex (run T dr d) b (start np ns as) st) | false => .no) = _
  rw [hl, Nat.beq_refl]
/-- a comprehension over data, its test and its item by values -/
theorem lc_at {tg : Tg} {cond elt : Env → Sto → Rs} {env : Env} (p : Val → Bool) (f : Val → Val) : ∀ (xs pre acc : List Val), xs.length + acc.length ≤ lineN →
    (∀ v ∈ xs, ∃ e, asg tg v env = some e ∧ cond e st = .ok (.bl (p v)) st ∧ (p v = true → elt e st = .ok (f v) st)) →
    lcI tg (.fz (pre ++ xs)) cond elt env (xs.length + 1) pre.length st acc = .ok (.tl (acc ++ (xs.filter p).map f)) st
  | [], pre, acc, _, _ => by simp [lcI, Src.get]
  | x :: xs, pre, acc, hl, h => by
    obtain ⟨e, h1, h2, h3⟩ := h x (.head _)
    have ih := fun acc' hl' => lc_at p f xs (pre ++ [x]) acc' hl' fun v hv => h v (.tail _ hv)
    have e1 : pre ++ [x] ++ xs = pre ++ x :: xs := by simp
    have e2 : (pre ++ [x]).length = pre.length + 1 := by simp
    rw [e1, e2] at ih
    have e3 : (pre ++ x :: xs)[pre.length]? = some x := by simp
    simp only [List.length_cons] at hl
    cases hp : p x with
    | true =>
      have hb : Nat.ble acc.length lineN = true := by rw [Nat.ble_eq]; omega
      rw [List.length_cons, lcI]
      simp only [Src.get, e3, h1, h2, hp, h3 hp, hb]
      rw [ih (acc ++ [f x]) (by simp; omega)]
      simp [hp]
    | false =>
      rw [List.length_cons, lcI]
      simp only [Src.get, e3, h1, h2, hp]
      rw [ih acc (by omega)]
      simp [hp]
theorem lc_filter {tg : Tg} {cond elt : Env → Sto → Rs} {env : Env} (p : Val → Bool) (f : Val → Val) (xs : List Val) (hl : xs.length ≤ lineN)
    (h : ∀ v ∈ xs, ∃ e, asg tg v env = some e ∧ cond e st = .ok (.bl (p v)) st ∧ (p v = true → elt e st = .ok (f v) st)) :
    lcI tg (.fz xs) cond elt env (xs.length + 1) 0 st [] = .ok (.tl ((xs.filter p).map f)) st := lc_at p f xs [] [] (by simpa using hl) h
theorem lc_run {tg : Tg} {cond elt : Env → Sto → Rs} {env : Env} {n : Nat} (p : Val → Bool) (f : Val → Val) (xs : List Val) (hn : n = xs.length) (hl : xs.length ≤ lineN)
    (h : ∀ v ∈ xs, ∃ e, asg tg v env = some e ∧ cond e st = .ok (.bl (p v)) st ∧ (p v = true → elt e st = .ok (f v) st)) :
    lcI tg (.fz xs) cond elt env (n + 1) 0 st [] = .ok (.tl ((xs.filter p).map f)) st := by
  subst hn
  exact lc_filter p f xs hl h
abbrev iL (l : List Int) : List Val := l.map Val.int
theorem mapO_ints (n : Nat) : ∀ l : List Int, mapO (frz n st) (iL l) = some (iL l)
  | [] => rfl
  | x :: l => by
    have ih := mapO_ints n l
    have e : frz n st (.int x) = some (.int x) := by cases n <;> rfl
    show (match frz n st (.int x) with | some y => (match mapO (frz n st) (iL l) with | some s => some (y :: s) | none => none) | none => none) = _
    rw [e, ih]
    rfl
theorem inL_ints (a : Int) : ∀ l : List Int, inL (.int a) (iL l) = decide (a ∈ l)
  | [] => by simp [inL]
  | x :: l => by
    have ih := inL_ints a l
    show (match eqv (.int x) (.int a) with | true => true | false => inL (.int a) (iL l)) = _
    have e : eqv (.int x) (.int a) = decide (x = a) := by simp [eqv, ieq_eq]
    rw [e, ih]
    by_cases h : x = a
    · subst h; simp
    · have h' : ¬ a = x := fun z => h z.symm
      simp [h, h']
theorem eqvL_ints : ∀ l m : List Int, eqvL (iL l) (iL m) = decide (l = m)
  | [], [] => by simp [eqvL]
  | [], y :: m => by simp [eqvL]
  | x :: l, [] => by simp [eqvL]
  | x :: l, y :: m => by
    have ih := eqvL_ints l m
    show (match eqv (.int x) (.int y) with | true => eqvL (iL l) (iL m) | false => false) = _
    have e : eqv (.int x) (.int y) = decide (x = y) := by simp [eqv, ieq_eq]
    rw [e, ih]
    by_cases h : x = y
    · subst h; simp
    · simp [h]
theorem inV_ints (a : Int) (l : List Int) : inV (.int a) (.tl (iL l)) st = some (decide (a ∈ l)) := by
  show inLst (.int a) (iL l) st = _
  have e : frz 5 st (.int a) = some (.int a) := rfl
  simp only [inLst, e, mapO_ints, inL_ints]
theorem frz_ints (n : Nat) (l : List Int) : frz (n + 1) st (.tl (iL l)) = some (.tl (iL l)) := by
  show (match mapO (frz n st) (iL l) with | some ys => some (Val.tl ys) | none => none) = _
  rw [mapO_ints]
theorem eqS_ints (l m : List Int) : eqS st (.tl (iL l)) (.tl (iL m)) = some (decide (l = m)) := by
  simp only [eqS, frz_ints, eqv, eqvL_ints]
theorem eqS_int (a b : Int) : eqS st (.int a) (.int b) = some (decide (a = b)) := by
  simp [eqS, frz, eqv, ieq_eq]
theorem rep_ints (l : List Int) : ∀ n, rep (iL l) n = iL ((List.replicate n l).flatten)
  | 0 => rfl
  | n + 1 => by simp [rep, rep_ints l n, List.replicate_succ]
theorem rep_one (v : Int) : ∀ n, rep [.int v] n = iL (List.replicate n v)
  | 0 => rfl
  | n + 1 => by
    rw [rep, rep_one v n]
    simp [List.replicate_succ]
def span (lo : Int) : Nat → List Int
  | 0 => []
  | n + 1 => lo :: span (lo + 1) n
theorem upto_span : ∀ (n : Nat) (lo : Int), upto lo n = iL (span lo n)
  | 0, lo => rfl
  | n + 1, lo => by
    show Val.int lo :: upto (lo + 1) n = _
    rw [upto_span n (lo + 1)]
    rfl
theorem span_mem : ∀ (n : Nat) (lo x : Int), x ∈ span lo n ↔ lo ≤ x ∧ x < lo + n
  | 0, lo, x => by simp [span]
  | n + 1, lo, x => by simp only [span, List.mem_cons, span_mem n (lo + 1) x]; omega
theorem span_len : ∀ (n : Nat) (lo : Int), (span lo n).length = n
  | 0, _ => rfl
  | n + 1, lo => by simp [span, span_len n]
theorem filter_ints (p : Int → Bool) (q : Val → Bool) (h : ∀ i, q (.int i) = p i) : ∀ l : List Int, (iL l).filter q = iL (l.filter p)
  | [] => rfl
  | x :: l => by
    have ih := filter_ints p q h l
    simp only [iL, List.map_cons, List.filter_cons, h] at ih ⊢
    cases p x <;> simp [ih]
theorem inLst_ints (a : Int) (l : List Int) : inLst (.int a) (iL l) st = some (decide (a ∈ l)) := inV_ints a l
section
variable {C : Calls} {env : Env} {b : S}
theorem ite_skip {c : E} {a : S} (h : ev C c env st = .ok (.bl false) st) : ex C (.seq (.ite c a .skip) b) env st = ex C b env st := by
  simp only [ex, h, Rs.run]
theorem set_nx {i : Nat} {e : E} (v : Val) {st1 : Sto} (h : ev C e env st = .ok v st1) : ex C (.seq (.set i e) b) env st = ex C b (env.set i (some v)) st1 := by
  simp only [ex, h, Rs.run]
theorem seq_nx {a : S} (e : Env) (st1 : Sto) (h : ex C a env st = .nx e st1) : ex C (.seq a b) env st = ex C b e st1 := by
  simp only [ex, h]
theorem ret_ok {e : E} {v : Val} {st1 : Sto} (h : ev C e env st = .ok v st1) : ex C (.ret e) env st = .ret v st1 := by
  simp only [ex, h, Rs.run]
end
theorem frz_int (n : Nat) (i : Int) : frz n st (.int i) = some (.int i) := by cases n <;> rfl
theorem frz_bl (n : Nat) (b : Bool) : frz n st (.bl b) = some (.bl b) := by cases n <;> rfl
theorem frz_non (n : Nat) : frz n st .non = some .non := by cases n <;> rfl
theorem pureV_int (i : Int) : pureV (.int i) = true := rfl
theorem pureV_iL (l : List Int) : pureV (.tl (iL l)) = true := by
  show (frz 6 [] (.tl (iL l))).isSome = true
  rw [frz_ints]
  rfl
theorem frzD_int (i : Int) : frzD st (.int i) = some (.int i) := rfl
theorem frzD_bl (b : Bool) : frzD st (.bl b) = some (.bl b) := rfl
theorem frzD_non : frzD st .non = some .non := rfl
theorem frzD_iL (l : List Int) : frzD st (.tl (iL l)) = some (.tl (iL l)) := frz_ints 5 l
/-- the town after n draws -/
def tw (n : Nat) : Sto := [.lst (List.replicate n (.int 0))]
theorem r_drw {T : List Fd} {i : Nat} (hT : T[i]? = some .draw) {n : Nat} {m : Int} (hm : 0 < m) (hm2 : m < 1000) (hn : n ≤ 1000) : run T dr (d + 1) i [.scr, .ref 0, .int m] (tw n) = .ok (.int (dr (n + 1) m)) (tw (n + 1)) := by
  rw [run_draw hT]
  have hb : (ilt 0 m && Nat.ble n 1000 && ilt m 1000) = true := by simp only [Bool.and_eq_true, ilt_eq, Nat.ble_eq, decide_eq_true_eq]; exact ⟨⟨hm, hn⟩, hm2⟩
  have h0 : (tw n)[0]? = some (.lst (List.replicate n (.int 0))) := rfl
  simp only [drawV, h0, List.length_replicate, hb]
  simp [tw, List.replicate_succ']
theorem callV_scr {C : Calls} {f : Nat} {r : List Val} : callV C f (.scr :: r) st = C f (.scr :: r) st := rfl
end
end G

end

section
/-! More rules: dict displays. -/
namespace G
open PySem PySem.Spec PyProof.Rows L2
section
variable {X : Cx} {W : Wd} {C : Calls} {Wx : WX}
/-- a dict that an expression makes is frozen -/
theorem pe_fz {e : Expr} {t : TE} (h : PE X e t) : PE X e (fun σ H Q => t σ H (orFz Q)) := ⟨fun pins s σ H Q I q => thn (h.run pins s σ H _ I q) fun _ _ z => unFz z⟩
theorem e_dlit2 {x y : Str} {s t : List Nat} {i j : Int} {n1 n2 n3 n4 p1 p2 p3 p4 pos} (hx : x = sOf s) (hs : Asc s) (hy : y = sOf t) (ht : Asc t) (hn : x ≠ y) :
    PE X (.Dict [some (.Constant (.str x) n1 p1), some (.Constant (.str y) n2 p2)] [.Constant (.int i) n3 p3, .Constant (.int j) n4 p4] pos) (dE W C Wx (.dlit (.cons (.lit (.str s)) (.cons (.lit (.str t)) .nil)) (.cons (.lit (.int i)) (.cons (.lit (.int j)) .nil)))) := by
  refine peI (pe_fz (pe_disp (pps_cons pe_str pe_int (pps_cons pe_str pe_int pps_nil)) rfl rfl (fun z => nomatch z) (Nat.le_of_ble_eq_true rfl))) fun σ H Q ⟨r, st, env, p, q, g⟩ => fun a ha => ?_
  have e : mergeK [] [((.inr x : Key), V.int i), (.inr y, .int j)] = [(.inr x, .int i), (.inr y, .int j)] := by
    have hn' : ¬ (Sum.inr x : Key) = Sum.inr y := fun z => hn (Sum.inr.inj z)
    simp [mergeK, putK, hn']
  refine ⟨upd_same, [(.inr x, .int i), (.inr y, .int j)], rfl, Nat.le_of_ble_eq_true rfl, ?_⟩
  have eu : upd (upd H a (.dK [])) a (.dK (mergeK [] [((.inr x : Key), V.int i), (.inr y, .int j)])) = upd H a (.dK [(.inr x, .int i), (.inr y, .int j)]) := by
    rw [e]
    funext b
    by_cases hb : b = a
    · subst hb; rw [upd_same, upd_same]
    · rw [upd_ne hb, upd_ne hb, upd_ne hb]
  rw [eu]
  have g : Good W (.ok (.td false [.str s, .str t] [.int i, .int j]) st) r H Q _ := g
  refine .inr ⟨a, _, rfl, upd_same, .inl ⟨_, rfl⟩, fun od => ?_⟩
  rw [upd_upd]
  refine g r _ _ (.new ha) (p.new ha) ⟨a, rfl, p.nfree ha, [(.inr x, .int i), (.inr y, .int j)], ⟨od, upd_same⟩, ?_, ?_⟩
  · subst hx hy
    exact ⟨_, _, rfl, rfl, _, _, rfl, rfl, rfl⟩
  · exact ⟨_, _, rfl, rfl, _, _, rfl, rfl, rfl⟩
end
end G

end

section
/-! Methods of lists; three names at once; max, min, sum. -/
namespace G
open PySem PySem.Spec PyProof.Rows L2
section
variable {X : Cx} {W : Wd} {C : Calls} {Wx : WX}
def rMt (W : Wd) (m : Mt) : V → List V → Hp → VK → Prop := fun x xs H Q => ∃ r st y as E, Rep W r st H ∧ Rel W r H y x ∧ RelL W r H as xs ∧ Good W (methV m y as st) r H Q E
/-- a method call with values -/
theorem mtA {m : Mt} {T : String} {io l : E} {σ : St} {H : Hp} {Q : VK} {r : Pl} {st : Sto} {env : Env} (p : Rep W r st H) (q : RelE W r H env σ)
    (ht : ∀ (y : Val) (st1 : Sto) (r1 : Pl) (H1 : Hp) (x : V), mkd m y st1 = true → Rep W r1 st1 H1 → Rel W r1 H1 y x → tyV X.K T x H1)
    (g : Good W (ev C (.meth m io l) env st) r H Q fun k H' => EX W Wx k σ H') :
    dE W C Wx io σ H fun x H1 => tyV X.K T x H1 ∧ dA W C Wx l σ H1 fun xs H2 => rMt W m x xs H2 Q := by
  have g : Good W ((ev C io env st).bind fun y st1 => match mkd m y st1 with | true => (ev C l env st1).bind fun x st2 => (match x with | .tup as => methV m y as st2 | _ => .no) | false => .no) r H Q fun k H' => EX W Wx k σ H' := g
  refine ⟨r, st, env, p, q, Good.seq g fun y st1 r1 H1 x e1 p1 q1 g1 => ?_⟩
  cases hk : mkd m y st1 with
  | false => rw [hk] at g1; exact g1.elim
  | true =>
    rw [hk] at g1
    refine ⟨ht y st1 r1 H1 x hk p1 q1, r1, st1, env, p1, q.ext e1, ?_⟩
    have g1 : Good W ((ev C l env st1).bind fun x st2 => match x with | .tup as => methV m y as st2 | _ => .no) r1 H1 Q fun k H' => EX W Wx k σ H' := g1
    cases h2 : ev C l env st1 with
    | no => rw [h2] at g1; exact g1
    | exc k st2 => rw [h2] at g1; exact g1
    | ok v st2 =>
      rw [h2] at g1
      cases v with
      | tup as => exact fun r2 H2 xs e2 p2 q2 => ⟨r2, st2, y, as, _, p2, q1.ext e2, q2, Good.ext e2 g1⟩
      | _ => exact (show False from g1).elim
theorem ty_list {m : Mt} (hm : m = .append ∨ m = .extend ∨ m = .pop ∨ m = .index) (y : Val) (st1 : Sto) (r1 : Pl) (H1 : Hp) (x : V) (h : mkd m y st1 = true) (p : Rep W r1 st1 H1) (q : Rel W r1 H1 y x) : tyV X.K "list" x H1 := by
  cases y with
  | ref n =>
    obtain ⟨a, rfl, hr⟩ := q
    obtain ⟨o, ho, q⟩ := p.at_ hr
    simp only [mkd, ho] at h
    cases o with
    | lst xs =>
      obtain ⟨ys, hl, _⟩ := q
      exact .inl ⟨rfl, _, SqL.of hl⟩
    | _ => cases h
  | tl xs =>
    obtain ⟨a, ys, rfl, _, hl, _⟩ := q
    exact .inl ⟨rfl, _, SqL.of hl⟩
  | str s => rcases hm with rfl | rfl | rfl | rfl <;> cases h
  | _ => cases h
theorem m_append : MtR X "list.append" (rMt W .append) := by
  intro pins s σ H x xs v us Q I rx rxs ⟨r, st, y, as, E, p, q, ql, g⟩
  cases y with
  | ref n =>
    obtain ⟨a, rfl, hr⟩ := q
    obtain ⟨o, ho, qo⟩ := p.at_ hr
    simp only [methV, ho] at g
    cases o with
    | lst zs =>
      obtain ⟨ys, hl, qz⟩ := qo
      match as, ql, g with
      | [b], ql, g =>
        obtain ⟨z, rfl, rz⟩ := one_arg ql
        have g : Good W (match Nat.ble zs.length lineN with | true => .ok .non (st.set n (.lst (zs ++ [b]))) | false => .no) r H Q E := g
        cases hb : Nat.ble zs.length lineN with
        | false => rw [hb] at g; exact g.elim
        | true =>
          rw [hb] at g
          have hz : zs.length ≤ 100000 := Nat.le_of_ble_eq_true hb
          refine mt_append pins s σ H _ _ v us Q I rx rxs ⟨a, ys, z, rfl, rfl, hl, ?_, ?_⟩
          · rw [← qz.len, sizeLine_eq]; omega
          · exact g r _ _ (.put p hr) (p.put hr ⟨_, upd_same, (qz.app (.one rz)).ext (.put p hr)⟩) rfl
      | [], _, g => exact (show False from g).elim
      | _ :: _ :: _, _, g => exact (show False from g).elim
    | _ => exact (show False from g).elim
  | tl zs => exact (show False from g).elim
  | str s => exact (show False from g).elim
  | _ => exact (show False from g).elim
theorem e_append {o e : Expr} {io ie : E} {apos cpos : Pos} (ho : PE X o (dE W C Wx io)) (he : PE X e (dE W C Wx ie)) (hs : starEach [e] X.env = (false, eval e X.env) :: starEach [] X.env := by rfl)
    (hbase : attributeBase o "append" X.env (eval o X.env) = eval o X.env := by rfl)
    (hfew : ((backTo cpos (starEach [e] X.env)).all (fun x => !x.1) && (backToKw cpos (keywordEach [] X.env)).all (fun x => x.1.isSome) && decide (([e] : List Expr).length + ([] : List Keyword).length + (if ([] : List Keyword).isEmpty then 0 else 1) < 30)) = true := by rfl)
    (hline : (apos.endLine == cpos.line) = true := by rfl) (hplain : (backTo cpos (starEach [] X.env)).any (·.1) = false := by rfl) :
    PE X (.Call (.Attribute o "append" apos) [e] [] cpos) (dE W C Wx (.meth .append io (.cons ie .nil))) :=
  peI (pe_bm PySem.F.plainAttrs_list PySem.F.slot_list_append PySem.F.type_list_append m_append ho (a_cons he a_nil hs) hbase hfew hline hs hplain) fun σ H Q ⟨r, st, env, p, q, g⟩ => mtA p q (ty_list (.inl rfl)) g
theorem m_extend : MtR X "list.extend" (rMt W .extend) := by
  intro pins s σ H x xs v us Q I rx rxs ⟨r, st, y, as, E, p, q, ql, g⟩
  cases y with
  | ref n =>
    obtain ⟨a, rfl, hr⟩ := q
    obtain ⟨o, ho, qo⟩ := p.at_ hr
    simp only [methV, ho] at g
    cases o with
    | lst zs =>
      obtain ⟨ys, hl, qz⟩ := qo
      match as, ql, g with
      | [b], ql, g =>
        obtain ⟨z, rfl, rz⟩ := one_arg ql
        cases b with
        | tl ws =>
          obtain ⟨c, vs, rfl, fc, hc, qw⟩ := rz
          have g : Good W (match Nat.ble (zs.length + ws.length) lineN with | true => .ok .non (st.set n (.lst (zs ++ ws))) | false => .no) r H Q E := g
          cases hb : Nat.ble (zs.length + ws.length) lineN with
          | false => rw [hb] at g; exact g.elim
          | true =>
            rw [hb] at g
            have hz : zs.length + ws.length ≤ 100000 := Nat.le_of_ble_eq_true hb
            refine mt_extend pins s σ H _ _ v us Q I rx rxs ⟨a, c, ys, vs, rfl, rfl, hl, hc, ?_, ?_⟩
            · rw [← qz.len, ← qw.len, sizeLine_eq]; omega
            · exact g r _ _ (.put p hr) (p.put hr ⟨_, upd_same, (qz.app qw).ext (.put p hr)⟩) rfl
        | ref m =>
          exfalso
          have g : Good W (match items st (.ref m) with | some ys => (match Nat.ble (zs.length + ys.length) lineN with | true => .no | false => .no) | none => .no) r H Q E := g
          cases h1 : items st (.ref m) with
          | none => rw [h1] at g; exact g
          | some ys' =>
            rw [h1] at g
            have g : Good W (match Nat.ble (zs.length + ys'.length) lineN with | true => .no | false => .no) r H Q E := g
            cases hb : Nat.ble (zs.length + ys'.length) lineN <;> rw [hb] at g <;> exact g
        | _ => exact (show False from g).elim
      | [], _, g => exact (show False from g).elim
      | _ :: _ :: _, _, g => exact (show False from g).elim
    | _ => exact (show False from g).elim
  | tl zs => exact (show False from g).elim
  | str s => exact (show False from g).elim
  | _ => exact (show False from g).elim
theorem e_extend {o e : Expr} {io ie : E} {apos cpos : Pos} (ho : PE X o (dE W C Wx io)) (he : PE X e (dE W C Wx ie)) (hs : starEach [e] X.env = (false, eval e X.env) :: starEach [] X.env := by rfl)
    (hbase : attributeBase o "extend" X.env (eval o X.env) = eval o X.env := by rfl)
    (hfew : ((backTo cpos (starEach [e] X.env)).all (fun x => !x.1) && (backToKw cpos (keywordEach [] X.env)).all (fun x => x.1.isSome) && decide (([e] : List Expr).length + ([] : List Keyword).length + (if ([] : List Keyword).isEmpty then 0 else 1) < 30)) = true := by rfl)
    (hline : (apos.endLine == cpos.line) = true := by rfl) (hplain : (backTo cpos (starEach [] X.env)).any (·.1) = false := by rfl) :
    PE X (.Call (.Attribute o "extend" apos) [e] [] cpos) (dE W C Wx (.meth .extend io (.cons ie .nil))) :=
  peI (pe_bm PySem.F.plainAttrs_list PySem.F.slot_list_extend PySem.F.type_list_extend m_extend ho (a_cons he a_nil hs) hbase hfew hline hs hplain) fun σ H Q ⟨r, st, env, p, q, g⟩ => mtA p q (ty_list (.inr (.inl rfl))) g
theorem RelL.dropLast {r : Pl} {H : Hp} {vs : List Val} {ys : List V} (h : RelL W r H vs ys) : RelL W r H vs.dropLast ys.dropLast := by
  rw [List.dropLast_eq_take, List.dropLast_eq_take, ← h.len]
  exact h.take _
theorem m_pop : MtR X "list.pop" (rMt W .pop) := by
  intro pins s σ H x xs v us Q I rx rxs ⟨r, st, y, as, E, p, q, ql, g⟩
  cases y with
  | ref n =>
    obtain ⟨a, rfl, hr⟩ := q
    obtain ⟨o, ho, qo⟩ := p.at_ hr
    simp only [methV, ho] at g
    cases o with
    | lst zs =>
      obtain ⟨ys, hl, qz⟩ := qo
      match as, ql, g with
      | [], ql, g =>
        cases (show xs = [] from ql)
        have g : Good W (match zs[zs.length - 1]? with | some v => .ok v (st.set n (.lst zs.dropLast)) | none => .no) r H Q E := g
        cases hb : zs[zs.length - 1]? with
        | none => rw [hb] at g; exact g.elim
        | some w =>
          rw [hb] at g
          obtain ⟨yy, h1, h2⟩ := qz.get hb
          rw [qz.len] at h1
          refine mt_pop pins s σ H _ _ v us Q I rx rxs ⟨a, ys, yy, rfl, rfl, hl, h1, ?_⟩
          exact g r _ _ (.put p hr) (p.put hr ⟨_, upd_same, qz.dropLast.ext (.put p hr)⟩) (h2.ext (.put p hr))
      | _ :: _, _, g => exact (show False from g).elim
    | _ => exact (show False from g).elim
  | tl zs => exact (show False from g).elim
  | str s => exact (show False from g).elim
  | _ => exact (show False from g).elim
theorem e_pop {o : Expr} {io : E} {apos cpos : Pos} (ho : PE X o (dE W C Wx io)) (hbase : attributeBase o "pop" X.env (eval o X.env) = eval o X.env := by rfl) (hline : (apos.endLine == cpos.line) = true := by rfl) :
    PE X (.Call (.Attribute o "pop" apos) [] [] cpos) (dE W C Wx (.meth .pop io .nil)) := by
  refine peI (pe_bm0 PySem.F.plainAttrs_list PySem.F.slot_list_pop PySem.F.type_list_pop (m_pop (W := W)) ho hbase hline) fun σ H Q ⟨r, st, env, p, q, g⟩ => ?_
  have g : Good W ((ev C io env st).bind fun y st1 => match mkd .pop y st1 with | true => methV .pop y [] st1 | false => .no) r H Q fun k H' => EX W Wx k σ H' := g
  refine ⟨r, st, env, p, q, Good.seq g fun y st1 r1 H1 x e1 p1 q1 g1 => ?_⟩
  cases hk : mkd .pop y st1 with
  | false => rw [hk] at g1; exact g1.elim
  | true =>
    rw [hk] at g1
    exact ⟨ty_list (.inr (.inr (.inl rfl))) y st1 r1 H1 x hk p1 q1, r1, st1, y, [], _, p1, q1, rfl, g1⟩
theorem xpar3 (i j k : Nat) {x y z : Str} {a b c : Expr} {l : E} {pos px py pz pt : Pos} {kt k2 pt2} (hc : X.calm = true) (hN : X.N.Nodup) (ha : PA X [a, b, c] (dA W C Wx l)) (hij : i ≠ j := by decide) (hik : i ≠ k := by decide) (hjk : j ≠ k := by decide) (hi : X.N[i]? = some x := by rfl) (hj : X.N[j]? = some y := by rfl) (hk : X.N[k]? = some z := by rfl)
    (hx : X.env.scope.names.lookup x = some .local := by rfl) (hy : X.env.scope.names.lookup y = some .local := by rfl) (hz : X.env.scope.names.lookup z = some .local := by rfl)
    (hw : swappedStores [.Tuple [.Name x px, .Name y py, .Name z pz] kt pt] (.Tuple [a, b, c] k2 pt2) X.env = pure (some [x, y, z]) := by rfl)
    (hs : swapsWithSole [.Tuple [.Name x px, .Name y py, .Name z pz] kt pt] (.Tuple [a, b, c] k2 pt2) pos.line X.env = pure false := by rfl) :
    PS X (.Assign [.Tuple [.Name x px, .Name y py, .Name z pz] kt pt] (.Tuple [a, b, c] k2 pt2) pos) (dS W C Wx (.par3 i j k l)) := by
  refine psI (ps_par3 hc hN hi hj hk hij hik hjk hx hy hz ha hw hs) fun D σ H ⟨r, st, env, p, q, g⟩ => ⟨r, st, env, p, q, ?_⟩
  have g : GoodS W ((ev C l env st).run fun v st1 => match v with | .tup [x, y, z] => .nx (((env.set i (some x)).set j (some y)).set k (some z)) st1 | _ => .no) r H σ.length D (EX W Wx) := g
  cases h : ev C l env st with
  | no => rw [h] at g; exact g
  | exc k st1 => rw [h] at g; exact fun r1 H1 e1 p1 => g r1 H1 σ e1 p1 rfl
  | ok v st1 =>
    rw [h] at g
    cases v with
    | tup vs =>
      intro r1 H1 xs e1 p1 q1
      match vs, g, q1 with
      | [a, b, c], g, ⟨y1, s1, ex, h1, y2, s2, ex2, h2, y3, s3, ex3, h3, hn⟩ =>
        subst ex ex2 ex3
        cases (show s3 = [] from hn)
        exact ⟨y1, y2, y3, rfl, g r1 H1 _ e1 p1 ((((q.ext e1).set i h1).set j h2).set k h3) (by simp)⟩
      | [], g, _ => exact (show False from g).elim
      | [_], g, _ => exact (show False from g).elim
      | [_, _], g, _ => exact (show False from g).elim
      | _ :: _ :: _ :: _ :: _, g, _ => exact (show False from g).elim
    | _ => exact (show False from g).elim
end
end G

end

section
/-! Dicts that are written. -/
namespace G
open PySem PySem.Spec PyProof.Rows L2
section
variable {X : Cx} {W : Wd} {C : Calls} {Wx : WX} {r : Pl} {H : Hp}
theorem hasK_any {k : Val} {kk : Key} (hk : toK k = some kk) : ∀ {ks : List Val} {kvs : List (Key × V)}, RelK ks (kvs.map (·.1)) → hasK k ks = kvs.any fun kv => decide (kv.1 = kk)
  | [], kvs, h => by
    have e : kvs = [] := List.map_eq_nil_iff.mp h
    subst e
    rfl
  | x :: ks, [], h => by obtain ⟨_, _, e, _⟩ := h; cases e
  | x :: ks, p :: kvs, ⟨k', s, e, hx, h⟩ => by
    cases e
    show (match keyEq x k with | true => true | false => hasK k ks) = _
    rw [show keyEq x k = eqv x k from rfl, toK_eqv hx hk, List.any_cons, hasK_any hk h]
    cases decide (p.1 = kk) <;> rfl
theorem repl_map {k w : Val} {kk : Key} {y : V} (hk : toK k = some kk) (hw : Rel W r H w y) : ∀ {ks vs : List Val} {kvs : List (Key × V)}, RelK ks (kvs.map (·.1)) → RelL W r H vs (kvs.map (·.2)) →
    RelL W r H (repl k w ks vs) ((kvs.map fun kv => if kv.1 = kk then (kv.1, y) else kv).map (·.2))
  | [], vs, kvs, h, q => by
    have e : kvs = [] := List.map_eq_nil_iff.mp h
    subst e
    cases (show vs = [] by
      cases vs with
      | nil => rfl
      | cons a b => obtain ⟨_, _, e, _⟩ := q; cases e)
    exact rfl
  | x :: ks, vs, [], h, q => by obtain ⟨_, _, e, _⟩ := h; cases e
  | x :: ks, [], p :: kvs, h, q => by cases (show _ = [] from q)
  | x :: ks, v :: vs, p :: kvs, ⟨k', s, e, hx, h⟩, ⟨z, s', e', hz, q⟩ => by
    cases e
    cases e'
    show RelL W r H (match keyEq x k with | true => w :: repl k w ks vs | false => v :: repl k w ks vs) _
    rw [show keyEq x k = eqv x k from rfl, toK_eqv hx hk, List.map_cons, List.map_cons]
    by_cases c : p.1 = kk
    · rw [decide_eq_true c, if_pos c]
      exact ⟨_, _, rfl, hw, repl_map hk hw h q⟩
    · rw [decide_eq_false c, if_neg c]
      exact ⟨_, _, rfl, hz, repl_map hk hw h q⟩
theorem RelK.snoc {k : Val} {kk : Key} (hk : toK k = some kk) : ∀ {ks : List Val} {l : List Key}, RelK ks l → RelK (ks ++ [k]) (l ++ [kk])
  | [], l, h => by cases (show l = [] from h); exact ⟨kk, [], rfl, hk, rfl⟩
  | x :: ks, l, ⟨k', s, e, hx, h⟩ => by
    subst e
    exact ⟨k', s ++ [kk], rfl, hx, RelK.snoc hk h⟩
theorem dput_K {k w : Val} {kk : Key} {y : V} (hk : toK k = some kk) (hw : Rel W r H w y) {ks vs : List Val} {kvs : List (Key × V)} (h : RelK ks (kvs.map (·.1))) (q : RelL W r H vs (kvs.map (·.2))) :
    RelK (dput k w ks vs).1 ((putK kvs kk y).map (·.1)) ∧ RelL W r H (dput k w ks vs).2 ((putK kvs kk y).map (·.2)) := by
  have e := hasK_any hk h
  unfold dput putK
  cases hc : hasK k ks with
  | true =>
    rw [hc] at e
    rw [if_pos e.symm]
    refine ⟨?_, repl_map hk hw h q⟩
    have em : (kvs.map fun kv => if kv.1 = kk then (kv.1, y) else kv).map (·.1) = kvs.map (·.1) := by
      rw [List.map_map]
      apply List.map_congr_left
      intro a _
      show (if a.1 = kk then (a.1, y) else a).1 = a.1
      split <;> rfl
    rw [em]
    exact h
  | false =>
    rw [hc] at e
    rw [if_neg (by rw [← e]; exact Bool.false_ne_true)]
    rw [List.map_append, List.map_append]
    exact ⟨RelK.snoc hk h, q.app (.one hw)⟩
theorem hasT_any {k : List Val} {kk : List Key} (hk : toKs k = some kk) : ∀ {ks : List Val} {kvs : List (List Key × V)}, RelT ks (kvs.map (·.1)) → hasK (.tup k) ks = kvs.any fun kv => decide (kv.1 = kk)
  | [], kvs, h => by
    have e : kvs = [] := List.map_eq_nil_iff.mp h
    subst e
    rfl
  | x :: ks, [], h => by obtain ⟨_, _, _, e, _⟩ := h; cases e
  | x :: ks, p :: kvs, ⟨k', s, xs, e, ex, hx, h⟩ => by
    cases e
    subst ex
    show (match keyEq (.tup xs) (.tup k) with | true => true | false => hasK (.tup k) ks) = _
    rw [show keyEq (.tup xs) (.tup k) = eqvL xs k from rfl, toKs_eqv hx hk, List.any_cons, hasT_any hk h]
    cases decide (p.1 = kk) <;> rfl
theorem replT_map {k : List Val} {w : Val} {kk : List Key} {y : V} (hk : toKs k = some kk) (hw : Rel W r H w y) : ∀ {ks vs : List Val} {kvs : List (List Key × V)}, RelT ks (kvs.map (·.1)) → RelL W r H vs (kvs.map (·.2)) →
    RelL W r H (repl (.tup k) w ks vs) ((kvs.map fun kv => if kv.1 = kk then (kv.1, y) else kv).map (·.2))
  | [], vs, kvs, h, q => by
    have e : kvs = [] := List.map_eq_nil_iff.mp h
    subst e
    cases (show vs = [] by
      cases vs with
      | nil => rfl
      | cons a b => obtain ⟨_, _, e, _⟩ := q; cases e)
    exact rfl
  | x :: ks, vs, [], h, q => by obtain ⟨_, _, _, e, _⟩ := h; cases e
  | x :: ks, [], p :: kvs, h, q => by cases (show _ = [] from q)
  | x :: ks, v :: vs, p :: kvs, ⟨k', s, xs, e, ex, hx, h⟩, ⟨z, s', e', hz, q⟩ => by
    cases e
    cases e'
    subst ex
    show RelL W r H (match keyEq (.tup xs) (.tup k) with | true => w :: repl (.tup k) w ks vs | false => v :: repl (.tup k) w ks vs) _
    rw [show keyEq (.tup xs) (.tup k) = eqvL xs k from rfl, toKs_eqv hx hk, List.map_cons, List.map_cons]
    by_cases c : p.1 = kk
    · rw [decide_eq_true c, if_pos c]
      exact ⟨_, _, rfl, hw, replT_map hk hw h q⟩
    · rw [decide_eq_false c, if_neg c]
      exact ⟨_, _, rfl, hz, replT_map hk hw h q⟩
theorem RelT.snoc {k : List Val} {kk : List Key} (hk : toKs k = some kk) : ∀ {ks : List Val} {l : List (List Key)}, RelT ks l → RelT (ks ++ [.tup k]) (l ++ [kk])
  | [], l, h => by cases (show l = [] from h); exact ⟨kk, [], k, rfl, rfl, hk, rfl⟩
  | x :: ks, l, ⟨k', s, xs, e, ex, hx, h⟩ => by
    subst e
    exact ⟨k', s ++ [kk], xs, rfl, ex, hx, RelT.snoc hk h⟩
theorem dput_T {k : List Val} {w : Val} {kk : List Key} {y : V} (hk : toKs k = some kk) (hw : Rel W r H w y) {ks vs : List Val} {kvs : List (List Key × V)} (h : RelT ks (kvs.map (·.1))) (q : RelL W r H vs (kvs.map (·.2))) :
    RelT (dput (.tup k) w ks vs).1 ((putK kvs kk y).map (·.1)) ∧ RelL W r H (dput (.tup k) w ks vs).2 ((putK kvs kk y).map (·.2)) := by
  have e := hasT_any hk h
  unfold dput putK
  cases hc : hasK (.tup k) ks with
  | true =>
    rw [hc] at e
    rw [if_pos e.symm]
    refine ⟨?_, replT_map hk hw h q⟩
    have em : (kvs.map fun kv => if kv.1 = kk then (kv.1, y) else kv).map (·.1) = kvs.map (·.1) := by
      rw [List.map_map]
      apply List.map_congr_left
      intro a _
      show (if a.1 = kk then (a.1, y) else a).1 = a.1
      split <;> rfl
    rw [em]
    exact h
  | false =>
    rw [hc] at e
    rw [if_neg (by rw [← e]; exact Bool.false_ne_true)]
    rw [List.map_append, List.map_append]
    exact ⟨RelT.snoc hk h, q.app (.one hw)⟩
/-- d[k] = v -/
theorem s_put {o i value : Expr} {iv id ik : E} {pos pos' : Pos} (hu : X.A.units + 1 < cLine) (hv : PE X value (dE W C Wx iv)) (ho : PE X o (dE W C Wx id)) (hi : PE X i (dE W C Wx ik)) (hs : swapsWith value (some (.Subscript o i pos')) pos.line X.env = pure false) :
    PS X (.Assign [.Subscript o i pos'] value pos) (dS W C Wx (.put iv id ik)) := by
  refine psI (ps_dput hu ho hi hv hs) fun D σ H ⟨r, st, env, p, q, g⟩ => ?_
  refine ⟨r, st, env, p, q, GoodS.seq g σ rfl fun z st1 r1 H1 y e1 p1 q1 g1 => ?_⟩
  refine ⟨r1, st1, env, p1, q.ext e1, GoodS.seq g1 σ rfl fun x st2 r2 H2 u e2 p2 q2 g2 => ?_⟩
  refine ⟨r2, st2, env, p2, (q.ext e1).ext e2, GoodS.seq g2 σ rfl fun k st3 r3 H3 w e3 p3 q3 g3 => ?_⟩
  have qz := (q1.ext e2).ext e3
  have qx := q2.ext e3
  cases x with
  | ref n =>
    obtain ⟨a, rfl, hr⟩ := qx
    obtain ⟨ob, hob, qo⟩ := p3.at_ hr
    have g3 : GoodS W (match st3[n]? with | some (.dic t ks vs) => (match keyOk t k && Nat.ble ks.length lineN with | true => .nx env (st3.set n (.dic t (dput k z ks vs).1 (dput k z ks vs).2)) | false => .no) | _ => .no) r3 H3 σ.length D (EX W Wx) := g3
    rw [hob] at g3
    cases ob with
    | dic t ks vs =>
      have g3 : GoodS W (match keyOk t k && Nat.ble ks.length lineN with | true => .nx env (st3.set n (.dic t (dput k z ks vs).1 (dput k z ks vs).2)) | false => .no) r3 H3 σ.length D (EX W Wx) := g3
      cases hb : keyOk t k && Nat.ble ks.length lineN with
      | false => rw [hb] at g3; exact g3.elim
      | true =>
        rw [hb] at g3
        obtain ⟨hk, hl⟩ := Bool.and_eq_true_iff.mp hb
        have hl : ks.length ≤ 100000 := Nat.le_of_ble_eq_true hl
        have qe := ((q.ext e1).ext e2).ext e3
        cases t with
        | false =>
          obtain ⟨kvs, hd, h1, h2⟩ := qo
          obtain ⟨kk, hkk⟩ := isKey_toK hk
          have hlen := h1.len
          rw [List.length_map] at hlen
          refine ⟨a, upd H3 a (.dK (putK kvs kk y)), rfl, .inl ⟨kvs, kk, hd, q3.key hkk, by rw [sizeLine_eq]; omega, rfl⟩, ?_⟩
          obtain ⟨d1, d2⟩ := dput_K hkk qz h1 h2
          exact g3 r3 _ σ (.put p3 hr) (p3.put hr ⟨_, upd_same, d1, d2.ext (.put p3 hr)⟩) (qe.ext (.put p3 hr)) rfl
        | true =>
          obtain ⟨kvs, hd, h1, h2⟩ := qo
          cases k with
          | tup xs =>
            obtain ⟨kk, hkk⟩ := allKey_toKs (show allKey xs = true from hk)
            obtain ⟨b, ys, rfl, hb', qy⟩ := q3
            rw [qy.keys hkk] at hb'
            have hlen := h1.len
            rw [List.length_map] at hlen
            refine ⟨a, upd H3 a (.dT (putK kvs kk y)), rfl, .inr ⟨kvs, kk, b, hd, rfl, hb', by rw [sizeLine_eq]; omega, rfl⟩, ?_⟩
            obtain ⟨d1, d2⟩ := dput_T hkk qz h1 h2
            exact g3 r3 _ σ (.put p3 hr) (p3.put hr ⟨_, upd_same, d1, d2.ext (.put p3 hr)⟩) (qe.ext (.put p3 hr)) rfl
          | _ => cases hk
    | _ => exact (show False from g3).elim
  | _ => exact (show False from g3).elim
end
end G

end

section
/-! sorted: over lists, tuples, dicts; ints, pairs of ints. -/
namespace G
open PySem PySem.Spec PyProof.Rows L2
theorem perm_vals : ∀ {out us : List Value}, out.Perm us → ∀ {ws : List V}, Vals ws us → ∃ ys, ys.Perm ws ∧ Vals ys out := by
  intro out us p
  induction p with
  | nil => intro ws h; cases h; exact ⟨[], .nil, .nil⟩
  | cons x p ih =>
    intro ws h
    cases h with
    | cons r t =>
      obtain ⟨ys, h1, h2⟩ := ih t
      exact ⟨_ :: ys, h1.cons _, .cons r h2⟩
  | swap x y l =>
    intro ws h
    cases h with
    | cons r t =>
      cases t with
      | cons r2 t => exact ⟨_, .swap _ _ _, .cons r2 (.cons r t)⟩
  | trans p q ih1 ih2 =>
    intro ws h
    obtain ⟨ys, h1, h2⟩ := ih2 h
    obtain ⟨zs, h3, h4⟩ := ih1 h2
    exact ⟨zs, h3.trans h1, h4⟩
section
variable {X : Cx} {W : Wd} {C : Calls} {Wx : WX}
/-- sorted(l): what l gives is collected, a new list of it sorted -/
theorem sorted_run {pins : List (Addr × Obj)} {s : Shared} {σ : St} {H : Hp} {Q : VK} {l : Addr} {ws : List V} {ltv : Value → Value → Bool} (I : Inv X pins σ H s) (O : SrtO.Swo ltv) (hz : ws.length ≤ sizeLine)
    (hcol : ∀ R : List Value → Shared → Prop, (∀ (h' : Heap) (tk : Nat) (us : List Value), (∀ b o, s.heap.get? b = some o → h'.get? b = some o) → Vals ws us → R us { s with heap := h', toks := tk }) → wpAny (model X.prog X.w) X.A.in1 (collect (.ref l)) R X.xe s)
    (hS : ∀ (us : List Value) (s' : Shared) (a : Addr) (n : Nat), Vals ws us → Inv X pins σ H s' → s'.heap.get? a = some (seqObj "list" us.toArray n) → 2 ≤ us.length → SrtO.SortableO X.prog X.w X.A.in1.in1 s' a us ltv)
    (hQ : ∀ (us out : List Value) (ys : List V) (p : Addr), Vals ws us → SrtO.Srtd ltv out → ys.Perm ws → Vals ys out → H p = none → Q (.ref p) (upd H p (.lst ys))) :
    wpAny (model X.prog X.w) X.A (call (.builtin "sorted") [.ref l]) (EP X pins σ Q) X.xe s := by
  refine Calls.call_function_entry kind_sorted plain_sorted entry_sorted (args_sorted1 _) ?_
  unfold Builtin.«sorted»
  refine wpAny_bind (m := checkCount "sorted" 1 1 _) (wpAny_pure (wpAny_bind (hcol _ fun h' tk us hk rv => ?_)))
  have I1 : Inv X pins σ H { s with heap := h', toks := tk } := I.kept hk
  have hzu : us.length ≤ sizeLine := by rw [← rv.length]; exact hz
  refine wpAny_bind (wpAny_newList ?_ hzu)
  have hoL : (h'.push (seqObj "list" us.toArray 0)).get? h'.objs.size = some (seqObj "list" us.toArray 0) := Heap.get?_push_size _ rfl
  have I2 : Inv X pins σ H { s with heap := h'.push (seqObj "list" us.toArray 0), toks := tk } := I1.kept (t' := tk) fun b o e => Heap.get?_push_of_some _ e
  show wpAny _ _ _ _ _ { s with heap := h'.push (seqObj "list" us.toArray 0), toks := tk }
  refine wpAny_bind (wpAny_holding (wpAny_call_entry slot_list_sort ⟨_, hoL, rfl⟩ entry_list_sort
    (SrtO.list_sort_ord (s := { s with heap := h'.push (seqObj "list" us.toArray 0), toks := tk }) O hoL hzu (fun h2 => hS us _ _ 0 rv I2 hoL h2) fun out h1 h2 => ⟨_, rfl, ?_⟩) (args_list_sort _)))
  obtain ⟨e', he'⟩ := sortedHeap_at (vs := us) (out := out.toArray) hoL
  obtain ⟨ys, pm, ry⟩ := perm_vals h2.perm rv
  have hlen : ys.length ≤ sizeLine := by rw [pm.length_eq]; exact hz
  have hf : H h'.objs.size = none := I1.hok.fresh (Nat.le_refl _)
  refine wpAny_pure ⟨_, rfl, .ref h'.objs.size, upd H h'.objs.size (.lst ys), I1.laid (t' := tk) (fun b u e => ?_) (Nat.le_refl _) ⟨hlen, out, e', ry, he'⟩, rfl, hQ us out ys _ rv h1 pm ry hf⟩
  have hb : b < h'.objs.size := Heap.lt_size e
  rw [sortedHeap_old (Nat.ne_of_lt hb) (by rw [size_push']; exact Nat.lt_succ_of_lt hb), Heap.get?_push_of_some _ e]
/-- where what is walked lies -/
theorem col_seq {pins : List (Addr × Obj)} {s : Shared} {σ : St} {H : Hp} {l : Addr} {ws : List V} (I : Inv X pins σ H s) (h : H l = some (.lst ws) ∨ H l = some (.tup ws)) :
    ws.length ≤ sizeLine ∧ ∀ R : List Value → Shared → Prop, (∀ (h' : Heap) (tk : Nat) (us : List Value), (∀ b o, s.heap.get? b = some o → h'.get? b = some o) → Vals ws us → R us { s with heap := h', toks := tk }) → wpAny (model X.prog X.w) X.A.in1 (collect (.ref l)) R X.xe s := by
  rcases h with h | h
  · obtain ⟨hz, its, n, rv, hob⟩ := I.hok l _ h
    refine ⟨hz, fun R q => ?_⟩
    exact wpAny_collect_seq l (T := "list") (.inl rfl) hob rfl rfl (fun h' k => q h' s.toks its k rv) (by rw [List.size_toArray, ← rv.length]; exact hz)
  · obtain ⟨hz, its, rv, o, ho, hc, n, hd⟩ := I.hok l _ h
    refine ⟨hz, fun R q => ?_⟩
    exact wpAny_collect_seq l (T := "tuple") (.inr rfl) ho hc hd (fun h' k => q h' s.toks its k rv) (by rw [List.size_toArray, ← rv.length]; exact hz)
theorem col_dT {pins : List (Addr × Obj)} {s : Shared} {σ : St} {H : Hp} {l : Addr} {kvs : List (List Key × V)} (hc : X.calm = true) (I : Inv X pins σ H s) (h : Rd H l (.dT kvs)) :
    ∃ bs, IsKeys H kvs bs ∧ bs.length ≤ sizeLine ∧ ∀ R : List Value → Shared → Prop, (∀ (h' : Heap) (tk : Nat) (us : List Value), (∀ b o, s.heap.get? b = some o → h'.get? b = some o) → Vals (bs.map V.ref) us → R us { s with heap := h', toks := tk }) → wpAny (model X.prog X.w) X.A.in1 (collect (.ref l)) R X.xe s := by
  obtain ⟨z, hs, ks, pr, o, es, ep, ho, hx, hdt, he, hn⟩ := (show ObjOk X.prog X.w H s.heap l (.dT kvs) from h.ok I.hok)
  have l1 : es.size = ks.length := size_of_entries he
  have l2 : kvs.length = ks.length := Paired.length pr
  refine ⟨ks.map fun x => x.2.1, isKeys_of pr, by rw [List.length_map]; omega, fun R q => ?_⟩
  refine PySem.W.kdu_collect (A := X.A.in1) (kdl_raw hs hx hdt) (I.ok.hd hc) ho (by omega) fun h' tk acc kp it => ?_
  have ea : acc.toList = (ks.map fun x => x.2.1).map Value.ref := by
    have hl : acc.toList.length = ks.length := by rw [Array.length_toList, it.1]; exact l1
    apply List.ext_getElem?
    intro j
    rw [List.map_map, List.getElem?_map]
    cases hj : acc.toList[j]? with
    | none =>
      have h1 := List.getElem?_eq_none_iff.mp hj
      have h2 : ks[j]? = none := List.getElem?_eq_none (by omega)
      rw [h2]
      rfl
    | some v =>
      obtain ⟨en, hen, hv⟩ := it.2 j v (by rw [← Array.getElem?_toList]; exact hj)
      have qe := entry_at he j
      rw [hen] at qe
      cases hb : ks[j]? with
      | none => rw [hb] at qe; exact nomatch (show some en = none from qe)
      | some b =>
        rw [hb] at qe
        have e2 : en = entryOfKey (tupleKind (mixKind X.prog X.w)) b := Option.some.inj qe
        rw [hv, e2]
        rfl
  refine q h' tk _ kp ?_
  rw [ea]
  exact vals_refs _
end
/-! ### order -/
theorem perm_uniq {α : Type} {R : α → α → Prop} (anti : ∀ a b, R a b → R b a → a = b) : ∀ {l m : List α}, l.Perm m → l.Pairwise R → m.Pairwise R → l = m
  | [], m, p, _, _ => (List.Perm.eq_nil p.symm).symm
  | x :: l, [], p, _, _ => absurd p.length_eq (by simp)
  | x :: l, y :: m, p, h1, h2 => by
    have a1 := List.pairwise_cons.mp h1
    have a2 := List.pairwise_cons.mp h2
    have e : x = y := by
      rcases List.mem_cons.mp (p.mem_iff.mp (List.mem_cons_self (a := x) (l := l))) with e | hx
      · exact e
      · rcases List.mem_cons.mp (p.mem_iff.mpr (List.mem_cons_self (a := y) (l := m))) with e | hy
        · exact e.symm
        · exact anti _ _ (a1.1 y hy) (a2.1 x hx)
    subst e
    rw [perm_uniq anti p.cons_inv a1.2 a2.2]
/-- insertion, as in the evaluator -/
def insB {α : Type} (lt : α → α → Bool) (a : α) : List α → List α
  | [] => [a]
  | x :: r => match lt a x with
    | true => a :: x :: r
    | false => x :: insB lt a r
def sortB {α : Type} (lt : α → α → Bool) : List α → List α
  | [] => []
  | x :: r => insB lt x (sortB lt r)
theorem insB_perm {α : Type} (lt : α → α → Bool) (a : α) : ∀ l, (insB lt a l).Perm (a :: l)
  | [] => .refl _
  | x :: r => by
    unfold insB
    cases lt a x with
    | true => exact .refl _
    | false => exact ((insB_perm lt a r).cons x).trans (.swap _ _ _)
theorem sortB_perm {α : Type} (lt : α → α → Bool) : ∀ l, (sortB lt l).Perm l
  | [] => .refl _
  | x :: r => (insB_perm lt x _).trans ((sortB_perm lt r).cons x)
theorem insB_pw {α : Type} {lt : α → α → Bool} {R : α → α → Prop} (tr : ∀ a b c, R a b → R b c → R a c) (h1 : ∀ a b, lt a b = true → R a b) (h0 : ∀ a b, lt a b = false → R b a) (a : α) : ∀ {l}, l.Pairwise R → (insB lt a l).Pairwise R
  | [], _ => List.pairwise_singleton _ _
  | x :: r, h => by
    have q := List.pairwise_cons.mp h
    unfold insB
    cases hc : lt a x with
    | true =>
      refine List.pairwise_cons.mpr ⟨fun b hb => ?_, h⟩
      rcases List.mem_cons.mp hb with e | hb
      · rw [e]; exact h1 _ _ hc
      · exact tr _ _ _ (h1 _ _ hc) (q.1 b hb)
    | false =>
      refine List.pairwise_cons.mpr ⟨fun b hb => ?_, insB_pw tr h1 h0 a q.2⟩
      rcases List.mem_cons.mp ((insB_perm lt a r).mem_iff.mp hb) with e | hb
      · rw [e]; exact h0 _ _ hc
      · exact q.1 b hb
theorem sortB_pw {α : Type} {lt : α → α → Bool} {R : α → α → Prop} (tr : ∀ a b c, R a b → R b c → R a c) (h1 : ∀ a b, lt a b = true → R a b) (h0 : ∀ a b, lt a b = false → R b a) : ∀ l, (sortB lt l).Pairwise R
  | [] => List.Pairwise.nil
  | x :: r => insB_pw tr h1 h0 x (sortB_pw tr h1 h0 r)
/-- values by what they stand for -/
theorem ins_map {α : Type} {f : α → Val} {lt : α → α → Bool} (h : ∀ a b, vlt (f a) (f b) = lt a b) (a : α) : ∀ l : List α, insV (f a) (l.map f) = (insB lt a l).map f
  | [] => rfl
  | x :: r => by
    show (match vlt (f a) (f x) with | true => f a :: f x :: r.map f | false => f x :: insV (f a) (r.map f)) = (match lt a x with | true => a :: x :: r | false => x :: insB lt a r).map f
    rw [h, ins_map h a r]
    cases lt a x <;> rfl
theorem sort_map {α : Type} {f : α → Val} {lt : α → α → Bool} (h : ∀ a b, vlt (f a) (f b) = lt a b) : ∀ l : List α, sortV (l.map f) = (sortB lt l).map f
  | [] => rfl
  | x :: r => by
    show insV (f x) (sortV (r.map f)) = (insB lt x (sortB lt r)).map f
    rw [sort_map h r, ins_map h]
abbrev prV (p : Int × Int) : Val := .tup [.int p.1, .int p.2]
theorem vlt_int (a b : Int) : vlt (.int a) (.int b) = decide (a < b) := ilt_eq a b
theorem vlt_pr (p q : Int × Int) : vlt (prV p) (prV q) = SrtO.lexB p q := by
  unfold SrtO.lexB
  show (match (match ilt p.1 q.1 with | true => some true | false => (match ieq p.1 q.1 with | true => ltI [.int p.2] [.int q.2] | false => some false)) with | some c => c | none => false) = _
  rw [ilt_eq, ieq_eq]
  by_cases h : p.1 < q.1
  · have h' : ¬ p.1 = q.1 := by omega
    simp [h, h']
  · by_cases h' : p.1 = q.1
    · simp [h', ltI, ilt_eq, ieq_eq]
      by_cases h2 : p.2 < q.2
      · simp [h2]
      · simp [h2]
        cases decide (p.2 = q.2) <;> rfl
    · simp [h, h']
theorem allInt_map : ∀ {xs : List Val}, allInt xs = true → ∃ ns : List Int, xs = ns.map Val.int
  | [], _ => ⟨[], rfl⟩
  | x :: xs, h => by
    cases x with
    | int i =>
      obtain ⟨ns, e⟩ := allInt_map (show allInt xs = true from h)
      exact ⟨i :: ns, by rw [e]; rfl⟩
    | _ => cases h
theorem pairI_map : ∀ {xs : List Val}, pairI xs = true → ∃ ps : List (Int × Int), xs = ps.map prV
  | [], _ => ⟨[], rfl⟩
  | x :: xs, h => by
    unfold pairI at h
    split at h
    · rename_i e; cases e
    · rename_i i j r e
      cases e
      obtain ⟨ps, e⟩ := pairI_map h
      exact ⟨(i, j) :: ps, by rw [e]; rfl⟩
    · cases h
theorem relL_ints {W : Wd} {r : Pl} {H : Hp} : ∀ {ns : List Int} {ws : List V}, RelL W r H (ns.map Val.int) ws → ws = ns.map V.int
  | [], _, h => h
  | n :: ns, _, ⟨y, s, e, h1, h2⟩ => by rw [e, show y = .int n from h1, relL_ints h2]; rfl
end G

end

section
/-! sorted, as a built-in of the evaluator. -/
namespace G
open PySem PySem.Spec PyProof.Rows L2
def prK (H : Hp) (x : V) : Int × Int := match x with
  | .ref t => match H t with
    | some (.tup [.int a, .int b]) => (a, b)
    | _ => (0, 0)
  | _ => (0, 0)
theorem prK_of {H : Hp} {t : Addr} {p : Int × Int} (h : H t = some (.tup [.int p.1, .int p.2])) : prK H (.ref t) = p := by
  simp only [prK, h]
section
variable {X : Cx} {W : Wd} {C : Calls} {Wx : WX} {r : Pl} {H : Hp}
theorem relL_prs : ∀ {ps : List (Int × Int)} {ws : List V}, RelL W r H (ps.map prV) ws → ws.map (prK H) = ps ∧ ∀ x ∈ ws, ∃ t, x = .ref t ∧ H t = some (.tup [.int (prK H x).1, .int (prK H x).2])
  | [], _, h => by cases (show _ = [] from h); exact ⟨rfl, fun x hx => absurd hx (by simp)⟩
  | p :: ps, _, ⟨y, s, e, ⟨t, ys, e1, ht, hy⟩, h2⟩ => by
    subst e e1
    have ey : ys = [.int p.1, .int p.2] := relL_ints (ns := [p.1, p.2]) hy
    subst ey
    have ek := prK_of ht
    obtain ⟨i1, i2⟩ := relL_prs h2
    refine ⟨by rw [List.map_cons, ek, i1], fun x hx => ?_⟩
    rcases List.mem_cons.mp hx with e | hx
    · subst e
      exact ⟨t, rfl, by rw [ek]; exact ht⟩
    · exact i2 x hx
theorem prs_relL {H' : Hp} {r' : Pl} : ∀ {ys : List V}, (∀ x ∈ ys, ∃ t, x = .ref t ∧ H' t = some (.tup [.int (prK H x).1, .int (prK H x).2])) → RelL W r' H' ((ys.map (prK H)).map prV) ys
  | [], _ => rfl
  | y :: ys, h => by
    obtain ⟨t, e, ht⟩ := h y List.mem_cons_self
    exact ⟨y, ys, rfl, ⟨t, _, e, ht, _, _, rfl, rfl, _, _, rfl, rfl, rfl⟩, prs_relL fun x hx => h x (List.mem_cons_of_mem _ hx)⟩
/-- Vals: the same by backV -/
theorem vals_back {ws : List V} {us : List Value} (h : Vals ws us) (hr : ∀ x ∈ ws, ∃ t, x = V.ref t) : us.map backV = ws := (refs_back h hr).1.symm
theorem is_pair {pins : List (Addr × Obj)} {s : Shared} {σ : St} (I : Inv X pins σ H s) {t : Addr} {i j : Int} (ht : H t = some (.tup [.int i, .int j])) : Srt.IsPair s.heap (.ref t) i j := by
  obtain ⟨_, its, r2, o, ho, hc, n, hd⟩ := I.hok _ _ ht
  obtain ⟨u1, u2, rfl, ri, rj⟩ := vals2 r2
  obtain ⟨t1, rfl⟩ := ri
  obtain ⟨t2, rfl⟩ := rj
  exact ⟨t, o, t1, t2, n, rfl, ho, hc, hd⟩
theorem not_tup {s : Shared} {a : Addr} {us : List Value} {n : Nat} (h : s.heap.get? a = some (seqObj "list" us.toArray n)) : ∀ o, s.heap.get? a = some o → o.cls ≠ .type "tuple" := fun o e c => by
  rw [h] at e
  cases e
  exact absurd (Value.type.inj c) (by decide)
/-- sorted of what is collected -/
theorem sort_rule {pins : List (Addr × Obj)} {s : Shared} {σ : St} {Q : VK} {E : Nat → Hp → Prop} {st : Sto} {l : Addr} {ws : List V} {xs : List Val} (I : Inv X pins σ H s) (p : Rep W r st H) (q : RelL W r H xs ws) (hz : ws.length ≤ sizeLine) (hs : sortable xs = true)
    (hcol : ∀ R : List Value → Shared → Prop, (∀ (h' : Heap) (tk : Nat) (us : List Value), (∀ b o, s.heap.get? b = some o → h'.get? b = some o) → Vals ws us → R us { s with heap := h', toks := tk }) → wpAny (model X.prog X.w) X.A.in1 (collect (.ref l)) R X.xe s)
    (g : Good W (.ok (.tl (sortV xs)) st) r H Q E) : wpAny (model X.prog X.w) X.A (call (.builtin "sorted") [.ref l]) (EP X pins σ Q) X.xe s := by
  rcases Bool.or_eq_true_iff.mp hs with h | h
  · obtain ⟨ns, rfl⟩ := allInt_map h
    have ew := relL_ints q
    subst ew
    refine sorted_run I SrtO.swo_int hz hcol (fun us s' a n rv I' ho h2 => SrtO.ints_sortable rv.ints h2) fun us out ys pp rv h1 pm ry hp => ?_
    have hy : ∃ ms : List Int, ys = ms.map V.int ∧ ms.Perm ns ∧ ms.Pairwise (· ≤ ·) := by
      have hall : ∀ y ∈ ys, ∃ i, y = V.int i := fun y hy => by
        obtain ⟨i, _, e⟩ := List.mem_map.mp (pm.mem_iff.mp hy)
        exact ⟨i, e.symm⟩
      let f : V → Int := fun v => match v with | .int i => i | _ => 0
      have e1 : ys = (ys.map f).map V.int := by
        rw [List.map_map]
        refine (List.map_id ys).symm.trans (List.map_congr_left fun y hy => ?_)
        obtain ⟨i, rfl⟩ := hall y hy
        rfl
      refine ⟨ys.map f, e1, ?_, ?_⟩
      · have z := pm.map f
        rw [List.map_map] at z
        have e2 : ns.map (f ∘ V.int) = ns := by
          refine (List.map_congr_left fun n _ => ?_).trans (List.map_id ns)
          rfl
        rw [e2] at z
        exact z
      · have hv : out.map SrtO.iv = ys.map f := by
          have go : ∀ {ys : List V} {out : List Value}, Vals ys out → (∀ y ∈ ys, ∃ i, y = V.int i) → out.map SrtO.iv = ys.map f := by
            intro ys out h
            induction h with
            | nil => intro _; rfl
            | cons rr t ih =>
              intro hh
              obtain ⟨i, e⟩ := hh _ List.mem_cons_self
              subst e
              obtain ⟨tk, rfl⟩ := rr
              rw [List.map_cons, List.map_cons, ih fun y hy => hh y (List.mem_cons_of_mem _ hy)]
              rfl
          exact go ry hall
        rw [← hv]
        exact List.pairwise_map.mpr (h1.imp fun {x y} z => Int.not_lt.mp (of_decide_eq_false (p := SrtO.iv y < SrtO.iv x) z))
    obtain ⟨ms, e1, e2, e3⟩ := hy
    have es : sortV (ns.map Val.int) = ms.map Val.int := by
      rw [sort_map (f := Val.int) (lt := fun a b => decide (a < b)) vlt_int]
      congr 1
      refine perm_uniq (R := fun a b : Int => a ≤ b) (fun a b => Int.le_antisymm) ((sortB_perm _ ns).trans e2.symm) (sortB_pw (lt := fun a b : Int => decide (a < b)) (R := fun a b : Int => a ≤ b) (fun a b c => Int.le_trans) (fun a b z => Int.le_of_lt (of_decide_eq_true z)) (fun a b z => Int.not_lt.mp (of_decide_eq_false z)) ns) e3
    refine g r _ _ (.new hp) (p.new hp) ⟨pp, ys, rfl, p.nfree hp, upd_same, ?_⟩
    rw [es, e1]
    have go : ∀ ms : List Int, RelL W r (upd H pp (.lst (List.map V.int ms))) (ms.map Val.int) (ms.map V.int) → True := fun _ _ => trivial
    have go2 : ∀ (H' : Hp) (ms : List Int), RelL W r H' (ms.map Val.int) (ms.map V.int) := by
      intro H' ms
      induction ms with
      | nil => rfl
      | cons m ms ih => exact ⟨_, _, rfl, rfl, ih⟩
    exact go2 _ ms
  · obtain ⟨ps, rfl⟩ := pairI_map h
    obtain ⟨w1, w2⟩ := relL_prs q
    have hr : ∀ x ∈ ws, ∃ t, x = V.ref t := fun x hx => by obtain ⟨t, e, _⟩ := w2 x hx; exact ⟨t, e⟩
    refine sorted_run I (SrtO.swo_lex fun u => prK H (backV u)) hz hcol (fun us s' a n rv I' ho h2 => SrtO.pairs_sortableO (by omega) (fun v hv => ?_) (not_tup ho)) fun us out ys pp rv h1 pm ry hp => ?_
    · have hm : backV v ∈ ws := by rw [← vals_back rv hr]; exact List.mem_map.mpr ⟨v, hv, rfl⟩
      obtain ⟨t, e, ht⟩ := w2 _ hm
      obtain ⟨t', rfl⟩ := (refs_back rv hr).2 v hv
      cases e
      exact is_pair I' ht
    · have hys : ∀ x ∈ ys, ∃ t, x = V.ref t ∧ H t = some (.tup [.int (prK H x).1, .int (prK H x).2]) := fun x hx => w2 x (pm.mem_iff.mp hx)
      have hyr : ∀ x ∈ ys, ∃ t, x = V.ref t := fun x hx => by obtain ⟨t, e, _⟩ := hys x hx; exact ⟨t, e⟩
      have eo := vals_back ry hyr
      have tr : ∀ a b c : Int × Int, SrtO.lexB b a = false → SrtO.lexB c b = false → SrtO.lexB c a = false := fun a b c h1 h2 => by
        have := SrtO.lexB_no.mp h1
        have := SrtO.lexB_no.mp h2
        refine SrtO.lexB_no.mpr ?_
        omega
      have as : ∀ a b : Int × Int, SrtO.lexB a b = true → SrtO.lexB b a = false := fun a b h => by
        have := SrtO.lexB_iff.mp h
        refine SrtO.lexB_no.mpr ?_
        omega
      have pw : (ys.map (prK H)).Pairwise fun a b => SrtO.lexB b a = false := by
        rw [← eo, List.map_map]
        exact List.pairwise_map.mpr h1
      have ek : ys.map (prK H) = sortB SrtO.lexB ps := by
        refine perm_uniq (R := fun a b => SrtO.lexB b a = false) (fun a b h1 h2 => ?_) ((pm.map (prK H)).trans (by rw [w1]; exact (sortB_perm _ ps).symm)) pw (sortB_pw tr as (fun a b z => z) ps)
        have := SrtO.lexB_no.mp h1
        have := SrtO.lexB_no.mp h2
        exact Prod.ext (by omega) (by omega)
      refine g r _ _ (.new hp) (p.new hp) ⟨pp, ys, rfl, p.nfree hp, upd_same, ?_⟩
      rw [sort_map (f := prV) vlt_pr, ← ek]
      refine prs_relL fun x hx => ?_
      obtain ⟨t, e, ht⟩ := hys x hx
      exact ⟨t, e, by rw [upd_ne (ne_of_none ht hp)]; exact ht⟩
theorem keys_rel {kvs : List (List Key × V)} {bs : List Addr} : ∀ {ps : List (Int × Int)}, RelT (ps.map prV) (kvs.map (·.1)) → IsKeys H kvs bs → RelL W r H (ps.map prV) (bs.map V.ref) := by
  intro ps h1 h2
  unfold IsKeys at h2
  induction h2 generalizing ps with
  | nil =>
    cases ps with
    | nil => rfl
    | cons a b => obtain ⟨_, _, _, e, _⟩ := h1; cases e
  | cons h t ih =>
    cases ps with
    | nil => cases (show _ = [] from h1)
    | cons a b =>
      obtain ⟨k, s, xs, e, ex, hx, h3⟩ := h1
      obtain ⟨e1, e2⟩ := List.cons.inj e
      subst e2
      cases ex
      have e3 : [.inl a.1, .inl a.2] = k := Option.some.inj hx
      have e4 := h
      simp only at e1
      rw [e1, ← e3] at e4
      exact ⟨_, _, rfl, ⟨_, _, rfl, e4, _, _, rfl, rfl, _, _, rfl, rfl, rfl⟩, ih h3⟩
theorem allInt_keysT : ∀ {ks : List Val} {l : List (List Key)}, allInt ks = true → RelT ks l → ks = []
  | [], _, _, _ => rfl
  | x :: ks, l, h, ⟨_, _, xs, _, ex, _, _⟩ => by subst ex; cases h
theorem b_sorted (hc : X.calm = true) : CallR X (.builtin "sorted") (rBi W .sorted) := by
  refine bi1 (not1 _ (fun _ _ _ => rfl) fun _ _ _ _ _ => rfl) fun a x r st E pins s σ H us Q I rv p q g => ?_
  have g : Good W (match walkOf st a with | some xs => (match sortable xs with | true => .ok (.tl (sortV xs)) st | false => .no) | none => .no) r H Q E := g
  cases h1 : walkOf st a with
  | none => rw [h1] at g; exact g.elim
  | some xs =>
    rw [h1] at g
    have g : Good W (match sortable xs with | true => .ok (.tl (sortV xs)) st | false => .no) r H Q E := g
    cases h2 : sortable xs with
    | false => rw [h2] at g; exact g.elim
    | true =>
      rw [h2] at g
      have sq : ∀ {l : Addr} {ws : List V}, x = .ref l → (H l = some (.lst ws) ∨ H l = some (.tup ws)) → RelL W r H xs ws → wpAny (model X.prog X.w) X.A (call (.builtin "sorted") us) (EP X pins σ Q) X.xe s := by
        intro l ws e hl ql
        subst e
        obtain ⟨u, rfl, ru⟩ := vals1 rv
        cases ru
        obtain ⟨hz, hcol⟩ := col_seq I hl
        exact sort_rule I p ql hz h2 hcol g
      have dq : ∀ {l : Addr} {vs : List Val}, x = .ref l → RD W r H l true xs vs → wpAny (model X.prog X.w) X.A (call (.builtin "sorted") us) (EP X pins σ Q) X.xe s := by
        intro l vs e ⟨kvs, hd, k1, k2⟩
        subst e
        obtain ⟨u, rfl, ru⟩ := vals1 rv
        cases ru
        obtain ⟨bs, ib, hz, hcol⟩ := col_dT hc I hd
        have hps : ∃ ps : List (Int × Int), xs = ps.map prV := by
          rcases Bool.or_eq_true_iff.mp h2 with z | z
          · exact ⟨[], allInt_keysT z k1⟩
          · exact pairI_map z
        obtain ⟨ps, rfl⟩ := hps
        exact sort_rule I p (keys_rel k1 ib) (by rw [List.length_map]; exact hz) h2 hcol g
      cases a with
      | tup zs =>
        cases (show some zs = some xs from h1)
        obtain ⟨l, ys, e, hl, q⟩ := q
        exact sq e (.inr hl) q
      | tl zs =>
        cases (show some zs = some xs from h1)
        obtain ⟨l, ys, e, _, hl, q⟩ := q
        exact sq e (.inl hl) q
      | td t ks vs =>
        cases t with
        | false => cases h1
        | true =>
          cases (show some ks = some xs from h1)
          obtain ⟨l, e, hd⟩ := Rel.rd q
          exact dq e hd
      | ref n =>
        obtain ⟨l, e, hr⟩ := q
        obtain ⟨o, ho, q⟩ := p.at_ hr
        have h1 : (match st[n]? with | some (.lst xs) => some xs | some (.dic true ks _) => some ks | _ => none) = some xs := h1
        rw [ho] at h1
        cases o with
        | lst zs =>
          cases (show some zs = some xs from h1)
          obtain ⟨ys, hl, q⟩ := q
          exact sq e (.inl hl) q
        | dic t ks vs =>
          cases t with
          | false => cases h1
          | true =>
            cases (show some ks = some xs from h1)
            exact dq e q.rd
        | dcn ks vs => cases h1
        | ins fs => cases h1
        | fdi ks vs => cases h1
      | _ => cases h1
end
end G

end

section
/-! set of a list of ints, with its order; sorted of it. -/
namespace G
open PySem PySem.Spec PyProof.Rows L2
/-- a set as it is made -/
abbrev set0 (w : World) : Obj := { cls := .type "set", dict := none, data := .set #[] 0 (.fresh 0 0 (!w.params.followText "set-order")) }
section
variable {P : Program} {w : World} {A : Around} {E : Value → Shared → Prop} {s : Shared}
theorem set_ints {l : Addr} {items : Array Value} (ns : List Int) {Q : Value → Shared → Prop} (hh : A.handled = none) (hl : s.heap.IsList l items) (hit : IntsAre items.toList ns) (hb : ns.length + 1 < scanBound)
    (h : ∀ (h' : Heap) (tk c : Nat), SetR w h' s.heap.objs.size (fun j => decide (j ∈ ns)) c → c ≤ ns.length → (∀ b o, s.heap.get? b = some o → h'.get? b = some o) → Q (.ref s.heap.objs.size) { s with heap := h', toks := tk }) :
    wpAny (model P w) A (call (.type "set") [.ref l]) Q E s := by
  have hisz : items.size = ns.length := by have q := IntsAre.length hit; rwa [Array.length_toList] at q
  obtain ⟨c, tl, hmro⟩ := F.called_set.mro; have hmade := F.called_set.made; have hsub := F.called_set.sub
  refine wpAny_call (codeAny_of_tree ?_); show wpAny _ _ (callAny (.type "set") _) _ _ _
  refine wpAny_pure ⟨Code.quiet_builtin _ (by decide +kernel), codeAny_builtin F.entry_type_call ?_⟩; rw [Around.under_plain (weight_type_call_type "set" [.ref l] []) rfl]
  have h1 := F.called_set.notType; have h2 := F.called_set.canCreate; have hct := F.typeCall_set_1 (.ref l); repeat (any_goals (first | assumption | wp_step))
  refine codeAny_mono (code_set_led1 (.ref l) (E := E) (Q₁ := fun obj s₁ => obj = .ref s.heap.objs.size ∧ s₁ = { s with heap := s.heap.push (set0 w) }) ⟨rfl, rfl⟩) fun r s₁ hr => ?_
  cases r with
  | error e => exact hr
  | ok fl =>
    cases fl with
    | ret obj =>
      obtain ⟨rfl, rfl⟩ := hr
      have hS : (s.heap.push (set0 w)).get? s.heap.objs.size = some (set0 w) := Heap.get?_push_size _ rfl
      have hT : Shared.TypeIs { s with heap := s.heap.push (set0 w) } (.ref s.heap.objs.size) "set" := ⟨_, hS, rfl⟩
      have hli := F.called_set.init.lookup; have hbi := F.called_set.init.bind (.ref s.heap.objs.size); repeat (any_goals (first | assumption | wp_step))
      refine codeAny_mono (codeAny_call_builtin (R := wants (fun r s₂ => r = .none ∧ ∃ h' tk c, s₂ = { s with heap := h', toks := tk } ∧ SetR w h' s.heap.objs.size (fun j => decide (j ∈ ns)) c ∧ c ≤ ns.length ∧ (∀ b o, s.heap.get? b = some o → h'.get? b = some o)) E) F.called_set.init.plain F.entry_set_init (check_set_init_1 hT ?_)) fun r₂ s₂ hr₂ => ?_
      · obtain ⟨⟨ocls, odict, odata, oslots⟩, hol, hcl, nl, hdl⟩ := hl; simp only at hcl hdl; subst hcl; subst hdl
        have hol' : (s.heap.push (set0 w)).get? l = some { cls := .type "list", dict := odict, data := .seq items nl, slots := oslots } := Heap.get?_push_of_some _ hol
        have hsls := F.sub_list_set; have hslf := F.sub_list_frozenset; have hne : (Value.type "list" == Value.type "dict") = false := by decide
        have hl1 : (s.heap.push (set0 w)).IsList l items := ⟨_, hol', rfl, nl, rfl⟩
        unfold Builtin.«set.__init__» noKeywords Builtin.Frozenset.updateFrom; generalize hPI : pyIter = PI; wp_walk; subst hPI
        refine wpAny_pyIter_list hl1 (wpAny_bind (wpAny_runValue ?_))
        have hlS : l < s.heap.objs.size := Heap.lt_size hol
        have hh3 : A.in1.in1.in1.handled = none := by simp [hh]
        have hneI : l ≠ (s.heap.push (set0 w)).objs.size := by rw [Heap.size_push]; exact Nat.ne_of_lt (Nat.lt_succ_of_lt hlS)
        have hSf : s.heap.objs.size ∉ [(s.heap.push (set0 w)).objs.size, l] := by
          rw [Heap.size_push]; simp only [List.mem_cons, List.not_mem_nil, or_false, not_or]; exact ⟨Nat.ne_of_lt (Nat.lt_succ_self _), Nat.ne_of_gt hlS⟩
        have hval : ∀ (i : Nat) (v : Value), items[i]? = some v → ∃ k t, ns[i]? = some k ∧ v = .int k t := fun i v hv => by
          have hi : i < ns.length := by rw [← hisz]; exact (Array.getElem?_eq_some_iff.mp hv).1
          obtain ⟨t, e⟩ := IntsAre.int_at hit i v (by rw [Array.getElem?_toList]; exact hv)
          exact ⟨ns[i], t, List.getElem?_eq_getElem hi, by rw [e, List.getD_eq_getElem?_getD, List.getElem?_eq_getElem hi]; rfl⟩
        refine set_update_ints ((Walks.list hh3 _ l hneI items).toS) s.heap.objs.size hSf ns hisz hb hval (items.size - 0) 0 _ (by omega) (Nat.zero_le _) ⟨⟨_, Heap.get?_push_size _ rfl, rfl, rfl⟩, (hl1.push _)⟩ ?hS0 ?hR
        case hS0 =>
          have hget : ((s.heap.push (set0 w)).push { cls := .type "list_iterator", data := .fields #[.ref l, .int 0 0] }).get? s.heap.objs.size = some (set0 w) := Heap.get?_push_of_some _ hS
          exact ⟨0, Nat.le_refl 0, setR_new_at hget⟩
        case hR =>
          intro s' c' hm hc' hS'
          obtain ⟨h', g2, d', tk', os'⟩ := s'
          have eg : g2 = s.gens := hm.gens; have ed : d' = s.drawn := hm.drawn; have eo : os' = s.os := hm.os; subst eg; subst ed; subst eo
          show wpAny _ _ _ _ _ _; refine wpAny_pure ?_; show wpAny _ _ (ret Value.none) _ _ _; rw [hisz] at hc'
          refine wpAny_pure ⟨rfl, h', tk', c', rfl, hS', hc', fun b o e => ?_⟩
          have hb0 : b < s.heap.objs.size := Heap.lt_size e; have hb1 : b ≠ s.heap.objs.size := Nat.ne_of_lt hb0
          have hb2 : b ≠ (s.heap.push (set0 w)).objs.size := by rw [Heap.size_push]; exact Nat.ne_of_lt (Nat.lt_succ_of_lt hb0)
          exact hm.heap b o (by simp only [List.mem_cons, List.not_mem_nil, or_false, not_or]; exact ⟨hb1, hb2⟩) (Heap.get?_push_of_some _ (Heap.get?_push_of_some _ e))
      · cases r₂ with
        | error e => exact hr₂
        | ok fl₂ =>
          cases fl₂ with
          | ret r =>
            obtain ⟨rfl, h', tk, c2, rfl, hS', hc2, hk'⟩ := hr₂; repeat (any_goals (first | assumption | wp_step))
            exact h _ _ _ hS' hc2 hk'
          | _ => exact hr₂.elim
    | _ => exact hr.elim
end
section
variable {X : Cx} {W : Wd} {C : Calls} {Wx : WX}
def rSetI (K : PySem.W.Frag) (w : World) : List V → Hp → VK → Prop := fun xs H Q => ∃ (l : Addr) (ns : List Int), xs = [.ref l] ∧ H l = some (.lst (ns.map V.int)) ∧ ns.length < 60 ∧ ∀ p c, H p = none → c ≤ ns.length → Q (.ref p) (upd H p (SetO w p (fun j => decide (j ∈ ns)) c))
theorem c_setI (hc : X.calm = true) : CallR X (.type "set") (rSetI X.K X.w) := by
  intro pins s σ H xs us Q I r h
  obtain ⟨l, ns, rfl, hl, hn, q⟩ := h
  obtain ⟨u, rfl, ru⟩ := vals1 r
  cases ru
  obtain ⟨hz, its, n, rv, hob⟩ := I.hok l _ hl
  refine set_ints ns (I.ok.hd hc) ⟨_, hob, rfl, n, rfl⟩ (by simpa using rv.ints) (by unfold scanBound; omega) fun h' tk c hS hcn hk => ?_
  exact ⟨.ref s.heap.objs.size, upd H s.heap.objs.size (SetO X.w s.heap.objs.size (fun j => decide (j ∈ ns)) c), I.laid (t' := tk) hk (Nat.le_refl _) (setO_new hS), rfl, q _ c (I.hok.fresh (Nat.le_refl _)) hcn⟩
theorem strict_uniq : ∀ {l m : List Int}, l.Pairwise (· < ·) → m.Pairwise (· < ·) → (∀ k, k ∈ l ↔ k ∈ m) → l = m
  | [], [], _, _, _ => rfl
  | [], y :: m, _, _, h => absurd ((h y).mpr List.mem_cons_self) (by simp)
  | x :: l, [], _, _, h => absurd ((h x).mp List.mem_cons_self) (by simp)
  | x :: l, y :: m, h1, h2, h => by
    have a1 := List.pairwise_cons.mp h1
    have a2 := List.pairwise_cons.mp h2
    have e : x = y := by
      rcases List.mem_cons.mp ((h x).mp List.mem_cons_self) with e | hx
      · exact e
      · rcases List.mem_cons.mp ((h y).mpr List.mem_cons_self) with e | hy
        · exact e.symm
        · exact absurd (a1.1 y hy) (Int.not_lt.mpr (Int.le_of_lt (a2.1 x hx)))
    subst e
    congr 1
    refine strict_uniq a1.2 a2.2 fun k => ⟨fun hk => ?_, fun hk => ?_⟩
    · rcases List.mem_cons.mp ((h k).mp (List.mem_cons_of_mem _ hk)) with e | z
      · subst e; exact absurd (a1.1 k hk) (Int.lt_irrefl k)
      · exact z
    · rcases List.mem_cons.mp ((h k).mpr (List.mem_cons_of_mem _ hk)) with e | z
      · subst e; exact absurd (a2.1 k hk) (Int.lt_irrefl k)
      · exact z
def insI (a : Int) : List Int → List Int
  | [] => [a]
  | x :: r => match decide (a < x) with
    | true => a :: x :: r
    | false => match decide (x < a) with
      | true => x :: insI a r
      | false => x :: r
def sortI : List Int → List Int
  | [] => []
  | x :: r => insI x (sortI r)
theorem insU_map (a : Int) : ∀ l : List Int, insU (.int a) (l.map Val.int) = (insI a l).map Val.int
  | [] => rfl
  | x :: r => by
    show (match vlt (.int a) (.int x) with | true => Val.int a :: Val.int x :: r.map Val.int | false => (match vlt (.int x) (.int a) with | true => Val.int x :: insU (.int a) (r.map Val.int) | false => Val.int x :: r.map Val.int)) =
      (match decide (a < x) with | true => a :: x :: r | false => (match decide (x < a) with | true => x :: insI a r | false => x :: r)).map Val.int
    rw [vlt_int, vlt_int, insU_map a r]
    cases decide (a < x) <;> cases decide (x < a) <;> rfl
theorem sortU_map : ∀ l : List Int, sortU (l.map Val.int) = (sortI l).map Val.int
  | [] => rfl
  | x :: r => by
    show insU (.int x) (sortU (r.map Val.int)) = (insI x (sortI r)).map Val.int
    rw [sortU_map r, insU_map]
theorem insI_mem (a k : Int) : ∀ l : List Int, k ∈ insI a l ↔ k = a ∨ k ∈ l
  | [] => by simp [insI]
  | x :: r => by
    unfold insI
    by_cases h1 : a < x
    · rw [decide_eq_true h1]; simp
    · rw [decide_eq_false h1]
      by_cases h2 : x < a
      · rw [decide_eq_true h2]
        simp only [List.mem_cons, insI_mem a k r]
        constructor
        · rintro (h | h | h) <;> simp [h]
        · rintro (h | h | h) <;> simp [h]
      · rw [decide_eq_false h2]
        have e : a = x := by omega
        subst e
        simp
theorem insI_pw (a : Int) : ∀ {l : List Int}, l.Pairwise (· < ·) → (insI a l).Pairwise (· < ·)
  | [], _ => List.pairwise_singleton _ _
  | x :: r, h => by
    have q := List.pairwise_cons.mp h
    unfold insI
    by_cases h1 : a < x
    · rw [decide_eq_true h1]
      refine List.pairwise_cons.mpr ⟨fun b hb => ?_, h⟩
      rcases List.mem_cons.mp hb with e | hb
      · rw [e]; exact h1
      · have := q.1 b hb; omega
    · rw [decide_eq_false h1]
      by_cases h2 : x < a
      · rw [decide_eq_true h2]
        refine List.pairwise_cons.mpr ⟨fun b hb => ?_, insI_pw a q.2⟩
        rcases (insI_mem a b r).mp hb with e | hb
        · rw [e]; exact h2
        · exact q.1 b hb
      · rw [decide_eq_false h2]; exact h
theorem sortI_mem (k : Int) : ∀ l : List Int, k ∈ sortI l ↔ k ∈ l
  | [] => by simp [sortI]
  | x :: r => by
    show k ∈ insI x (sortI r) ↔ _
    rw [insI_mem, sortI_mem k r, List.mem_cons]
theorem sortI_pw : ∀ l : List Int, (sortI l).Pairwise (· < ·)
  | [] => List.Pairwise.nil
  | x :: r => insI_pw x (sortI_pw r)
theorem rel_ints {r : Pl} {H : Hp} : ∀ ms : List Int, RelL W r H (ms.map Val.int) (ms.map V.int)
  | [] => rfl
  | m :: ms => ⟨_, _, rfl, rfl, rel_ints ms⟩
/-- sorted(set(e)), ints -/
theorem e_sortedSet {e : Expr} {ie : E} {p1 p2 p3 p4 : Pos} (hc : X.calm = true) (hg : Gl X "sorted") (hm : X.mg "sorted" = none) (hg2 : Gl X "set") (hm2 : X.mg "set" = none) (he : PE X e (dE W C Wx ie))
    (hs : starEach [e] X.env = (false, eval e X.env) :: starEach [] X.env := by rfl) (hpl : (backTo p3 (starEach [] X.env)).any (·.1) = false := by rfl)
    (hs' : starEach [.Call (.Name "set" p2) [e] [] p3] X.env = (false, eval (.Call (.Name "set" p2) [e] [] p3) X.env) :: starEach [] X.env := by rfl) (hpl' : (backTo p4 (starEach [] X.env)).any (·.1) = false := by rfl) :
    PE X (.Call (.Name "sorted" p1) [.Call (.Name "set" p2) [e] [] p3] [] p4) (dE W C Wx (.bi .sortedSet (.cons ie .nil))) := by
  refine peI (pe_callB (cr_sortedSet hc) hg hm (by decide +kernel) (pa_cons (pe_callTy (c_setI hc) hg2 hm2 (by decide +kernel) (pa_cons he pa_nil hs) (by decide) (by decide) hs hpl) pa_nil hs') (by decide) (by decide) hs' hpl') fun σ H Q ⟨r, st, env, p, q, g⟩ => ?_
  have g : Good W (((ev C ie env st).bind fun x st1 => .ok (.tup [x]) st1).bind fun x st1 => match x with | .tup as => biV .sortedSet as st1 | _ => .no) r H Q fun k H' => EX W Wx k σ H' := g
  refine ⟨r, st, env, p, q, ?_⟩
  cases h1 : ev C ie env st with
  | no => rw [h1] at g; exact g
  | exc k st1 => rw [h1] at g; exact g
  | ok v st1 =>
    rw [h1] at g
    intro r1 H1 x e1 p1 q1
    have g : Good W (match items st1 v with | some xs => (match allInt xs && Nat.blt xs.length 60 with | true => .ok (.tl (sortU xs)) st1 | false => .no) | none => .no) r1 H1 Q fun k H' => EX W Wx k σ H' := Good.ext e1 g
    cases h2 : items st1 v with
    | none => rw [h2] at g; exact g.elim
    | some xs =>
      rw [h2] at g
      have g : Good W (match allInt xs && Nat.blt xs.length 60 with | true => .ok (.tl (sortU xs)) st1 | false => .no) r1 H1 Q fun k H' => EX W Wx k σ H' := g
      cases h3 : allInt xs && Nat.blt xs.length 60 with
      | false => rw [h3] at g; exact g.elim
      | true =>
        rw [h3] at g
        obtain ⟨i1, i2⟩ := Bool.and_eq_true_iff.mp h3
        obtain ⟨ns, rfl⟩ := allInt_map i1
        have hn : ns.length < 60 := by
          have z := Nat.le_of_ble_eq_true i2
          rw [List.length_map] at z
          exact z
        obtain ⟨l, ws, rfl, hl, ql⟩ := items_rel p1 h2 q1
        have ew := relL_ints ql
        subst ew
        refine ⟨l, ns, rfl, hl, hn, fun a c ha hcn => ?_⟩
        refine ⟨a, _, c, rfl, upd_same, by omega, fun ms b hpw hmem hlen hb => ?_⟩
        have es : sortI ns = ms := strict_uniq (sortI_pw ns) hpw fun k => by rw [sortI_mem, hmem k, decide_eq_true_eq]
        have x1 : Ext r1 H1 r1 (upd H1 a (SetO X.w a (fun j => decide (j ∈ ns)) c)) := .new ha
        have p2 := p1.new (o := SetO X.w a (fun j => decide (j ∈ ns)) c) ha
        refine g r1 _ _ (x1.trans (.new hb)) (p2.new hb) ⟨b, ms.map V.int, rfl, p2.nfree hb, upd_same, ?_⟩
        rw [sortU_map, es]
        exact rel_ints ms
end
end G

end

section
/-! A def that is called with the exception that is handled. -/
namespace G
open PySem PySem.Spec PyProof.Rows L2 L2H HotX
/-- a def's body, entered in an except suite: p is the exception -/
theorem hot_fn {CX : CXT} {P : Program} {w : World} {K : PySem.W.Frag} {mg : Str → Option Value} {base : Heap} {k : Nat} {f : Addr} {name qual : Str} {params : Arguments} {body : List Stmt} {scope : Scope} {dV kV doc pm cdv ct oc : Value} {an od : Option Addr}
    {osl : Array (Option Value)} {N ps : List Str} {A : Around} {outer : List PySem.Env} {s : Shared} {H : Hp} {args : Args} {us : List Value} {vs : List V} {Q : VK} {E : XK} {p : Addr × Obj} {t : TS}
    (lk : K.lookup f = some ⟨oc, od, .func (PySem.W.fnOf name qual params body scope dV kV doc pm an cdv ct), osl⟩) (hcd : PySem.W.codeIn K cdv qual = true) (Sc : FnScope N ps scope) (hl : vs.length = ps.length)
    (hr : RoomH (k + 1) A) (hpin : PinOk outer H s p) (e0 : Env0 P w K mg base A outer s H) (hb : BindsTo s (PySem.W.fnOf name qual params body scope dV kV doc pm an cdv ct) args (ps.zip us)) (r : Vals vs us)
    (ht : PSs (cxH CX P w K mg base N qual scope f cdv A outer s H E p) body t) (hq : t { nx := fun _ H' => Q .non H', rt := Q } (L2.start N vs) H) : codeAny (model P w) A (.call (.ref f) args) (CR CX outer P w H s Q E) s := by
  have kx : K.In s.heap := e0.mod.kin.keeps fun b o e => (e0.bs b o e).1
  have lm : s.heap.NoLimit := e0.mod.nolimit.keeps fun b o e => (e0.bs b o e).1
  have hk : ∀ y ∈ ps.zip us, scope.names.lookup y.1 = some .local ∨ (scope.names.lookup y.1 = some .cell ∧ ((cellsFrom (s.heap.objs.size + 1) scope.names []).lookup y.1).isSome = true) := fun y hy =>
    (Sc.par y.1 (List.of_mem_zip (show (y.1, y.2) ∈ ps.zip us from hy)).1).elim (fun q => .inl q) fun q => .inr ⟨q, PySem.W.cellsFrom_some _ _ _ (.inl q)⟩
  refine codeAny_call_function hr.depth (kx _ _ lk) rfl Sc.co Sc.gen rfl (PySem.W.codeRec_of kx hcd) (hb _ _ _ _ (wpAny_newFunctionEnv_cells Sc.kind hk fun env he s1 x => ?_))
  subst he
  have I : Inv (cxH CX P w K mg base N qual scope f cdv A outer s H E p) [] (L2.start N vs) H s1 := inv_startH Sc hpin e0 hl r x
  refine ⟨lm.keeps x.toInCall.keep, codeAny_func (wpAny_mono (ht.run [] s1 (L2.start N vs) H _ I hq) (fun fl s' hs => ?_) fun e s' hs => hs)⟩
  cases fl with
  | ret u => obtain ⟨v, σ', H', J, rv, q⟩ := hs; exact ⟨v, H', J.os, J.bare, J.base, J.hok, rv, q⟩
  | next => obtain ⟨σ', H', J, q⟩ := hs; exact ⟨.non, H', J.os, J.bare, J.base, J.hok, rfl, q⟩
  | brk => obtain ⟨_, _, _, q⟩ := hs; exact q.elim
  | cont => obtain ⟨_, _, _, q⟩ := hs; exact q.elim
section
variable {X : Cx}
/-- isinstance(e, c), e pinned -/
theorem is_pin {p : Addr × Obj} {D : Addr} (hp : p ∈ X.pn) (C : ExcC X.K D) (hz : Zc (.ref D) none p.2) (hf : ∃ vs, p.2.data = .fields vs) : CallR X (.builtin "isinstance") (rIsE X.K D p.1) := by
  intro pins s σ H xs us Q I r h
  obtain ⟨c, cv, b, rfl, hcv, e, q⟩ := h
  obtain ⟨u1, u2, rfl, rx, rt⟩ := vals2 r
  cases rx
  cases hcv _ rt
  obtain ⟨hg, _⟩ := I.pin p (List.mem_append.mpr (.inl hp))
  obtain ⟨a, ⟨oc, od, oda, osl⟩⟩ := p
  obtain ⟨vs, hv⟩ := hf
  obtain ⟨z1, z2⟩ := hz
  simp only at z1 z2 hv hg
  subst z1 z2 hv
  have J : PySem.W.InstAt s.heap a ⟨.ref D, none, .fields vs, osl⟩ D none := ⟨hg, rfl, rfl, trivial⟩
  exact PySem.W.kia_one (PySem.W.handS_kitx_exc C.hg C.hk C.hs C.hd C.ha C.hn C.ht C.hm) I.kIn J e (fun z => nomatch z) fun tk => ⟨.bl b, H, I.kept (t' := tk) fun _ _ z => z, rfl, q⟩
end
end G

end

section
/-! count and index of truth values; what the text's error classes say. -/
namespace G
open PySem PySem.Spec PyProof.Rows L2 L2H HotX
def isT (v : Value) : Bool := match v with
  | .bool b => b
  | _ => false
theorem isT_at {A : Around} {s : Shared} : ∀ {bs : List Bool} {us : List Value}, Vals (bs.map V.bl) us → ∀ y ∈ us, SeqAt.EqAt A s y (.bool true) (isT y)
  | [], _, .nil, y, hy => by cases hy
  | b :: bs, _ :: us, .cons r t, y, hy => by
    rcases List.mem_cons.mp hy with e | e
    · subst e
      cases r
      have z := eqAt_V (A := A) (s := s) (y := .bl b) (x := .bl true) rfl rfl rfl rfl
      cases b <;> exact z
    · exact isT_at t y e
theorem isT_count : ∀ {bs : List Bool} {us : List Value}, Vals (bs.map V.bl) us → us.countP isT = bs.count true
  | [], _, .nil => rfl
  | b :: bs, _ :: us, .cons r t => by
    cases r
    rw [List.countP_cons, List.count_cons, isT_count t]
    cases b <;> rfl
section
variable {X : Cx}
theorem m_bcount : MtR X "list.count" (fun x xs H Q => ∃ (p : Addr) (bs : List Bool), x = .ref p ∧ xs = [.bl true] ∧ H p = some (.lst (bs.map V.bl)) ∧ Q (.int (bs.count true : Nat)) H) := by
  intro pins s σ H x xs v us Q I rx rxs h
  obtain ⟨p, bs, rfl, rfl, hs, q⟩ := h
  cases rx
  obtain ⟨u, rfl, ru⟩ := rxs.one
  cases ru
  obtain ⟨hz, its, n, rv, ho⟩ := I.hok p _ hs
  refine call_meets PySem.F.slot_list_count ⟨_, ho, rfl⟩ PySem.F.entry_list_count (PySem.F.args_list_count_2 _ _) (SeqAt.list_countAt p its.toArray n none #[] (.bool true) isT) ⟨ho, fun y hy => isT_at rv y (by simpa using hy), ?_⟩
  have ec : its.toArray.toList.countP isT = bs.count true := isT_count rv
  refine ⟨.int (bs.count true : Nat), H, I.tok _, ⟨s.toks, ?_⟩, q⟩
  show Value.int ((its.toArray.toList.countP isT : Nat) : Int) s.toks = _
  rw [ec]
end
/-- what the module says of its error classes -/
structure Wh (K : PySem.W.Frag) (mg : Str → Option Value) (W : Wd) (me : Addr) : Prop where
  g0 : mg "InvalidGrid" = some (.ref (W.xa 0))
  g1 : mg "InvalidMirror" = some (.ref (W.xa 1))
  g2 : mg "InvalidSet" = some (.ref (W.xa 2))
  g3 : mg "InvalidPlace" = some (.ref (W.xa 3))
  g4 : mg "InvalidNumber" = some (.ref (W.xa 4))
  g5 : mg "InvalidPicture" = some (.ref (W.xa 5))
  g6 : mg "NothingToUndo" = some (.ref (W.xa 6))
  g7 : mg "ParseError" = some (.ref (W.xa 7))
  gm : mg "MirrorError" = some (.ref me)
  ve : mg "ValueError" = none
  isi : mg "isinstance" = none
  ex : ∀ k, k < 8 → ExcC K (W.xa k)
  kit : ∀ k, k < 8 → ∀ j, j < 8 → PySem.W.kitOne K (.ref (W.xa k)) (.ref (W.xa j)) = some (Nat.beq k j)
  kv : ∀ k, k < 8 → PySem.W.kitOne K (.ref (W.xa k)) (.type "ValueError") = some true
  ct : ∀ k, k < 8 → PySem.W.exmOne K (.ref (W.xa k)) (.ref me) = some true
/-- a row of truth values with one True -/
def oneT (k : Nat) : List Bool := (List.range 8).map fun j => Nat.beq k j
theorem dpAll_bools {K : PySem.W.Frag} {H : Hp} : ∀ bs : List Bool, DpAll K H (bs.map V.bl) (bs.map PyData.bool)
  | [] => .nil
  | b :: bs => .cons (.bl b) (dpAll_bools bs)
theorem eight {k : Nat} (h : k < 8) : k = 0 ∨ k = 1 ∨ k = 2 ∨ k = 3 ∨ k = 4 ∨ k = 5 ∨ k = 6 ∨ k = 7 := by omega
theorem oneT_ds {k : Nat} (h : k < 8) : SeqAt.shaped (.list ((oneT k).map PyData.bool)) = true ∧ ((oneT k).map PyData.bool)[k]? = some (.bool true) := by
  rcases eight h with rfl | rfl | rfl | rfl | rfl | rfl | rfl | rfl <;> exact ⟨rfl, rfl⟩
theorem oneT_no {k m : Nat} (h : k < 8) (hm : m < k) {z : PyData} (e : ((oneT k).map PyData.bool)[m]? = some z) : PyData.eqv z (.bool true) = false := by
  have hm8 : m < 8 := by omega
  rcases eight h with rfl | rfl | rfl | rfl | rfl | rfl | rfl | rfl <;> rcases eight hm8 with rfl | rfl | rfl | rfl | rfl | rfl | rfl | rfl <;> first | omega | (cases e; rfl)
theorem oneT_count : ∀ k, k < 8 → (oneT k).count true = 1 := by decide
end G

end

section
/-! try .. except MirrorError as e: return _law_which(e) -/
namespace G
open PySem PySem.Spec PyProof.Rows L2 L2H HotX
/-- the def keeps its promise where the exception p is handled -/
def WhichOk (P : Program) (w : World) (K : PySem.W.Frag) (mg : Str → Option Value) (base : Heap) (W : Wd) (f : Addr) (fd : FuncData) : Prop :=
  ∀ (k : Nat) (A : Around) (outer : List PySem.Env) (s : Shared) (H : Hp) (Q : VK) (p : Addr × Obj) (args : Args), k < 8 → RoomH 1 A → Hot1 A p → PinOk outer H s p → Env0 P w K mg base A outer s H → BindsTo s fd args [("e", .ref p.1)] →
    Zc (.ref (W.xa k)) none p.2 → (∃ vs, p.2.data = .fields vs) → (∀ q H', (∀ b o, H b = some o → H' b = some o) → H' q = some (.tup [.str "raised", .int (k : Nat)]) → Q (.ref q) H') →
    codeAny (model P w) A (.call (.ref f) args) (CR (L2N.CX P w) outer P w H s Q fun _ _ _ => False) s
theorem no_cx2 {P : Program} {w : World} {outer : List PySem.Env} {H : Hp} {s : Shared} {e : Value} {s' : Shared} (h : L2N.CX P w outer H s (fun _ _ _ => False) e s') : False := by
  obtain ⟨_, _, _, _, _, _, _, _, _, _, _, _, z⟩ := h
  exact z
section
variable {X : Cx} {W : Wd} {C : Calls} {Wx : WX}
/-- return _law_which(e), in the suite -/
theorem s_which {i k : Nat} {a f : Addr} {oe : Obj} {fd : FuncData} {pn : List (Addr × Obj)} {q p2 pos pos2 : Pos} (wk : WhichOk X.prog X.w X.K X.mg X.base W f fd) (hr : RoomH 1 (X.suite a ((a, oe) :: pn)).A) (hot : Hot1 (X.suite a ((a, oe) :: pn)).A (a, oe)) (hg : Gl (X.suite a ((a, oe) :: pn)) "_law_which") (hm : X.mg "_law_which" = some (.ref f)) (hkp : PySem.W.keepIn X.K (.ref f) = true) (hb : Binds X.K fd ["e"] [])
    (hv : PE (X.suite a ((a, oe) :: pn)) (.Name "e" p2) (tVar i)) (hs : starEach [.Name "e" p2] (X.suite a ((a, oe) :: pn)).env = (false, eval (.Name "e" p2) (X.suite a ((a, oe) :: pn)).env) :: starEach [] (X.suite a ((a, oe) :: pn)).env) (hpl : (backTo pos (starEach [] (X.suite a ((a, oe) :: pn)).env)).any (·.1) = false)
    (hz : Zc (.ref (W.xa k)) none oe) (hf : ∃ vs, oe.data = .fields vs) (hk : k < 8) :
    PSs (X.suite a ((a, oe) :: pn)) [.Return (some (.Call (.Name "_law_which" q) [.Name "e" p2] [] pos)) pos2] (fun D σ H => σ[i]? = some (some (.ref a)) ∧ ∀ q H', (∀ b o, H b = some o → H' b = some o) → H' q = some (.tup [.str "raised", .int (k : Nat)]) → D.rt (.ref q) H') := by
  have pe : PE (X.suite a ((a, oe) :: pn)) (.Call (.Name "_law_which" q) [.Name "e" p2] [] pos) (fun σ H Q => σ[i]? = some (some (.ref a)) ∧ ∀ q H', (∀ b o, H b = some o → H' b = some o) → H' q = some (.tup [.str "raised", .int (k : Nat)]) → Q (.ref q) H') := by
    refine ⟨fun pins s σ H Q I h => ?_⟩
    refine wpAny_Call_Name_kw (ld_glob I hg hm ?_ (by decide))
    have ha : PA (X.suite a ((a, oe) :: pn)) [.Name "e" p2] (tCons (tVar i) tNil) := pa_cons hv pa_nil hs
    refine PySem.W.callWith_K (h₀ := (X.suite a ((a, oe) :: pn)).base) I.ok.mod.kin hkp (thn (ha.run pos pins s σ H (fun vs H1 => vs = [V.ref a] ∧ H1 = H) I ⟨_, h.1, rfl, rfl⟩) fun us s1 hh => ?_) hs hpl
    obtain ⟨vs, H1, I1, r1, e1, e2⟩ := hh
    subst e1 e2
    obtain ⟨u, rfl, ru⟩ := vals1 r1
    cases ru
    refine ⟨I1.kIn, ?_⟩
    have P1 := I1.pin (a, oe) (List.mem_append_left _ List.mem_cons_self)
    have hpin : PinOk (X.suite a ((a, oe) :: pn)).stack H1 s1 (a, oe) := ⟨P1.1, P1.2.1, fun hm => (List.mem_cons.mp (I1.stkSub a hm)).elim P1.2.2.1 P1.2.2.2.1, P1.2.2.2.2⟩
    have b := hb s1 [.ref a] I1.kIn rfl
    refine wpAny_call (codeAny_mono (wk k _ (X.suite a ((a, oe) :: pn)).stack s1 H1 Q (a, oe) ⟨[.ref a], []⟩ hk hr hot hpin I1.env0 b hz hf h.2) fun r s' hq => ?_)
    cases r with
    | error e => exact (no_cx2 hq).elim
    | ok fl =>
      cases fl with
      | ret u => exact I1.after hq
      | next => exact hq.elim
      | brk => exact hq.elim
      | cont => exact hq.elim
  exact pss_one (ps_ret pe)
theorem s_try {body : List Stmt} {b : S} {i n : Nat} {me f : Addr} {fd : FuncData} {np q p2 pos pos2 pos' pos0 : Pos} (hs0 : X.stack = X.env :: X.outer) (hf0 : X.env.frame = some X.env.locals) (hN : X.N.Nodup) (hi : X.N[i]? = some "e") (hln : X.env.kindOf "e" = some .local)
    (wh : Wh X.K X.mg W me) (hgm : Gl X "MirrorError") (wk : WhichOk X.prog X.w X.K X.mg X.base W f fd) (hr : Room (n + 1) X.A) (hg : Gl X "_law_which") (hm : X.mg "_law_which" = some (.ref f)) (hkp : PySem.W.keepIn X.K (.ref f) = true) (hbd : Binds X.K fd ["e"] []) (tk : TakesN X Wx)
    (hv : ∀ (a : Addr) (oe : Obj) (pn : List (Addr × Obj)), PE (X.suite a ((a, oe) :: pn)) (.Name "e" p2) (tVar i)) (hs : starEach [.Name "e" p2] X.env = (false, eval (.Name "e" p2) X.env) :: starEach [] X.env) (hpl : (backTo pos (starEach [] X.env)).any (·.1) = false)
    (hb : ∀ (Wx' : WX) (pn : List (Addr × Obj)) (xe : Value → Shared → Prop), TakesN (X.tr pn xe) Wx' → PassesOwn (model X.prog X.w) X.A X.env xe → PSs (X.tr pn xe) body (dS W C Wx' b)) :
    PS X (.Try body [.ExceptHandler (some (.Name "MirrorError" np)) (some "e") [.Return (some (.Call (.Name "_law_which" q) [.Name "e" p2] [] pos)) pos2] pos'] [] [] pos0) (dS W C Wx (.try i b)) := by
  refine psI (L2N.ps_try_as (ts := fun a cls d => fun D σ H => ∃ k, k < 8 ∧ cls = .ref (W.xa k) ∧ d = none ∧ σ[i]? = some (some (.ref a)) ∧ ∀ q H', (∀ b o, H b = some o → H' b = some o) → H' q = some (.tup [.str "raised", .int (k : Nat)]) → D.rt (.ref q) H') (tb := fun Wx' => dS W C Wx' b) (Wout := Wx) hs0 hf0 hN hi hln ⟨hgm, by decide, .inl wh.gm⟩ tk hb fun a oe cls d pn hz hf => ?_) fun D σ H ⟨r, st, env, p, q, g⟩ => ?_
  · refine ⟨fun pins s σ H D I h => ?_⟩
    obtain ⟨k, hk, rfl, rfl, h1, h2⟩ := h
    obtain ⟨vs, hvs⟩ := hf
    have rm : RoomH 1 X.A := (roomH_of hr).mono (by omega)
    exact (s_which (W := W) wk ⟨rm.dp, rm.un⟩ ⟨rfl, vs, hvs, hz.2.2 vs hvs⟩ hg hm hkp hbd (hv a oe pn) hs hpl hz.zc ⟨vs, hvs⟩ hk).run pins s σ H D I ⟨h1, h2⟩
  · refine ⟨r, st, env, p, q, ?_⟩
    have g : GoodS W (match Nat.blt i env.length with | true => (match ex C b env st with | .exc k st' => (match Nat.blt k 8 with | true => .ret (.tup [.str [114, 97, 105, 115, 101, 100], .int (.ofNat k)]) st' | false => .no) | .nx e' st' => .nx e' st' | .ret v st' => .ret v st' | .bk e' st' => .bk e' st' | .no => .no) | false => .no) r H σ.length D (EX W Wx) := g
    have hil0 : i < σ.length := by
      rw [← q.len]
      cases hx : Nat.blt i env.length with
      | true => exact Nat.le_of_ble_eq_true hx
      | false => rw [hx] at g; exact g.elim
    have hx : Nat.blt i env.length = true := Nat.ble_eq_true_of_le (by rw [q.len]; exact hil0)
    rw [hx] at g
    have g : GoodS W (match ex C b env st with | .exc k st' => (match Nat.blt k 8 with | true => .ret (.tup [.str [114, 97, 105, 115, 101, 100], .int (.ofNat k)]) st' | false => .no) | .nx e' st' => .nx e' st' | .ret v st' => .ret v st' | .bk e' st' => .bk e' st' | .no => .no) r H σ.length D (EX W Wx) := g
    cases h : ex C b env st with
    | nx e1 st1 => rw [h] at g; exact g
    | ret v st1 => rw [h] at g; exact g
    | bk e1 st1 => rw [h] at g; exact g
    | no => rw [h] at g; exact g
    | exc k st1 =>
      rw [h] at g
      have g : GoodS W (match Nat.blt k 8 with | true => .ret (.tup [.str [114, 97, 105, 115, 101, 100], .int (.ofNat k)]) st1 | false => .no) r H σ.length D (EX W Wx) := g
      cases hb8 : Nat.blt k 8 with
      | false => rw [hb8] at g; exact g.elim
      | true =>
        rw [hb8] at g
        have hk : k < 8 := Nat.le_of_ble_eq_true hb8
        intro r1 H1 σ1 e1 p1 l1
        refine ⟨true, wh.ct k hk, fun _ a ha => ⟨k, hk, rfl, rfl, ?_, fun q2 H2 k2 h2 => ?_⟩, fun z => nomatch z⟩
        · have hil : i < σ1.length := by rw [l1]; exact hil0
          exact List.getElem?_set_self hil
        · refine g r1 H2 (.ref q2) (ext_more e1 k2) (rep_more p1 k2) ⟨q2, _, rfl, h2, _, _, rfl, ⟨by decide +kernel, by decide, by decide⟩, _, _, rfl, rfl, rfl⟩
end
end G

end

section
/-! What a text with `except MirrorError as e: return _law_which(e)` has of its own. -/
namespace G
open PySem PySem.Spec PyProof.Rows L2 L2H HotX
theorem kit_ref {K : PySem.W.Frag} {a b : Addr} {v : Bool} (hc : PySem.W.isClsIn K b = true) (ht : PySem.W.typeIn K (.ref b) = some (.type "type")) (hs : PySem.W.subIn K (.ref a) (.ref b) = some v) : PySem.W.kitCls K (.ref a) (.ref b) = some v := by
  show (if ((PySem.W.clsIn K b).isSome && PySem.W.typeIn K (.ref b) == some (.type "type")) = true then PySem.W.subIn K (.ref a) (.ref b) else none) = some v
  have h1 : (PySem.W.clsIn K b).isSome = true := hc
  rw [h1, ht, if_pos (by simp)]
  exact hs
theorem kit_one {K : PySem.W.Frag} {a b : Addr} {v : Bool} (he : (a = b) → v = true) (hc : PySem.W.isClsIn K b = true) (ht : PySem.W.typeIn K (.ref b) = some (.type "type")) (hs : PySem.W.subIn K (.ref a) (.ref b) = some v) : PySem.W.kitOne K (.ref a) (.ref b) = some v := by
  unfold PySem.W.kitOne
  by_cases h : ((Value.ref a == Value.ref b) = true)
  · rw [if_pos h]
    have : a = b := by
      have := beq_iff_eq.mp h
      injection this
    rw [he this]
  · rw [if_neg h]
    exact kit_ref hc ht hs
/-- of one of the eight classes (the k-th, at x), the base at me -/
structure ExF (K : PySem.W.Frag) (me : Addr) (k : Nat) (x x0 x1 x2 x3 x4 x5 x6 x7 : Addr) : Prop where
  c : PySem.W.isClsIn K x = true
  g : PySem.W.findIn K (.ref x) "__getattribute__" = some (some (.builtin "BaseException.__getattribute__"))
  k_ : PySem.W.findIn K (.ref x) "__getattr__" = some none
  d : PySem.W.hasDictIn K x = true
  a : PySem.W.findIn K (.ref x) "__class__" = some (some (.builtin "object.__class__"))
  m : PySem.W.mroIn K x (.type "object") = some true
  v : PySem.W.subIn K (.ref x) (.type "ValueError") = some true
  e : PySem.W.subIn K (.ref x) (.ref me) = some true
  s0 : PySem.W.subIn K (.ref x) (.ref x0) = some (Nat.beq k 0)
  s1 : PySem.W.subIn K (.ref x) (.ref x1) = some (Nat.beq k 1)
  s2 : PySem.W.subIn K (.ref x) (.ref x2) = some (Nat.beq k 2)
  s3 : PySem.W.subIn K (.ref x) (.ref x3) = some (Nat.beq k 3)
  s4 : PySem.W.subIn K (.ref x) (.ref x4) = some (Nat.beq k 4)
  s5 : PySem.W.subIn K (.ref x) (.ref x5) = some (Nat.beq k 5)
  s6 : PySem.W.subIn K (.ref x) (.ref x6) = some (Nat.beq k 6)
  s7 : PySem.W.subIn K (.ref x) (.ref x7) = some (Nat.beq k 7)
/-- of the base and of all -/
structure ExB (K : PySem.W.Frag) (me : Addr) : Prop where
  c : PySem.W.isClsIn K me = true
  t : PySem.W.typeIn K (.ref me) = some (.type "type")
  b : PySem.W.subIn K (.ref me) (.type "BaseException") = some true
  hn : PySem.W.specialIn K (.builtin "object.__class__") "__get__" = some (some (.builtin "getset_descriptor.__get__"))
  ht : PySem.W.takesIn K (.builtin "object.__class__") = some true
theorem nd8 {x0 x1 x2 x3 x4 x5 x6 x7 : Addr} (nd : [x0, x1, x2, x3, x4, x5, x6, x7].Nodup) {k j : Nat} (hk : k < 8) (hj : j < 8) {f : Addr} (h : [x0, x1, x2, x3, x4, x5, x6, x7].getD k f = [x0, x1, x2, x3, x4, x5, x6, x7].getD j f) : Nat.beq k j = true := by
  have e : ∀ i (hi : i < 8), [x0, x1, x2, x3, x4, x5, x6, x7].getD i f = [x0, x1, x2, x3, x4, x5, x6, x7][i]'(by simpa using hi) := fun i hi => by
    rcases eight hi with rfl | rfl | rfl | rfl | rfl | rfl | rfl | rfl <;> rfl
  rw [e k hk, e j hj] at h
  have hp := List.pairwise_iff_getElem.mp nd
  have hkj : k = j := by
    rcases Nat.lt_trichotomy k j with q | q | q
    · exact absurd h (hp k j (by simpa using hk) (by simpa using hj) q)
    · exact q
    · exact absurd h.symm (hp j k (by simpa using hj) (by simpa using hk) q)
  rw [hkj]
  exact Nat.beq_refl j
theorem wh_mk {K : PySem.W.Frag} {mg : Str → Option Value} {W : Wd} {me f x0 x1 x2 x3 x4 x5 x6 x7 : Addr} (hW : W.xa = fun i => [x0, x1, x2, x3, x4, x5, x6, x7].getD i f) (nd : [x0, x1, x2, x3, x4, x5, x6, x7].Nodup)
    (g0 : mg "InvalidGrid" = some (.ref x0)) (g1 : mg "InvalidMirror" = some (.ref x1)) (g2 : mg "InvalidSet" = some (.ref x2)) (g3 : mg "InvalidPlace" = some (.ref x3)) (g4 : mg "InvalidNumber" = some (.ref x4)) (g5 : mg "InvalidPicture" = some (.ref x5)) (g6 : mg "NothingToUndo" = some (.ref x6)) (g7 : mg "ParseError" = some (.ref x7))
    (gm : mg "MirrorError" = some (.ref me)) (ve : mg "ValueError" = none) (isi : mg "isinstance" = none) (B : ExB K me)
    (t0 : PySem.W.typeIn K (.ref x0) = some (.type "type")) (t1 : PySem.W.typeIn K (.ref x1) = some (.type "type")) (t2 : PySem.W.typeIn K (.ref x2) = some (.type "type")) (t3 : PySem.W.typeIn K (.ref x3) = some (.type "type")) (t4 : PySem.W.typeIn K (.ref x4) = some (.type "type")) (t5 : PySem.W.typeIn K (.ref x5) = some (.type "type")) (t6 : PySem.W.typeIn K (.ref x6) = some (.type "type")) (t7 : PySem.W.typeIn K (.ref x7) = some (.type "type"))
    (b0 : PySem.W.subIn K (.ref x0) (.type "BaseException") = some true) (b1 : PySem.W.subIn K (.ref x1) (.type "BaseException") = some true) (b2 : PySem.W.subIn K (.ref x2) (.type "BaseException") = some true) (b3 : PySem.W.subIn K (.ref x3) (.type "BaseException") = some true) (b4 : PySem.W.subIn K (.ref x4) (.type "BaseException") = some true) (b5 : PySem.W.subIn K (.ref x5) (.type "BaseException") = some true) (b6 : PySem.W.subIn K (.ref x6) (.type "BaseException") = some true) (b7 : PySem.W.subIn K (.ref x7) (.type "BaseException") = some true)
    (e0 : ExF K me 0 x0 x0 x1 x2 x3 x4 x5 x6 x7) (e1 : ExF K me 1 x1 x0 x1 x2 x3 x4 x5 x6 x7) (e2 : ExF K me 2 x2 x0 x1 x2 x3 x4 x5 x6 x7) (e3 : ExF K me 3 x3 x0 x1 x2 x3 x4 x5 x6 x7) (e4 : ExF K me 4 x4 x0 x1 x2 x3 x4 x5 x6 x7) (e5 : ExF K me 5 x5 x0 x1 x2 x3 x4 x5 x6 x7) (e6 : ExF K me 6 x6 x0 x1 x2 x3 x4 x5 x6 x7) (e7 : ExF K me 7 x7 x0 x1 x2 x3 x4 x5 x6 x7) : Wh K mg W me := by
  have ef : ∀ k, k < 8 → ExF K me k (W.xa k) x0 x1 x2 x3 x4 x5 x6 x7 := fun k hk => by
    rw [hW]
    rcases eight hk with rfl | rfl | rfl | rfl | rfl | rfl | rfl | rfl <;> assumption
  have eb : ∀ k, k < 8 → PySem.W.subIn K (.ref (W.xa k)) (.type "BaseException") = some true := fun k hk => by
    rw [hW]
    rcases eight hk with rfl | rfl | rfl | rfl | rfl | rfl | rfl | rfl <;> assumption
  have et : ∀ k, k < 8 → PySem.W.typeIn K (.ref (W.xa k)) = some (.type "type") := fun k hk => by
    rw [hW]
    rcases eight hk with rfl | rfl | rfl | rfl | rfl | rfl | rfl | rfl <;> assumption
  refine ⟨by rw [hW]; exact g0, by rw [hW]; exact g1, by rw [hW]; exact g2, by rw [hW]; exact g3, by rw [hW]; exact g4, by rw [hW]; exact g5, by rw [hW]; exact g6, by rw [hW]; exact g7, gm, ve, isi, ?_, ?_, ?_, ?_⟩
  · intro k hk
    have E := ef k hk
    exact ⟨E.g, E.k_, eb k hk, E.d, E.a, B.hn, B.ht, E.m⟩
  · intro k hk j hj
    refine kit_one (fun h => ?_) (ef j hj).c (et j hj) ?_
    · rw [hW] at h
      exact nd8 nd hk hj h
    · have E := ef k hk
      obtain ⟨_, _, _, _, _, _, _, _, s0, s1, s2, s3, s4, s5, s6, s7⟩ := E
      conv in (W.xa j) => rw [hW]
      rcases eight hj with rfl | rfl | rfl | rfl | rfl | rfl | rfl | rfl <;> assumption
  · intro k hk
    unfold PySem.W.kitOne
    rw [if_neg (by intro z; cases beq_iff_eq.mp z)]
    show (if PySem.W.kitMeta "ValueError" = true then _ else none) = _
    rw [if_pos (by decide +kernel)]
    exact (ef k hk).v
  · intro k hk
    unfold PySem.W.exmOne
    rw [B.b, if_pos (by simp)]
    exact kit_ref B.c B.t (ef k hk).e
/-- what s_try wants -/
structure TryOk (P : Program) (w : World) (K : PySem.W.Frag) (mg : Str → Option Value) (base : Heap) (W : Wd) : Prop where
  ex : ∃ (me f : Addr) (fd : FuncData), Wh K mg W me ∧ WhichOk P w K mg base W f fd ∧ mg "_law_which" = some (.ref f) ∧ PySem.W.keepIn K (.ref f) = true ∧ Binds K fd ["e"] []
section
variable {X : Cx} {W : Wd} {C : Calls} {Wx : WX}
theorem x_try {body : List Stmt} {b : S} (i : Nat) {n : Nat} {np q p2 pos pos2 pos' pos0 : Pos} (t : TryOk X.prog X.w X.K X.mg X.base W) (hN : X.N.Nodup) (hr : Room (n + 1) X.A) (tk : TakesN X Wx)
    (hb : ∀ (Wx' : WX) (pn : List (Addr × Obj)) (xe : Value → Shared → Prop), TakesN (X.tr pn xe) Wx' → PassesOwn (model X.prog X.w) X.A X.env xe → PSs (X.tr pn xe) body (dS W C Wx' b))
    (hv : ∀ (a : Addr) (oe : Obj) (pn : List (Addr × Obj)), PE (X.suite a ((a, oe) :: pn)) (.Name "e" p2) (tVar i))
    (hs0 : X.stack = X.env :: X.outer := by rfl) (hf0 : X.env.frame = some X.env.locals := by rfl) (hi : X.N[i]? = some "e" := by rfl) (hln : X.env.kindOf "e" = some .local := by rfl) (hgm : Gl X "MirrorError" := by rfl) (hg : Gl X "_law_which" := by rfl)
    (hs : starEach [.Name "e" p2] X.env = (false, eval (.Name "e" p2) X.env) :: starEach [] X.env := by rfl) (hpl : (backTo pos (starEach [] X.env)).any (·.1) = false := by rfl) :
    PS X (.Try body [.ExceptHandler (some (.Name "MirrorError" np)) (some "e") [.Return (some (.Call (.Name "_law_which" q) [.Name "e" p2] [] pos)) pos2] pos'] [] [] pos0) (dS W C Wx (.try i b)) := by
  obtain ⟨me, f, fd, wh, wk, gw, kw, bw⟩ := t.ex
  exact s_try hs0 hf0 hN hi hln wh hgm wk hr hg gw kw bw tk hv hs hpl hb
end
end G

end

section
/-! max, min, sum. -/
namespace G
open PySem PySem.Spec PyProof.Rows L2
theorem maxI_of : ∀ {ns : List Int} {m : Int}, maxI (ns.map Val.int) = some m → 0 < ns.length ∧ m ∈ ns ∧ ∀ y ∈ ns, y ≤ m
  | [], m, h => by cases h
  | [i], m, h => by
    cases h
    exact ⟨by simp, by simp, by simp⟩
  | i :: j :: r, m, h => by
    have h : (match maxI ((j :: r).map Val.int) with | some s => some (if ilt i s then s else i) | none => none) = some m := h
    cases k : maxI ((j :: r).map Val.int) with
    | none => rw [k] at h; cases h
    | some t =>
      rw [k] at h
      obtain ⟨_, h1, h2⟩ := maxI_of k
      have h : some (if ilt i t then t else i) = some m := h
      rw [ilt_eq] at h
      injection h with h
      by_cases c : i < t
      · simp only [c, decide_true, if_true] at h
        subst h
        refine ⟨by simp, List.mem_cons_of_mem _ h1, fun y hy => ?_⟩
        rcases List.mem_cons.mp hy with e | e
        · omega
        · exact h2 y e
      · simp only [c, decide_false, Bool.false_eq_true, if_false] at h
        subst h
        refine ⟨by simp, List.mem_cons_self, fun y hy => ?_⟩
        rcases List.mem_cons.mp hy with e | e
        · omega
        · have := h2 y e; omega
theorem minI_of : ∀ {ns : List Int} {m : Int}, minI (ns.map Val.int) = some m → 0 < ns.length ∧ m ∈ ns ∧ ∀ y ∈ ns, m ≤ y
  | [], m, h => by cases h
  | [i], m, h => by
    cases h
    exact ⟨by simp, by simp, by simp⟩
  | i :: j :: r, m, h => by
    have h : (match minI ((j :: r).map Val.int) with | some s => some (if ilt s i then s else i) | none => none) = some m := h
    cases k : minI ((j :: r).map Val.int) with
    | none => rw [k] at h; cases h
    | some t =>
      rw [k] at h
      obtain ⟨_, h1, h2⟩ := minI_of k
      have h : some (if ilt t i then t else i) = some m := h
      rw [ilt_eq] at h
      injection h with h
      by_cases c : t < i
      · simp only [c, decide_true, if_true] at h
        subst h
        refine ⟨by simp, List.mem_cons_of_mem _ h1, fun y hy => ?_⟩
        rcases List.mem_cons.mp hy with e | e
        · omega
        · exact h2 y e
      · simp only [c, decide_false, Bool.false_eq_true, if_false] at h
        subst h
        refine ⟨by simp, List.mem_cons_self, fun y hy => ?_⟩
        rcases List.mem_cons.mp hy with e | e
        · omega
        · have := h2 y e; omega
theorem maxI_int : ∀ {xs : List Val} {m : Int}, maxI xs = some m → ∃ ns : List Int, xs = ns.map Val.int
  | [], m, h => by cases h
  | [.int i], m, h => ⟨[i], rfl⟩
  | .int i :: y :: r, m, h => by
    have h : (match maxI (y :: r) with | some s => some (if ilt i s then s else i) | none => none) = some m := h
    cases k : maxI (y :: r) with
    | none => rw [k] at h; cases h
    | some t =>
      obtain ⟨ns, e⟩ := maxI_int k
      exact ⟨i :: ns, by rw [e]; rfl⟩
  | .non :: r, m, h => by cases r <;> cases h
  | .bl _ :: r, m, h => by cases r <;> cases h
  | .str _ :: r, m, h => by cases r <;> cases h
  | .tup _ :: r, m, h => by cases r <;> cases h
  | .tl _ :: r, m, h => by cases r <;> cases h
  | .td _ _ _ :: r, m, h => by cases r <;> cases h
  | .ref _ :: r, m, h => by cases r <;> cases h
  | .fn _ :: r, m, h => by cases r <;> cases h
  | .scr :: r, m, h => by cases r <;> cases h
theorem minI_int : ∀ {xs : List Val} {m : Int}, minI xs = some m → ∃ ns : List Int, xs = ns.map Val.int
  | [], m, h => by cases h
  | [.int i], m, h => ⟨[i], rfl⟩
  | .int i :: y :: r, m, h => by
    have h : (match minI (y :: r) with | some s => some (if ilt s i then s else i) | none => none) = some m := h
    cases k : minI (y :: r) with
    | none => rw [k] at h; cases h
    | some t =>
      obtain ⟨ns, e⟩ := minI_int k
      exact ⟨i :: ns, by rw [e]; rfl⟩
  | .non :: r, m, h => by cases r <;> cases h
  | .bl _ :: r, m, h => by cases r <;> cases h
  | .str _ :: r, m, h => by cases r <;> cases h
  | .tup _ :: r, m, h => by cases r <;> cases h
  | .tl _ :: r, m, h => by cases r <;> cases h
  | .td _ _ _ :: r, m, h => by cases r <;> cases h
  | .ref _ :: r, m, h => by cases r <;> cases h
  | .fn _ :: r, m, h => by cases r <;> cases h
  | .scr :: r, m, h => by cases r <;> cases h
theorem sumI_int : ∀ {xs : List Val} {m : Int}, sumI xs = some m → ∃ ns : List Int, xs = ns.map Val.int ∧ m = ns.sum
  | [], m, h => by cases h; exact ⟨[], rfl, rfl⟩
  | .int i :: r, m, h => by
    have h : (match sumI r with | some s => some (i + s) | none => none) = some m := h
    cases k : sumI r with
    | none => rw [k] at h; cases h
    | some t =>
      rw [k] at h
      cases h
      obtain ⟨ns, e, e2⟩ := sumI_int k
      exact ⟨i :: ns, by rw [e]; rfl, by rw [List.sum_cons, e2]⟩
  | .non :: r, m, h => by cases h
  | .bl _ :: r, m, h => by cases h
  | .str _ :: r, m, h => by cases h
  | .tup _ :: r, m, h => by cases h
  | .tl _ :: r, m, h => by cases h
  | .td _ _ _ :: r, m, h => by cases h
  | .ref _ :: r, m, h => by cases h
  | .fn _ :: r, m, h => by cases h
  | .scr :: r, m, h => by cases h
theorem holds_inv {h : Heap} {v : Value} {n : Int} (H : PySem.W.Holds h v n) : ∃ t, v = .int n t := by
  obtain ⟨as, r⟩ := H
  cases r with
  | int i t => exact ⟨t, rfl⟩
section
variable {X : Cx} {W : Wd} {C : Calls} {Wx : WX}
theorem b_max2 (hc : X.calm = true) : CallR X (.builtin "max") (rBi W .max2) := by
  intro pins s σ H xs us Q I rv ⟨r, st, as, E, p, q, g⟩
  match as, q, g with
  | [.int i, .int j], q, g =>
    rw [q.i2] at rv
    have g : Good W (.ok (.int (if ilt i j then j else i)) st) r H Q E := g
    refine call_max2 hc pins s σ H _ us Q I rv ⟨i, j, rfl, ?_⟩
    have e : (if j > i then j else i) = (if ilt i j then j else i) := by
      rw [ilt_eq]
      by_cases h : i < j
      · have h' : j > i := h
        simp [h, h']
      · have h' : ¬ j > i := h
        simp [h, h']
    rw [e]
    exact g r H _ .refl p rfl
  | [], _, g => exact (show False from g).elim
  | [_], _, g => exact (show False from g).elim
  | .int i :: .non :: [], _, g => exact (show False from g).elim
  | .int i :: .bl _ :: [], _, g => exact (show False from g).elim
  | .int i :: .str _ :: [], _, g => exact (show False from g).elim
  | .int i :: .tup _ :: [], _, g => exact (show False from g).elim
  | .int i :: .tl _ :: [], _, g => exact (show False from g).elim
  | .int i :: .td _ _ _ :: [], _, g => exact (show False from g).elim
  | .int i :: .ref _ :: [], _, g => exact (show False from g).elim
  | .int i :: .fn _ :: [], _, g => exact (show False from g).elim
  | .int i :: .scr :: [], _, g => exact (show False from g).elim
  | .non :: _ :: [], _, g => exact (show False from g).elim
  | .bl _ :: _ :: [], _, g => exact (show False from g).elim
  | .str _ :: _ :: [], _, g => exact (show False from g).elim
  | .tup _ :: _ :: [], _, g => exact (show False from g).elim
  | .tl _ :: _ :: [], _, g => exact (show False from g).elim
  | .td _ _ _ :: _ :: [], _, g => exact (show False from g).elim
  | .ref _ :: _ :: [], _, g => exact (show False from g).elim
  | .fn _ :: _ :: [], _, g => exact (show False from g).elim
  | .scr :: _ :: [], _, g => exact (show False from g).elim
  | [_, _, _], _, g => exact (show False from g).elim
  | [_, _, _, _], _, g => exact (show False from g).elim
  | _ :: _ :: _ :: _ :: _ :: _, _, g => exact (show False from g).elim
theorem b_maxL (hc : X.calm = true) (hu : X.A.units + 65 < cLine) : CallR X (.builtin "max") (rBi W .maxL) := by
  refine bi1 (not1 _ (fun _ _ _ => rfl) fun _ _ _ _ _ => rfl) fun a x r st E pins s σ H us Q I rv p q g => ?_
  have li : ∀ {o : Option (List Val)}, o = items st a → Good W (match o with | some xs => (match maxI xs with | some i => .ok (.int i) st | none => .no) | none => .no) r H Q E → wpAny (model X.prog X.w) X.A (call (.builtin "max") us) (EP X pins σ Q) X.xe s := by
    intro o ho g
    cases o with
    | none => exact g.elim
    | some xs =>
      have g2 : Good W (match maxI xs with | some i => .ok (.int i) st | none => .no) r H Q E := g
      cases hm : maxI xs with
      | none => rw [hm] at g2; exact g2.elim
      | some m =>
        rw [hm] at g2
        obtain ⟨ns, rfl⟩ := maxI_int hm
        obtain ⟨h0, h1, h2⟩ := maxI_of hm
        obtain ⟨l, ws, rfl, hl, ql⟩ := items_rel p ho.symm q
        cases relL_ints ql
        refine cr_max hc pins s σ H _ us Q I rv ⟨l, ns, rfl, .of hl, h0, fun m' k1 k2 => ?_⟩
        have : m' = m := Int.le_antisymm (h2 m' k1) (k2 m h1)
        rw [this]
        exact g2 r H _ .refl p rfl
  cases a with
  | tup xs =>
    match xs, q, g with
    | [.int i, .int j], q, g =>
      obtain ⟨l, ys, rfl, hl, ql⟩ := q
      cases ql.i2
      have g : Good W (.ok (.int (if ilt i j then j else i)) st) r H Q E := g
      rw [Vals.ref1 rv]
      obtain ⟨its, rw', ⟨o, ho, hoc, n, hod⟩, hz⟩ := I.tuple (SqT.of hl)
      refine PySem.W.max_tuple_datum (α := Int) (x := i) (xs := [j]) (I.ok.hd hc) ⟨o, ho, hoc, n, hod⟩ (.of_ints (Vals.ints (show Vals ([i, j].map V.int) its.toArray.toList from by simpa using rw'))) (by show X.A.units + 1 + 0 < cLine; omega) fun k v h' tk hk hv hkeep => ?_
      obtain ⟨t, rfl⟩ := holds_inv hv
      refine ⟨.int _, H, I.kept hkeep, ⟨t, rfl⟩, ?_⟩
      have e : PySem.W.maxOf i [j] = (if ilt i j then j else i) := by
        show (if PySem.W.DatumOrd.lt i j = true then j else i) = _
        rw [ilt_eq]
        rfl
      rw [e]
      exact g r H _ .refl p rfl
    | [], _, g => exact (show False from g).elim
    | [.int _], _, g => exact (show False from g).elim
    | .non :: _, _, g => exact (show False from g).elim
    | .bl _ :: _, _, g => exact (show False from g).elim
    | .str _ :: _, _, g => exact (show False from g).elim
    | .tup _ :: _, _, g => exact (show False from g).elim
    | .tl _ :: _, _, g => exact (show False from g).elim
    | .td _ _ _ :: _, _, g => exact (show False from g).elim
    | .ref _ :: _, _, g => exact (show False from g).elim
    | .fn _ :: _, _, g => exact (show False from g).elim
    | .scr :: _, _, g => exact (show False from g).elim
    | .int i :: .non :: _, _, g => exact (show False from g).elim
    | .int i :: .bl _ :: _, _, g => exact (show False from g).elim
    | .int i :: .str _ :: _, _, g => exact (show False from g).elim
    | .int i :: .tup _ :: _, _, g => exact (show False from g).elim
    | .int i :: .tl _ :: _, _, g => exact (show False from g).elim
    | .int i :: .td _ _ _ :: _, _, g => exact (show False from g).elim
    | .int i :: .ref _ :: _, _, g => exact (show False from g).elim
    | .int i :: .fn _ :: _, _, g => exact (show False from g).elim
    | .int i :: .scr :: _, _, g => exact (show False from g).elim
    | .int i :: .int j :: _ :: _, _, g => exact (show False from g).elim
  | non => exact li rfl g
  | bl _ => exact li rfl g
  | int _ => exact li rfl g
  | str _ => exact li rfl g
  | tl _ => exact li rfl g
  | td _ _ _ => exact li rfl g
  | ref _ => exact li rfl g
  | fn _ => exact li rfl g
  | scr => exact li rfl g
theorem b_minL (hc : X.calm = true) (hu : X.A.units + 65 < cLine) : CallR X (.builtin "min") (rBi W .minL) := by
  refine bi1 (not1 _ (fun _ _ _ => rfl) fun _ _ _ _ _ => rfl) fun a x r st E pins s σ H us Q I rv p q g => ?_
  have li : ∀ {o : Option (List Val)}, o = items st a → Good W (match o with | some xs => (match minI xs with | some i => .ok (.int i) st | none => .no) | none => .no) r H Q E → wpAny (model X.prog X.w) X.A (call (.builtin "min") us) (EP X pins σ Q) X.xe s := by
    intro o ho g
    cases o with
    | none => exact g.elim
    | some xs =>
      have g2 : Good W (match minI xs with | some i => .ok (.int i) st | none => .no) r H Q E := g
      cases hm : minI xs with
      | none => rw [hm] at g2; exact g2.elim
      | some m =>
        rw [hm] at g2
        obtain ⟨ns, rfl⟩ := minI_int hm
        obtain ⟨h0, h1, h2⟩ := minI_of hm
        obtain ⟨l, ws, rfl, hl, ql⟩ := items_rel p ho.symm q
        cases relL_ints ql
        refine cr_min hc pins s σ H _ us Q I rv ⟨l, ns, rfl, .of hl, h0, fun m' k1 k2 => ?_⟩
        have : m' = m := Int.le_antisymm (k2 m h1) (h2 m' k1)
        rw [this]
        exact g2 r H _ .refl p rfl
  cases a with
  | tup xs =>
    match xs, q, g with
    | [.int i, .int j], q, g =>
      obtain ⟨l, ys, rfl, hl, ql⟩ := q
      cases ql.i2
      have g : Good W (.ok (.int (if ilt j i then j else i)) st) r H Q E := g
      rw [Vals.ref1 rv]
      obtain ⟨its, rw', ⟨o, ho, hoc, n, hod⟩, hz⟩ := I.tuple (SqT.of hl)
      refine PySem.W.min_tuple_datum (α := Int) (x := i) (xs := [j]) (I.ok.hd hc) ⟨o, ho, hoc, n, hod⟩ (.of_ints (Vals.ints (show Vals ([i, j].map V.int) its.toArray.toList from by simpa using rw'))) (by show X.A.units + 1 + 0 < cLine; omega) fun k v h' tk hk hv hkeep => ?_
      obtain ⟨t, rfl⟩ := holds_inv hv
      refine ⟨.int _, H, I.kept hkeep, ⟨t, rfl⟩, ?_⟩
      have e : PySem.W.minOf i [j] = (if ilt j i then j else i) := by
        show (if PySem.W.DatumOrd.lt j i = true then j else i) = _
        rw [ilt_eq]
        rfl
      rw [e]
      exact g r H _ .refl p rfl
    | [], _, g => exact (show False from g).elim
    | [.int _], _, g => exact (show False from g).elim
    | .non :: _, _, g => exact (show False from g).elim
    | .bl _ :: _, _, g => exact (show False from g).elim
    | .str _ :: _, _, g => exact (show False from g).elim
    | .tup _ :: _, _, g => exact (show False from g).elim
    | .tl _ :: _, _, g => exact (show False from g).elim
    | .td _ _ _ :: _, _, g => exact (show False from g).elim
    | .ref _ :: _, _, g => exact (show False from g).elim
    | .fn _ :: _, _, g => exact (show False from g).elim
    | .scr :: _, _, g => exact (show False from g).elim
    | .int i :: .non :: _, _, g => exact (show False from g).elim
    | .int i :: .bl _ :: _, _, g => exact (show False from g).elim
    | .int i :: .str _ :: _, _, g => exact (show False from g).elim
    | .int i :: .tup _ :: _, _, g => exact (show False from g).elim
    | .int i :: .tl _ :: _, _, g => exact (show False from g).elim
    | .int i :: .td _ _ _ :: _, _, g => exact (show False from g).elim
    | .int i :: .ref _ :: _, _, g => exact (show False from g).elim
    | .int i :: .fn _ :: _, _, g => exact (show False from g).elim
    | .int i :: .scr :: _, _, g => exact (show False from g).elim
    | .int i :: .int j :: _ :: _, _, g => exact (show False from g).elim
  | non => exact li rfl g
  | bl _ => exact li rfl g
  | int _ => exact li rfl g
  | str _ => exact li rfl g
  | tl _ => exact li rfl g
  | td _ _ _ => exact li rfl g
  | ref _ => exact li rfl g
  | fn _ => exact li rfl g
  | scr => exact li rfl g
theorem b_sum (hc : X.calm = true) : CallR X (.builtin "sum") (rBi W .sum) := by
  refine bi1 (not1 _ (fun _ _ _ => rfl) fun _ _ _ _ _ => rfl) fun a x r st E pins s σ H us Q I rv p q g => ?_
  have g : Good W (match seqOf st a with | some xs => (match sumI xs with | some i => .ok (.int i) st | none => .no) | none => .no) r H Q E := g
  cases ho : seqOf st a with
  | none => rw [ho] at g; exact g.elim
  | some xs =>
    rw [ho] at g
    have g2 : Good W (match sumI xs with | some i => .ok (.int i) st | none => .no) r H Q E := g
    cases hm : sumI xs with
    | none => rw [hm] at g2; exact g2.elim
    | some m =>
      rw [hm] at g2
      obtain ⟨ns, rfl, rfl⟩ := sumI_int hm
      obtain ⟨l, ws, rfl, hl, ql⟩ := seqOf_rel p ho q
      cases relL_ints ql
      rcases hl with hl | hl
      · exact cr_sum hc pins s σ H _ us Q I rv ⟨l, ns, rfl, .of hl, g2 r H _ .refl p rfl⟩
      · rw [Vals.ref1 rv]
        obtain ⟨its, rw', ⟨o, ho, hoc, n, hod⟩, hz⟩ := I.tuple (SqT.of hl)
        have hi : IntsAre its ns := Vals.ints rw'
        have tl : s.heap.IsTuple l its.toArray := ⟨o, ho, hoc, n, hod⟩
        obtain ⟨ps, hx⟩ := hi.allInts.items
        have hn : numsOf its.toArray.toList = ns := hi.numsOf
        rw [hx] at tl hn
        rw [nums_intItems] at hn
        refine PySem.W.ktm_sumG (I.ok.hd hc) tl fun h' tk t' hk => ⟨.int ns.sum, H, I.kept hk, ⟨t', ?_⟩, g2 r H _ .refl p rfl⟩
        rw [preSum_eq, List.take_of_length_le (by simp), hn]
end
end G

end

section
/-! A comprehension within a comprehension. -/
namespace G
open PySem PySem.Spec PyProof.Rows L2
theorem lookup_rel {env : PySem.Env} (x : Str) : ∀ names : List (Str × NameKind), (names.lookup x = some .cell ∨ names.lookup x = some .free) →
    ((names.map fun (n, k) => if (k == NameKind.free && env.scope.kind == .function && env.kindOf n == some .cell) then (n, NameKind.cell) else (n, k)).lookup x = some .cell ∨
      (names.map fun (n, k) => if (k == NameKind.free && env.scope.kind == .function && env.kindOf n == some .cell) then (n, NameKind.cell) else (n, k)).lookup x = some .free)
  | [], h => by simp at h
  | (n, k) :: r, h => by
    rw [List.map_cons]
    dsimp only
    by_cases e : x = n
    · subst e
      have hk : k = .cell ∨ k = .free := by simpa [List.lookup] using h
      rcases hk with rfl | rfl
      · left
        rw [if_neg (by rw [show (NameKind.cell == NameKind.free) = false from by decide]; simp)]
        simp [List.lookup]
      · by_cases c : (NameKind.free == NameKind.free && env.scope.kind == .function && env.kindOf x == some .cell) = true
        · left
          rw [if_pos c]
          simp [List.lookup]
        · right
          rw [if_neg c]
          simp [List.lookup]
    · have hb : (x == n) = false := by simpa using e
      have h' : r.lookup x = some .cell ∨ r.lookup x = some .free := by simpa [List.lookup, hb] using h
      have ih := lookup_rel (env := env) x r h'
      by_cases c : (k == NameKind.free && env.scope.kind == .function && env.kindOf n == some .cell) = true
      · rw [if_pos c]
        simpa only [List.lookup, hb] using ih
      · rw [if_neg c]
        simpa only [List.lookup, hb] using ih
theorem blkOk_nest {N : List Str} {sc scope : Scope} {own : List (Str × Nat)} {env : PySem.Env} (h : blkC N sc scope own = true) : BlkOk N (relabel sc env) scope own := by
  obtain ⟨h1, h2, h3, h4, h5⟩ := blkOk_by h
  refine ⟨h1, h2, h3, fun y hy e => ?_, h5⟩
  exact lookup_rel y.1 sc.names (h4 y hy e)
end G

end

section
/-! list(range(n)), tuple(range(n)), range with a step, x *= e, {k: v}, calls without arguments, keys of a dict. -/
namespace G
open PySem PySem.Spec PyProof.Rows L2
theorem upto_rg {W : Wd} {r : Pl} {H : Hp} : ∀ (n : Nat) (lo : Int), RelL W r H (upto lo n) ((List.range n).map fun i => V.int (lo + (i : Nat)))
  | 0, lo => rfl
  | n + 1, lo => by
    rw [List.range_succ_eq_map, List.map_cons, List.map_map]
    refine ⟨_, _, rfl, ?_, ?_⟩
    · show V.int (lo + ((0 : Nat) : Int)) = V.int lo
      simp
    · have h := upto_rg (W := W) (r := r) (H := H) n (lo + 1)
      have e : ((fun i : Nat => V.int (lo + (i : Nat))) ∘ Nat.succ) = fun i : Nat => V.int (lo + 1 + (i : Nat)) := by
        funext i
        show V.int (lo + ((i + 1 : Nat) : Int)) = _
        congr 1
        omega
      rw [e]
      exact h
section
variable {X : Cx} {W : Wd} {C : Calls} {Wx : WX}
theorem e_listRange {a : Expr} {ia : E} {p p2 pos pos2 : Pos} (hc : X.calm = true) (hg : Gl X "list") (hm : X.mg "list" = none) (hg2 : Gl X "range") (hm2 : X.mg "range" = none) (ha : PE X a (dE W C Wx ia)) (hs : starEach [a] X.env = (false, eval a X.env) :: starEach [] X.env := by rfl) :
    PE X (.Call (.Name "list" p) [.Call (.Name "range" p2) [a] [] pos2] [] pos) (dE W C Wx (.bi .listRange (.cons ia .nil))) := by
  refine peI (pe_listRg hc hg hm (prg_1 hg2 hm2 ha (na := hs))) fun σ H Q ⟨r, st, env, p, q, g⟩ => ?_
  have g : Good W (((ev C ia env st).bind fun x st1 => (Rs.ok (.tup []) st1).bind fun y st2 => match y with | .tup xs => .ok (.tup (x :: xs)) st2 | _ => .no).bind fun x st1 => match x with | .tup as => biV .listRange as st1 | _ => .no) r H Q fun k H' => EX W Wx k σ H' := g
  refine ⟨r, st, env, p, q, ?_⟩
  cases h1 : ev C ia env st with
  | no => rw [h1] at g; exact g
  | exc k st1 => rw [h1] at g; exact g
  | ok v st1 =>
    rw [h1] at g
    have g : Good W (biV .listRange [v] st1) r H Q fun k H' => EX W Wx k σ H' := g
    intro r1 H1 x e1 p1 q1
    cases v with
    | int i =>
      cases i with
      | ofNat k =>
        have g : Good W (match Nat.ble k 1000 with | true => .ok (.tl (upto 0 k)) st1 | false => .no) r H Q fun k H' => EX W Wx k σ H' := g
        cases hk : Nat.ble k 1000 with
        | false => rw [hk] at g; exact g.elim
        | true =>
          rw [hk] at g
          have hk : k ≤ 1000 := Nat.le_of_ble_eq_true hk
          refine ⟨.ofNat k, q1, RgOk.of_le (by omega) (by show (k : Int) ≤ _; omega) (by omega) (by show (0 : Int) ≤ (k : Int); omega), fun d hd => ?_⟩
          refine g r1 _ _ (e1.trans (.new hd)) (p1.new hd) ⟨d, _, rfl, p1.nfree hd, upd_same, ?_⟩
          have h := upto_rg (W := W) (r := r1) (H := upd H1 d (.lst (rgV 0 (.ofNat k)))) k 0
          have e : rgV 0 (Int.ofNat k) = (List.range k).map fun i => V.int (0 + (i : Nat)) := by
            unfold rgV
            rw [show ((Int.ofNat k) - 0).toNat = k from by show ((k : Int) - 0).toNat = k; omega]
          rw [e] at h ⊢
          exact h
      | negSucc k => exact (show False from g).elim
    | _ => exact (show False from g).elim
theorem e_tupleRange {a : Expr} {ia : E} {p p2 pos pos2 : Pos} (hc : X.calm = true) (hg : Gl X "tuple") (hm : X.mg "tuple" = none) (hg2 : Gl X "range") (hm2 : X.mg "range" = none) (ha : PE X a (dE W C Wx ia)) (hs : starEach [a] X.env = (false, eval a X.env) :: starEach [] X.env := by rfl) :
    PE X (.Call (.Name "tuple" p) [.Call (.Name "range" p2) [a] [] pos2] [] pos) (dE W C Wx (.bi .tupleRange (.cons ia .nil))) := by
  refine peI (pe_tupRg hc hg hm (prg_1 hg2 hm2 ha (na := hs))) fun σ H Q ⟨r, st, env, p, q, g⟩ => ?_
  have g : Good W (((ev C ia env st).bind fun x st1 => (Rs.ok (.tup []) st1).bind fun y st2 => match y with | .tup xs => .ok (.tup (x :: xs)) st2 | _ => .no).bind fun x st1 => match x with | .tup as => biV .tupleRange as st1 | _ => .no) r H Q fun k H' => EX W Wx k σ H' := g
  refine ⟨r, st, env, p, q, ?_⟩
  cases h1 : ev C ia env st with
  | no => rw [h1] at g; exact g
  | exc k st1 => rw [h1] at g; exact g
  | ok v st1 =>
    rw [h1] at g
    have g : Good W (biV .tupleRange [v] st1) r H Q fun k H' => EX W Wx k σ H' := g
    intro r1 H1 x e1 p1 q1
    cases v with
    | int i =>
      cases i with
      | ofNat k =>
        have g : Good W (match Nat.ble k 1000 with | true => .ok (.tup (upto 0 k)) st1 | false => .no) r H Q fun k H' => EX W Wx k σ H' := g
        cases hk : Nat.ble k 1000 with
        | false => rw [hk] at g; exact g.elim
        | true =>
          rw [hk] at g
          have hk : k ≤ 1000 := Nat.le_of_ble_eq_true hk
          refine ⟨.ofNat k, q1, RgOk.of_le (by omega) (by show (k : Int) ≤ _; omega) (by omega) (by show (0 : Int) ≤ (k : Int); omega), fun d hd => ?_⟩
          refine g r1 _ _ (e1.trans (.new hd)) (p1.new hd) ⟨d, _, rfl, upd_same, ?_⟩
          have h := upto_rg (W := W) (r := r1) (H := upd H1 d (.tup (rgV 0 (.ofNat k)))) k 0
          have e : rgV 0 (Int.ofNat k) = (List.range k).map fun i => V.int (0 + (i : Nat)) := by
            unfold rgV
            rw [show ((Int.ofNat k) - 0).toNat = k from by show ((k : Int) - 0).toNat = k; omega]
          rw [e] at h ⊢
          exact h
      | negSucc k => exact (show False from g).elim
    | _ => exact (show False from g).elim
/-- x *= e -/
theorem xaug_mul (i : Nat) {x : Str} {e : Expr} {ie : E} {pos pos' : Pos} (hN : X.N.Nodup) (h : PE X e (dE W C Wx ie)) (hi : X.N[i]? = some x := by rfl) (hx : Loc X.env.scope x := by first | exact Or.inl rfl | exact Or.inr rfl)
    (hf : X.fn x = true ∨ X.env.scope.names.lookup x = some .local := by first | exact .inl rfl | exact .inr rfl) : PS X (.AugAssign (.Name x pos') .Mult e pos) (dS W C Wx (.aug i .mul ie)) := by
  have ho : PIp X .Mult (rI CMul fun i j => .int (i * j)) := iop_mul
  refine psI (ps_aug hN hi hx h ho hf) fun D σ H ⟨r, st, env, p, q, g⟩ => ?_
  have g : GoodS W (match env[i]? with | some (some x) => ((ev C ie env st).run fun y st1 => (match x with | .int _ => (binV .mul x y st1).run fun z st2 => .nx (env.set i (some z)) st2 | _ => .no)) | _ => .no) r H σ.length D (EX W Wx) := g
  cases hv : env[i]? with
  | none => rw [hv] at g; exact g.elim
  | some u =>
    cases u with
    | none => rw [hv] at g; exact g.elim
    | some u =>
      rw [hv] at g
      obtain ⟨y, hy, ry⟩ := q.at_ i u hv
      refine ⟨y, hy, r, st, env, p, q, GoodS.seq g σ rfl fun v st1 r1 H1 z e1 p1 q1 g1 => ?_⟩
      cases u with
      | int k =>
        cases (show y = .int k from ry)
        cases v with
        | int j =>
          have g1 : GoodS W ((match smallI k with | true => Rs.ok (.int (k * j)) st1 | false => .no).run fun z st2 => .nx (env.set i (some z)) st2) r1 H1 σ.length D (EX W Wx) := g1
          cases hs : smallI k with
          | false => rw [hs] at g1; exact g1.elim
          | true =>
            rw [hs] at g1
            obtain ⟨b1, b2⟩ := small_of hs
            exact ⟨k, j, rfl, q1, .inl ⟨by omega, by omega⟩, g1 r1 H1 _ .refl p1 ((q.ext e1).set i (show Rel W r1 H1 (.int (k * j)) (.int (k * j)) from rfl)) (by simp)⟩
        | _ => exact (show False from g1).elim
      | _ => exact (show False from g1).elim
/-- f() -/
theorem e_call0 {k f : Nat} {x : Str} {q pos : Pos} (T : Tabs X.prog X.w X.K X.mg X.base W C k) (hr : Room k X.A) (tk : TakesN X Wx) (hg : Gl X x) (hm : X.mg x = some (.ref (W.fa f)))
    (hdb : (x == ("__debug__" : Str)) = false := by decide) : PE X (.Call (.Name x q) [] [] pos) (dE W C Wx (.call f .nil)) := by
  refine ⟨fun pins s σ H Q I ⟨r, st, env, p, q, g⟩ => ?_⟩
  refine wpAny_Call_Name_kw (ld_glob I hg hm ?_ hdb)
  exact PySem.W.callWith_K0 I.kIn (T.kp f) (run_tab (as := []) (vs := []) (us := []) T hr tk I .nil p rfl g)
/-! ### keys -/
theorem keyT_at : ∀ {ps : List (Int × Int)} {l : List (List Key)} {i : Nat} {v : Val}, RelT (ps.map prV) l → (ps.map prV)[i]? = some v → ∃ p : Int × Int, v = prV p ∧ l[i]? = some [.inl p.1, .inl p.2]
  | [], l, i, v, _, h => by simp at h
  | p :: ps, _, 0, v, ⟨k, s, xs, e, ea, hk, t⟩, h => by
    subst e
    cases ea
    cases h
    cases hk
    exact ⟨p, rfl, rfl⟩
  | p :: ps, _, i + 1, v, ⟨k, s, xs, e, ea, hk, t⟩, h => by
    subst e
    obtain ⟨p', e1, e2⟩ := keyT_at (i := i) t (by simpa using h)
    exact ⟨p', e1, by simpa using e2⟩
theorem src_keys {K : PySem.W.Frag} {r : Pl} {H : Hp} {d : Addr} {o : Obj} {ps : List (Int × Int)} {kvs : List (List Key × V)} (h : H d = some (.frz o (.dT kvs))) (f : Fre r d) (q : RelT (ps.map prV) (kvs.map (·.1))) : SrcOk W K r H (Itkt d o kvs) (.fz (ps.map prV)) := by
  have len := q.len
  rw [List.length_map, List.length_map] at len
  intro r' H' e i
  have h' := e.keep _ _ h f.1
  refine ⟨fun v hv => ?_, fun hi => ⟨h', by rw [← len]; simpa using hi⟩⟩
  have hil : i < kvs.length := by
    rw [← len]
    simpa using (List.getElem?_eq_some_iff.mp hv).1
  refine ⟨⟨h', hil⟩, fun x H'' ⟨e1, k, v', b, hk, hx, hb⟩ => ⟨.inl e1, fun st p => ?_⟩⟩
  subst e1 hx
  obtain ⟨p', rfl, hl⟩ := keyT_at q hv
  rw [List.getElem?_map, hk] at hl
  cases hl
  exact ⟨b, _, rfl, hb, _, _, rfl, rfl, _, _, rfl, rfl, rfl⟩
theorem i_keys {tg l : Expr} {i : E} (h : PE X l (dE W C Wx i)) : PI X tg l (dI W X.K C Wx (.keys i)) := by
  refine piI (pi_keys h) fun σ H R ⟨r, st, env, p, q, g⟩ => ⟨r, st, env, p, q, ?_⟩
  have g : GoodI W X.K ((ev C i env st).bind fun x st1 => match x with | .td true ks _ => (match pairI ks with | true => .ok (.tl ks) st1 | false => .no) | _ => .no) r H R fun k H' => EX W Wx k σ H' := g
  cases h1 : ev C i env st with
  | no => rw [h1] at g; exact g
  | exc k st1 => rw [h1] at g; exact g
  | ok v st1 =>
    rw [h1] at g
    intro r1 H1 x e1 p1 q1
    cases v with
    | td t ks vs =>
      cases t with
      | false => exact (show False from g).elim
      | true =>
        have g : GoodI W X.K (match pairI ks with | true => .ok (.tl ks) st1 | false => .no) r H R fun k H' => EX W Wx k σ H' := g
        cases hp : pairI ks with
        | false => rw [hp] at g; exact (show False from g).elim
        | true =>
          rw [hp] at g
          obtain ⟨ps, rfl⟩ := pairI_map hp
          obtain ⟨a, rfl, f, kvs, ⟨od, ha⟩, hk, hv⟩ := q1
          exact ⟨a, od, rfl, .inr ⟨kvs, ha, g r1 H1 _ e1 p1 (src_keys ha f hk)⟩⟩
    | _ => exact (show False from g).elim
end
end G

end

section
/-! {k: v} of one pair; range with a step; max of four; list.index. -/
namespace G
open PySem PySem.Spec PyProof.Rows L2
section
variable {X : Cx} {W : Wd} {C : Calls} {Wx : WX}
/-- {k: v}, the key a tuple -/
theorem pe_disp1 {k v : Expr} {tk tv : TE} {pos : Pos} (hu : X.A.units + 20 < cLine) (hk : PE X k tk) (hv : PE X v tv) : PE X (.Dict [some k] [v] pos) (fun σ H Q => ∀ p, H p = none → tPairs [(tk, tv)] σ (upd H p (.dT [])) fun ps H2 => ∃ x y, ps = [(x, y)] ∧
    H2 p = some (.dT []) ∧ ∃ b ks, x = .ref b ∧ H2 b = some (.tup (ks.map kV)) ∧ Q (.ref p) (upd H2 p (.dT [(ks, y)]))) := by
  refine ⟨fun pins s σ H Q I q => ?_⟩
  have hn := I.hok.fresh (Nat.le_refl s.heap.objs.size)
  have I1 := I.laid (a := s.heap.objs.size) (o := .dT []) (h' := s.heap.push { cls := .type "dict", data := .dict #[] }) (t' := s.toks) (fun _ _ z => Heap.get?_push_of_some _ z) (Nat.le_refl _) (dt_empty s.heap I.big)
  have hp : PPs X pos [some k] [v] [(tk, tv)] := pps_cons hk hv pps_nil
  have hne : pairTrees [some k] [v] X.env pos ≠ [] := fun z => by
    have := pairTrees_length [some k] [v] X.env pos rfl rfl
    rw [z] at this
    cases this
  have run := hp.run pins _ σ _ _ I1 (q _ hn)
  rw [arm_eval_Dict, zip_pairTrees [some k] [v] X.env pos rfl rfl, dictDisplay_pairs (pairTrees [some k] [v] X.env pos) hne (Nat.le_of_ble_eq_true rfl)]
  refine wpAny_bind (wpAny_standAt (wpAny_bind (wpAny_subDictH (knd := tupleKind (mixKind X.prog X.w)) (Q := fun d s' => wpAny (model X.prog X.w) X.A (pure (Value.ref d)) (EP X pins σ Q) X.xe s') ?_ (Nat.le_of_ble_eq_true rfl) (thn run fun ws s2 ⟨ps, H2, I2, rel, x, y, ep, hd, b, ks, ex, hb, q2⟩ => ?_))))
  · show X.A.units < cLine
    omega
  · subst ep ex
    cases rel with
    | @cons _ w2 _ _ rw2 rest =>
      cases rest
      obtain ⟨wk, wv⟩ := w2
      obtain ⟨r1, r2⟩ := rw2
      cases (show wk = Value.ref b from r1)
      obtain ⟨z, hs, xs, r0, dd⟩ := dt_of I2.hok hd
      cases r0
      refine ⟨[(ks, b, wv)], ⟨rfl, rfl, key_of I2.hok hb, trivial⟩, dd, fun h' tk' dd' hsame => wpAny_pure ⟨.ref s.heap.objs.size, _, ?_, rfl, q2⟩⟩
      have e : storedAllH [] [(ks, b, wv)] = [(ks, b, wv)] := rfl
      rw [e] at dd'
      obtain ⟨o, es, ep, h1, h2, h3, h4, _, h6⟩ := dd'
      refine d_write I2 (by rw [hd]; exact True.intro) hsame ⟨o, h1⟩ ⟨by rw [sizeLine_eq]; simp, hs, [(ks, b, wv)], .cons ⟨rfl, ?_, r2⟩ .nil, o, es, ep, h1, h2, h3, h4, h6⟩
      rw [upd_ne (ne_of hb hd (fun z => nomatch z))]
      exact hb
theorem e_dputT (i : Nat) {x : Str} {e2 : Expr} {v : Val} {y : V} {p1 pos : Pos} (hu : X.A.units + 65 < cLine) (hc : PE X e2 (tC y)) (hv : ∀ r H, Rel W r H v y) (hN : X.N[i]? = some x := by rfl) (hvs : Vis X.env.scope x := by first | exact Or.inl rfl | exact Or.inr (Or.inl rfl) | exact Or.inr (Or.inr rfl))
    (hd : (x == ("__debug__" : Str)) = false := by decide) (hcd : (x == ("__classdict__" : Str)) = false := by decide) : PE X (.Dict [some (.Name x p1)] [e2] pos) (dE W C Wx (.dput1 true (.var i) (.lit v))) := by
  refine peI (pe_disp1 (by omega) (pe_var hN hvs hd hcd) hc) fun σ H Q ⟨r, st, env, p, q, g⟩ => fun a ha => ?_
  have g : Good W ((match env[i]? with | some (some v) => Rs.ok v st | _ => .no).bind fun x st1 => (Rs.ok v st1).bind fun y st2 => match keyOk true x with | true => .ok (.ref st2.length) (st2 ++ [Ob.dic true [x] [y]]) | false => .no) r H Q _ := g
  cases h : env[i]? with
  | none => rw [h] at g; exact g.elim
  | some o =>
    cases o with
    | none => rw [h] at g; exact g.elim
    | some k =>
      rw [h] at g
      have g : Good W (match keyOk true k with | true => .ok (.ref st.length) (st ++ [Ob.dic true [k] [v]]) | false => .no) r H Q _ := g
      obtain ⟨kx, a1, a2⟩ := q.at_ i k h
      cases hk : keyOk true k with
      | false => rw [hk] at g; exact g.elim
      | true =>
        rw [hk] at g
        cases k with
        | tup xs =>
          have hk : allKey xs = true := hk
          obtain ⟨ks, hks⟩ := allKey_toKs hk
          obtain ⟨b, ys, rfl, hb, ql⟩ := a2
          have e := ql.keys hks
          subst e
          have hb' : upd H a (.dT []) b = some (.tup (ks.map kV)) := by rw [upd_ne (ne_of_none hb ha)]; exact hb
          refine ⟨_, a1, _, _, rfl, upd_same, b, ks, rfl, hb', ?_⟩
          rw [upd_upd]
          refine g _ _ _ (.plus p ha) (p.plus ha ⟨[(ks, y)], upd_same, ⟨ks, [], xs, rfl, rfl, hks, rfl⟩, RelL.one (hv _ _)⟩) ⟨a, rfl, ?_⟩
          rw [plus_at, if_pos rfl]
        | _ => cases hk
theorem e_dputK (i : Nat) {x : Str} {e2 : Expr} {v : Val} {y : V} {p1 pos : Pos} (hc : PE X e2 (tC y)) (hv : ∀ r H, Rel W r H v y) (hN : X.N[i]? = some x := by rfl) (hvs : Vis X.env.scope x := by first | exact Or.inl rfl | exact Or.inr (Or.inl rfl) | exact Or.inr (Or.inr rfl))
    (hd : (x == ("__debug__" : Str)) = false := by decide) (hcd : (x == ("__classdict__" : Str)) = false := by decide) : PE X (.Dict [some (.Name x p1)] [e2] pos) (dE W C Wx (.dput1 false (.var i) (.lit v))) := by
  refine peI (pe_disp (pps_cons (pe_var hN hvs hd hcd) hc pps_nil) rfl rfl (fun z => nomatch z) (Nat.le_of_ble_eq_true rfl)) fun σ H Q ⟨r, st, env, p, q, g⟩ => fun a ha => ?_
  have g : Good W ((match env[i]? with | some (some v) => Rs.ok v st | _ => .no).bind fun x st1 => (Rs.ok v st1).bind fun y st2 => match keyOk false x with | true => .ok (.ref st2.length) (st2 ++ [Ob.dic false [x] [y]]) | false => .no) r H Q _ := g
  cases h : env[i]? with
  | none => rw [h] at g; exact g.elim
  | some o =>
    cases o with
    | none => rw [h] at g; exact g.elim
    | some k =>
      rw [h] at g
      have g : Good W (match keyOk false k with | true => .ok (.ref st.length) (st ++ [Ob.dic false [k] [v]]) | false => .no) r H Q _ := g
      obtain ⟨kx, a1, a2⟩ := q.at_ i k h
      cases hk : keyOk false k with
      | false => rw [hk] at g; exact g.elim
      | true =>
        rw [hk] at g
        obtain ⟨kk, hkk⟩ := isKey_toK (show isKey k = true from hk)
        have e := a2.key hkk
        subst e
        have e1 : mergeK [] [(kk, y)] = [(kk, y)] := by simp [mergeK, putK]
        refine ⟨_, a1, upd_same, [(kk, y)], rfl, Nat.le_of_ble_eq_true rfl, ?_⟩
        rw [e1, upd_upd]
        refine g _ _ _ (.plus p ha) (p.plus ha ⟨[(kk, y)], upd_same, ⟨kk, [], rfl, hkk, rfl⟩, RelL.one (hv _ _)⟩) ⟨a, rfl, ?_⟩
        rw [plus_at, if_pos rfl]
/-! ### range with a step -/
theorem byStep_get : ∀ (n : Nat) (c lo : Int) (i : Nat), (byStep c lo n)[i]? = if i < n then some (.int (lo + (i : Nat) * c)) else none
  | 0, c, lo, i => by simp [byStep]
  | n + 1, c, lo, 0 => by simp [byStep]
  | n + 1, c, lo, i + 1 => by
    show (byStep c (lo + c) n)[i]? = _
    rw [byStep_get n c (lo + c) i]
    by_cases h : i < n
    · rw [if_pos h, if_pos (by omega)]
      congr 2
      have : ((i + 1 : Nat) : Int) * c = (i : Int) * c + c := by
        rw [Int.natCast_add, Int.add_mul]
        simp
      omega
    · rw [if_neg h, if_neg (by omega)]
theorem byStep_len : ∀ (n : Nat) (c lo : Int), (byStep c lo n).length = n
  | 0, _, _ => rfl
  | n + 1, c, lo => by
    show (byStep c (lo + c) n).length + 1 = n + 1
    rw [byStep_len n]
theorem src_rngC {K : PySem.W.Frag} {r : Pl} {H : Hp} (lo c : Int) (n : Nat) : SrcOk W K r H (Itc lo c n) (.fz (byStep c lo n)) := by
  intro r' H' e i
  refine ⟨fun v hv => ?_, fun hi => by rw [byStep_len] at hi; exact hi⟩
  rw [byStep_get] at hv
  by_cases h : i < n
  · rw [if_pos h] at hv
    cases hv
    exact ⟨h, fun x H'' ⟨e1, hx⟩ => ⟨.inl e1, fun _ _ => hx⟩⟩
  · rw [if_neg h] at hv
    cases hv
theorem i_rng3 {tg a b c : Expr} {l : E} {p pos : Pos} (hg : Gl X "range") (hm : X.mg "range" = none) (ha : PA X [a, b, c] (dA W C Wx l)) (hc : chain l = some 3 := by rfl) (hs : starEach [a, b, c] X.env = (false, eval a X.env) :: starEach [b, c] X.env := by rfl) (hpl : (backTo pos (starEach [b, c] X.env)).any (·.1) = false := by rfl) :
    PI X tg (.Call (.Name "range" p) [a, b, c] [] pos) (dI W X.K C Wx (.rng l)) := by
  refine piI (pi_range3 hg hm ha hs hpl) fun σ H R ⟨r, st, env, p, q, g⟩ => ⟨r, st, env, p, q, goodA_I hc g fun as xs st1 r1 H1 ys hf hl e1 p1 q1 k => ?_⟩
  rcases rngV_of hf with ⟨j, rfl, _⟩ | ⟨i, j, rfl, _⟩ | ⟨i, j, c, rfl, hs, rfl⟩
  · cases hl
  · cases hl
  · rw [Bool.and_eq_true, Bool.and_eq_true, Bool.and_eq_true, ilt_eq, ilt_eq, decide_eq_true_eq, decide_eq_true_eq] at hs
    obtain ⟨⟨⟨s1, s2⟩, h0⟩, h1⟩ := hs
    obtain ⟨b1, b2⟩ := small_of s1
    obtain ⟨b3, b4⟩ := small_of s2
    have hsz : Builtin.Range.rangeSize i j c = (if i < j then (j - i - 1) / c + 1 else 0) := by
      unfold Builtin.Range.rangeSize
      rw [if_pos (by omega)]
    have hd0 : i < j → 0 ≤ (j - i - 1) / c := fun h => Int.ediv_nonneg (by omega) (by omega)
    have hdl : i < j → (j - i - 1) / c ≤ j - i - 1 := fun h => Int.ediv_le_self _ (by omega)
    refine ⟨i, j, c, (if ilt i j then ((j - i - 1) / c + 1).toNat else 0), q1.i3, ⟨by omega, by omega, ?_, ?_⟩, k _ (src_rngC i c _)⟩
    · unfold Builtin.Range.small
      rw [hsz]
      simp only [Builtin.Range.rangeFitsLong, Bool.and_eq_true, Bool.or_eq_true, decide_eq_true_eq, beq_iff_eq, show c > 0 by omega, if_true]
      by_cases h : i < j
      · have := hd0 h
        have := hdl h
        have hm : 0 ≤ ((j - i - 1) / c) * c := Int.mul_nonneg (hd0 h) (by omega)
        have hm2 : ((j - i - 1) / c) * c ≤ j - i - 1 := Int.ediv_mul_le _ (by omega)
        simp only [h, if_true]
        refine ⟨⟨⟨?_, ?_⟩, ?_⟩, ?_⟩ <;> omega
      · simp only [h, if_false]
        refine ⟨⟨⟨?_, ?_⟩, ?_⟩, ?_⟩ <;> omega
    · rw [hsz, ilt_eq]
      by_cases h : i < j
      · have := hd0 h
        simp only [h, decide_true, if_true]
        omega
      · simp [h]
end
end G

end

section
/-! Dicts whose keys are tuples of places. -/
namespace G
open PySem PySem.Spec PyProof.Rows L2
def nk1 (p : Int × Int) : NestedKey := .tup [.num p.1, .num p.2]
theorem nkOf_map : ∀ ps : List (Int × Int), nkOf (ps.map prV) = some (ps.map nk1)
  | [] => rfl
  | p :: ps => by
    show (match nkOf (ps.map prV) with | some s => some (NestedKey.tup [.num p.1, .num p.2] :: s) | none => none) = _
    rw [nkOf_map ps]
    rfl
theorem nk1_inj {p q : Int × Int} (h : nk1 p = nk1 q) : p = q := by
  obtain ⟨a, b⟩ := p
  obtain ⟨c, d⟩ := q
  unfold nk1 at h
  injection h with h
  injection h with h1 h2
  injection h2 with h2 _
  injection h1 with h1
  injection h2 with h2
  simp only at h1 h2
  rw [h1, h2]
theorem map_nk_inj : ∀ {ps qs : List (Int × Int)}, ps.map nk1 = qs.map nk1 → ps = qs
  | [], [], _ => rfl
  | [], _ :: _, h => by cases h
  | _ :: _, [], h => by cases h
  | p :: ps, q :: qs, h => by
    rw [List.map_cons, List.map_cons] at h
    injection h with h1 h2
    rw [nk1_inj h1, map_nk_inj h2]
theorem eqvL_prs : ∀ ps qs : List (Int × Int), eqvL (ps.map prV) (qs.map prV) = decide (ps = qs)
  | [], [] => rfl
  | [], _ :: _ => rfl
  | _ :: _, [] => rfl
  | (a, b) :: ps, (c, d) :: qs => by
    show (match eqv (prV (a, b)) (prV (c, d)) with | true => eqvL (ps.map prV) (qs.map prV) | false => false) = _
    rw [eqvL_prs ps qs]
    have e : eqv (prV (a, b)) (prV (c, d)) = decide ((a, b) = (c, d)) := by
      simp only [prV, eqv, eqvL, ieq_eq]
      by_cases h1 : a = c <;> by_cases h2 : b = d <;> simp [h1, h2]
    rw [e]
    by_cases h1 : (a, b) = (c, d)
    · rw [decide_eq_true h1]
      by_cases h2 : ps = qs
      · rw [h1, h2]; simp
      · simp [h2]
    · rw [decide_eq_false h1]
      simp only
      exact (decide_eq_false fun z => h1 (List.cons.inj z).1).symm
section
variable {X : Cx} {W : Wd} {C : Calls} {Wx : WX} {r : Pl} {st : Sto} {H : Hp}
theorem keyN_of {k : Val} (h : keyN k = true) : ∃ ps : List (Int × Int), k = .tup (ps.map prV) := by
  cases k with
  | tup xs =>
    obtain ⟨ps, e⟩ := pairI_map (show pairI xs = true from h)
    exact ⟨ps, by rw [e]⟩
  | _ => cases h
theorem nkey_map (ps : List (Int × Int)) : nkey (.tup (ps.map prV)) = some (.tup (ps.map nk1)) := by
  show (match nkOf (ps.map prV) with | some s => some (NestedKey.tup s) | none => none) = _
  rw [nkOf_map]
/-- what is said of the keys' tuples -/
theorem nest_all {pins : List (Addr × Obj)} {s : Shared} {σ : St} (I : Inv X pins σ H s) : ∀ {ps : List (Int × Int)} {ys : List V} {us : List Value}, RelL W r H (ps.map prV) ys → Vals ys us → NestedAll s.heap (ps.map nk1) us
  | [], _, _, h, v => by
    cases (show _ = [] from h)
    cases v
    exact .nil
  | p :: ps, _, _, ⟨y, t, e, h, q⟩, v => by
    subst e
    cases v with
    | cons v1 v2 =>
      obtain ⟨a, zs, rfl, ha, ql⟩ := h
      cases ql.i2
      cases v1
      obtain ⟨its, rv, ⟨o, ho, hc, n, hd⟩, hz⟩ := I.tuple (SqT.of ha)
      obtain ⟨u1, u2, rfl, ⟨t1, e1⟩, ⟨t2, e2⟩⟩ := vals2 rv
      subst e1 e2
      refine .cons (.tup ho hc hd (.cons (.int _ _) (.cons (.int _ _) .nil))) (nest_all I q v2)
theorem depth_nk : ∀ ps : List (Int × Int), NestedKey.depthAll (ps.map nk1) ≤ 1
  | [] => Nat.zero_le _
  | p :: ps => Nat.max_le.mpr ⟨by show (NestedKey.tup [.num p.1, .num p.2]).depth ≤ 1; simp [NestedKey.depth, NestedKey.depthAll], depth_nk ps⟩
theorem nest_is {pins : List (Addr × Obj)} {s : Shared} {σ : St} (I : Inv X pins σ H s) {ps : List (Int × Int)} {b : Addr} (h : Rel W r H (.tup (ps.map prV)) (.ref b)) : (nestedKind X.prog X.w).is s.heap (.tup (ps.map nk1)) b := by
  obtain ⟨a, ys, e, ha, q⟩ := h
  cases e
  obtain ⟨its, rv, ⟨o, ho, hc, n, hd⟩, hz⟩ := I.tuple (SqT.of ha)
  refine ⟨.tup ho hc hd (by simpa using nest_all I q rv), ?_⟩
  show NestedKey.depthAll (ps.map nk1) + 1 ≤ 8
  have := depth_nk ps
  omega
theorem nd_of {pins : List (Addr × Obj)} {s : Shared} {σ : St} (I : Inv X pins σ H s) {a : Addr} {ks : List Val} {xs : List (NestedKey × Addr × Value)} (h : H a = some (NDo X.prog X.w a xs)) (q : RelN W r H ks xs) : s.heap.DictOfH (nestedKind X.prog X.w) a xs := by
  obtain ⟨⟨o, es, ep, h1, h2, h3, h4, h5⟩, _⟩ := (I.hok a _ h)
  refine ⟨o, es, ep, h1, h2, h3, h4, ?_, h5⟩
  have all : ∀ {ks : List Val} {xs : List (NestedKey × Addr × Value)}, RelN W r H ks xs → ∀ x ∈ xs, (nestedKind X.prog X.w).is s.heap x.1 x.2.1 := by
    intro ks
    induction ks with
    | nil => intro xs q x hx; cases (show xs = [] from q); cases hx
    | cons k ks ih =>
      intro xs ⟨y, t, e, hk, hq, q⟩ x hx
      subst e
      rcases List.mem_cons.mp hx with e | hx
      · subst e
        cases k with
        | tup vs =>
          have hk' : (match nkOf vs with | some s => some (NestedKey.tup s) | none => none) = some x.1 := hk
          have hp : ∃ ps : List (Int × Int), vs = ps.map prV := by
            have : ∀ vs : List Val, (nkOf vs).isSome = true → ∃ ps : List (Int × Int), vs = ps.map prV := by
              intro vs
              induction vs with
              | nil => exact fun _ => ⟨[], rfl⟩
              | cons v vs ihv =>
                intro h
                match v, h with
                | .tup [.int i, .int j], h =>
                  have h : (match nkOf vs with | some s => some (NestedKey.tup [.num i, .num j] :: s) | none => none).isSome = true := h
                  cases hn : nkOf vs with
                  | none => rw [hn] at h; cases h
                  | some s =>
                    obtain ⟨ps, e⟩ := ihv (by rw [hn]; rfl)
                    exact ⟨(i, j) :: ps, by rw [e]; rfl⟩
            cases hn : nkOf vs with
            | none => rw [hn] at hk'; cases hk'
            | some s => exact this vs (by rw [hn]; rfl)
          obtain ⟨ps, rfl⟩ := hp
          have e := nkey_map ps
          rw [hk] at e
          injection e with e
          rw [e]
          exact nest_is I hq
        | _ => cases hk
      · exact ih q x hx
  exact all q
theorem RelN.len : ∀ {ks : List Val} {xs : List (NestedKey × Addr × Value)}, RelN W r H ks xs → ks.length = xs.length
  | [], _, h => by cases (show _ = [] from h); rfl
  | _ :: _, _, ⟨_, _, e, _, _, h⟩ => by rw [e, List.length_cons, List.length_cons, RelN.len h]
theorem b_lenN (hP : W.P = X.prog) (hw : W.w = X.w) : CallR X (.builtin "len") (rBi W .lenN) := by
  refine bi1 (not1 _ (fun _ _ _ => rfl) fun _ _ _ _ _ => rfl) fun a x r st E pins s σ H us Q I rv p q g => ?_
  cases a with
  | ref n =>
    obtain ⟨l, rfl, hr⟩ := q
    obtain ⟨o, ho, qo⟩ := p.at_ hr
    simp only [biV, ho] at g
    cases o with
    | dcn ks vs =>
      have g : Good W (match Nat.ble ks.length lineN with | true => .ok (.int (.ofNat ks.length)) st | false => .no) r H Q E := g
      cases hb : Nat.ble ks.length lineN with
      | false => rw [hb] at g; exact g.elim
      | true =>
        rw [hb] at g
        have hl : ks.length ≤ 100000 := Nat.le_of_ble_eq_true hb
        obtain ⟨xs, hd, hn, hsys⟩ := qo
        rw [hP, hw] at hd
        rw [Vals.ref1 rv]
        have hlen := hn.len
        refine call_len_dictH hsys (nd_of I hd hn) (by omega) ?_
        exact ⟨.int (.ofNat ks.length), H, I.tok _, ⟨_, by rw [hlen]; rfl⟩, g r H _ .refl p rfl⟩
    | _ => exact (show False from g).elim
  | _ => exact (show False from g).elim
theorem ndo_ok {P : Program} {w : World} {h : Heap} {a : Addr} {xs : List (NestedKey × Addr × Value)} (n : ND0 P w h a xs) {H : Hp} : ObjOk P w H h a (NDo P w a xs) := by
  have ⟨o, es, ep, h1, h2⟩ := n
  refine ⟨n, ⟨o, h1⟩, fun g1 g2 ⟨o', es', ep', k1, k2⟩ k => ⟨o', es', ep', k o' k1, k2⟩⟩
theorem e_dnewN {pos : Pos} (hP : W.P = X.prog) (hw : W.w = X.w) : PE X (.Dict [] [] pos) (dE W C Wx .dnewN) := by
  refine ⟨fun pins s σ H Q I ⟨r, st, env, p, q, g⟩ => ?_⟩
  have hn := I.hok.fresh (Nat.le_refl s.heap.objs.size)
  have n0 : ND0 X.prog X.w (s.heap.push { cls := .type "dict", data := .dict #[] }) s.heap.objs.size [] := ⟨_, #[], 0, Heap.get?_push_size _ rfl, ⟨rfl, rfl, rfl⟩, rfl, rfl, List.nodup_nil⟩
  refine wpAny_Dict_empty ⟨.ref s.heap.objs.size, _, I.laid (a := s.heap.objs.size) (o := NDo X.prog X.w s.heap.objs.size []) (t' := s.toks) (fun _ _ z => Heap.get?_push_of_some _ z) (Nat.le_refl _) (ndo_ok n0), rfl, ?_⟩
  have g : Good W (.ok (.ref st.length) (st ++ [Ob.dcn [] []])) r H Q _ := g
  refine g _ _ _ (.plus p hn) (p.plus hn ⟨[], by rw [hP, hw]; exact upd_same, rfl, beq_eq_false_iff_ne.mpr (Ne.symm (Nat.ne_of_lt I.big))⟩) ⟨_, rfl, ?_⟩
  rw [plus_at, if_pos rfl]
/-- the keys behind a store -/
theorem hasN_any {k : List (Int × Int)} : ∀ {ks : List Val} {xs : List (NestedKey × Addr × Value)}, RelN W r H ks xs → hasK (.tup (k.map prV)) ks = (atKey xs (.tup (k.map nk1))).isSome
  | [], _, h => by cases (show _ = [] from h); rfl
  | x :: ks, _, ⟨y, t, e, hk, hq, q⟩ => by
    subst e
    have ih := hasN_any (k := k) q
    have ey : ∃ ps : List (Int × Int), x = .tup (ps.map prV) ∧ y.1 = .tup (ps.map nk1) := by
      cases x with
      | tup vs =>
        have : ∀ (vs : List Val) (s : List NestedKey), nkOf vs = some s → ∃ ps : List (Int × Int), vs = ps.map prV ∧ s = ps.map nk1 := by
          intro vs
          induction vs with
          | nil => intro s h; cases h; exact ⟨[], rfl, rfl⟩
          | cons v vs ihv =>
            intro s h
            match v, h with
            | .tup [.int i, .int j], h =>
              have h : (match nkOf vs with | some s => some (NestedKey.tup [.num i, .num j] :: s) | none => none) = some s := h
              cases hn : nkOf vs with
              | none => rw [hn] at h; cases h
              | some s' =>
                rw [hn] at h
                cases h
                obtain ⟨ps, e, e2⟩ := ihv s' hn
                exact ⟨(i, j) :: ps, by rw [e]; rfl, by rw [e2]; rfl⟩
        have hk' : (match nkOf vs with | some s => some (NestedKey.tup s) | none => none) = some y.1 := hk
        cases hn : nkOf vs with
        | none => rw [hn] at hk'; cases hk'
        | some s =>
          rw [hn] at hk'
          injection hk' with hk'
          obtain ⟨ps, e, e2⟩ := this vs s hn
          exact ⟨ps, by rw [e], by rw [← hk', e2]⟩
      | _ => cases hk
    obtain ⟨ps, rfl, ey⟩ := ey
    have ee : keyEq (.tup (ps.map prV)) (.tup (k.map prV)) = decide (ps = k) := eqvL_prs ps k
    show (match keyEq (.tup (ps.map prV)) (.tup (k.map prV)) with | true => true | false => hasK (.tup (k.map prV)) ks) = _
    rw [ee, ih]
    unfold atKey
    rw [List.find?_cons]
    by_cases c : ps = k
    · subst c
      rw [decide_eq_true rfl, decide_eq_true ey]
      rfl
    · rw [decide_eq_false c, decide_eq_false (fun z => c (map_nk_inj (by rw [ey] at z; injection z)))]
theorem RelN.puts {k : NestedKey} {v : Value} : ∀ {ks : List Val} {xs : List (NestedKey × Addr × Value)}, RelN W r H ks xs → RelN W r H ks (xs.map (putAt k v))
  | [], _, h => by cases (show _ = [] from h); rfl
  | x :: ks, _, ⟨y, t, e, hk, hq, q⟩ => by
    subst e
    refine ⟨putAt k v y, _, rfl, ?_, ?_, RelN.puts q⟩
    · unfold putAt; split <;> exact hk
    · unfold putAt; split <;> exact hq
theorem RelN.snoc {k : Val} {x : NestedKey × Addr × Value} (hk : nkey k = some x.1) (hq : Rel W r H k (.ref x.2.1)) : ∀ {ks : List Val} {xs : List (NestedKey × Addr × Value)}, RelN W r H ks xs → RelN W r H (ks ++ [k]) (xs ++ [x])
  | [], _, h => by cases (show _ = [] from h); exact ⟨x, [], rfl, hk, hq, rfl⟩
  | y :: ks, _, ⟨z, t, e, h1, h2, q⟩ => by
    subst e
    exact ⟨z, t ++ [x], rfl, h1, h2, RelN.snoc hk hq q⟩
theorem s_putN {o i value : Expr} {iv id ik : E} {pos pos' : Pos} (hP : W.P = X.prog) (hw : W.w = X.w) (hu : X.A.units + 65 < cLine) (hv : PE X value (dE W C Wx iv)) (ho : PE X o (dE W C Wx id)) (hi : PE X i (dE W C Wx ik)) (hs : swapsWith value (some (.Subscript o i pos')) pos.line X.env = pure false) :
    PS X (.Assign [.Subscript o i pos'] value pos) (dS W C Wx (.putN iv id ik)) := by
  refine ⟨fun pins s σ H D I ⟨r, st, env, p, q, g⟩ => ?_⟩
  refine wpAny_Assign_Subscript (thn (hv.run pins s σ H (fun y H1 => ∃ r1 st1 z, Ext r H r1 H1 ∧ Rep W r1 st1 H1 ∧ Rel W r1 H1 z y ∧ GoodS W ((ev C id env st1).run fun x st2 => (ev C ik env st2).run fun y st3 => match x with | .ref n => (match st3[n]? with | some (.dcn ks vs) => (match keyN y && Nat.ble ks.length lineN with | true => .nx env (st3.set n (.dcn (dput y z ks vs).1 (dput y z ks vs).2)) | false => .no) | _ => .no) | _ => .no) r1 H1 σ.length D (EX W Wx)) I ⟨r, st, env, p, q, GoodS.seq g σ rfl fun z st1 r1 H1 y e1 p1 q1 g1 => ⟨r1, st1, z, e1, p1, q1, g1⟩⟩) fun rv s1 ⟨y, H1, I1, ry, r1, st1, z, e1, p1, q1, g1⟩ => ?_) hs
  refine thn (ho.run pins s1 σ H1 (fun x H2 => ∃ r2 st2 v, Ext r1 H1 r2 H2 ∧ Rep W r2 st2 H2 ∧ Rel W r2 H2 v x ∧ GoodS W ((ev C ik env st2).run fun y st3 => match v with | .ref n => (match st3[n]? with | some (.dcn ks vs) => (match keyN y && Nat.ble ks.length lineN with | true => .nx env (st3.set n (.dcn (dput y z ks vs).1 (dput y z ks vs).2)) | false => .no) | _ => .no) | _ => .no) r2 H2 σ.length D (EX W Wx)) I1 ⟨r1, st1, env, p1, q.ext e1, GoodS.seq g1 σ rfl fun v st2 r2 H2 x e2 p2 q2 g2 => ⟨r2, st2, v, e2, p2, q2, g2⟩⟩) fun u s2 ⟨x, H2, I2, rx, r2, st2, v, e2, p2, q2, g2⟩ => ?_
  refine thn (hi.run pins s2 σ H2 (fun y H3 => ∃ r3 st3 k, Ext r2 H2 r3 H3 ∧ Rep W r3 st3 H3 ∧ Rel W r3 H3 k y ∧ GoodS W (match (generalizing := false) v with | .ref n => (match st3[n]? with | some (.dcn ks vs) => (match keyN k && Nat.ble ks.length lineN with | true => .nx env (st3.set n (.dcn (dput k z ks vs).1 (dput k z ks vs).2)) | false => .no) | _ => .no) | _ => .no) r3 H3 σ.length D (EX W Wx)) I2 ⟨r2, st2, env, p2, (q.ext e1).ext e2, GoodS.seq g2 σ rfl fun k st3 r3 H3 y e3 p3 q3 g3 => ⟨r3, st3, k, e3, p3, q3, g3⟩⟩) fun iv' s3 ⟨y3, H3, I3, ry3, r3, st3, k, e3, p3, q3, g3⟩ => ?_
  have qx := q2.ext e3
  cases v with
  | ref n =>
    obtain ⟨a, rfl, hr⟩ := qx
    cases rx
    obtain ⟨ob, hob, qo⟩ := p3.at_ hr
    have g3 : GoodS W (match st3[n]? with | some (.dcn ks vs) => (match keyN k && Nat.ble ks.length lineN with | true => .nx env (st3.set n (.dcn (dput k z ks vs).1 (dput k z ks vs).2)) | false => .no) | _ => .no) r3 H3 σ.length D (EX W Wx) := g3
    rw [hob] at g3
    cases ob with
    | dcn ks vs =>
      have g3 : GoodS W (match keyN k && Nat.ble ks.length lineN with | true => .nx env (st3.set n (.dcn (dput k z ks vs).1 (dput k z ks vs).2)) | false => .no) r3 H3 σ.length D (EX W Wx) := g3
      cases hb : keyN k && Nat.ble ks.length lineN with
      | false => rw [hb] at g3; exact g3.elim
      | true =>
        rw [hb] at g3
        obtain ⟨hk, hl⟩ := Bool.and_eq_true_iff.mp hb
        have hl : ks.length ≤ 100000 := Nat.le_of_ble_eq_true hl
        obtain ⟨ps, rfl⟩ := keyN_of hk
        obtain ⟨xs, hd, hn, hsys⟩ := qo
        have hd' := hd
        rw [hP, hw] at hd'
        have q3' := q3
        obtain ⟨b, ys, rfl, _⟩ := q3'
        cases ry3
        have hlen := hn.len
        refine wpAny_setItem_heap (knd := nestedKind X.prog X.w) (hsz := by rw [sizeLine_eq]; omega) (by show X.A.in1.units + 8 < cLine; rw [Around.in1_units]; omega) (nest_is I3 q3) (nd_of I3 hd' hn) fun h' dd' hsame => ?_
        obtain ⟨o', es, ep, k1, k2, k3, k4, _, k6⟩ := dd'
        have I4 := d_write (t' := s3.toks + (nestedKind X.prog X.w).draws (.tup (ps.map nk1))) I3 (ob := NDo X.prog X.w a (storedH xs (.tup (ps.map nk1)) b rv)) (by rw [hd']; exact True.intro) hsame ⟨o', k1⟩ (ndo_ok ⟨o', es, ep, k1, k2, k3, k4, k6⟩)
        refine ⟨σ, _, I4, ?_⟩
        have hany := hasN_any (k := ps) hn
        have hnew : RelN W r3 H3 (dput (.tup (ps.map prV)) z ks vs).1 (storedH xs (.tup (ps.map nk1)) b rv) := by
          unfold dput storedH
          cases hc : hasK (.tup (ps.map prV)) ks with
          | true =>
            rw [hc] at hany
            rw [if_pos hany.symm]
            exact hn.puts
          | false =>
            rw [hc] at hany
            rw [if_neg (by rw [← hany]; exact Bool.false_ne_true)]
            exact hn.snoc (nkey_map ps) q3
        exact g3 r3 _ σ (.put p3 hr) (p3.put hr ⟨_, by rw [hP, hw]; exact upd_same, RelN.ext (.put p3 hr) _ hnew, hsys⟩) ((((q.ext e1).ext e2).ext e3).ext (.put p3 hr)) rfl
    | _ => exact (show False from g3).elim
  | _ => exact (show False from g3).elim
end
end G

end

section
/-! dict(pairs), list.index, max of four. -/
namespace G
open PySem PySem.Spec PyProof.Rows L2
section
variable {X : Cx} {W : Wd} {C : Calls} {Wx : WX} {r : Pl} {st : Sto} {H : Hp}
/-- pairs of places and values -/
abbrev Pr := List Key × Addr × V
theorem pairs_at {pins : List (Addr × Obj)} {s : Shared} {σ : St} (I : Inv X pins σ H s) : ∀ {Ts : List Addr} {es : List Pr}, Paired (fun (T : Addr) (e : Pr) => H T = some (.tup [.ref e.2.1, e.2.2]) ∧ H e.2.1 = some (.tup (e.1.map kV))) Ts es →
    ∃ ps : List (List Key × Addr × Value), Paired (fun (T : Addr) (q : List Key × Addr × Value) => PairAt s.heap T (.ref q.2.1) q.2.2) Ts ps ∧ Paired (fun (e : Pr) (q : List Key × Addr × Value) => e.1 = q.1 ∧ e.2.1 = q.2.1 ∧ RelV e.2.2 q.2.2) es ps
  | [], [], .nil => ⟨[], .nil, .nil⟩
  | T :: Ts, e :: es, .cons ⟨h1, h2⟩ t => by
    obtain ⟨ps, a, b⟩ := pairs_at I t
    obtain ⟨its, rv, hT, hz⟩ := I.tuple (SqT.of h1)
    obtain ⟨u1, u2, rfl, r1, r2⟩ := vals2 rv
    cases (show u1 = Value.ref e.2.1 from r1)
    exact ⟨(e.1, e.2.1, u2) :: ps, .cons (.inl hT) a, .cons ⟨rfl, rfl, r2⟩ b⟩
theorem paired_at {α β : Type} {R : α → β → Prop} : ∀ {xs : List α} {ys : List β}, Paired R xs ys → ∀ {i : Nat} {y : β}, ys[i]? = some y → ∃ x, xs[i]? = some x ∧ R x y
  | [], [], .nil, i, y, h => by simp at h
  | x :: xs, y :: ys, .cons h t, 0, z, e => by cases e; exact ⟨x, rfl, h⟩
  | x :: xs, y :: ys, .cons h t, i + 1, z, e => by
    obtain ⟨x', a, b⟩ := paired_at t (i := i) (by simpa using e)
    exact ⟨x', by simpa using a, b⟩
theorem kt_fold {H : Hp} : ∀ {es : List Pr} {ps : List (List Key × Addr × Value)} {kvs : List (List Key × V)} {xs : List (List Key × Addr × Value)}, Paired (fun (e : Pr) (q : List Key × Addr × Value) => e.1 = q.1 ∧ e.2.1 = q.2.1 ∧ RelV e.2.2 q.2.2) es ps → (∀ e ∈ es, H e.2.1 = some (.tup (e.1.map kV))) → KT H kvs xs →
    KT H (es.foldl (fun acc e => putK acc e.1 e.2.2) kvs) (storedAllH xs ps)
  | [], [], kvs, xs, .nil, _, k => k
  | e :: es, q :: ps, kvs, xs, .cons ⟨h1, h2, h3⟩ t, hb, k => by
    have hb1 := hb e (.head _)
    have k1 : KT H (putK kvs e.1 e.2.2) (storedH xs q.1 q.2.1 q.2.2) := by
      rw [← h1, ← h2]
      exact k.put e.1 hb1 h3
    show KT H (es.foldl _ (putK kvs e.1 e.2.2)) (storedAllH (storedH xs q.1 q.2.1 q.2.2) ps)
    exact kt_fold (es := es) (ps := ps) t (fun x hx => hb x (.tail _ hx)) k1
theorem fold_len : ∀ (es : List Pr) (kvs : List (List Key × V)), (es.foldl (fun acc e => putK acc e.1 e.2.2) kvs).length ≤ kvs.length + es.length
  | [], kvs => Nat.le_refl _
  | e :: es, kvs => by
    have h1 := fold_len es (putK kvs e.1 e.2.2)
    have h2 := length_putK kvs e.1 e.2.2
    rw [List.foldl_cons, List.length_cons]
    omega
theorem dictP_V (hc : X.calm = true) (hu : X.A.units + 65 < cLine) : CallR X (.type "dict") (fun xs H Q => ∃ (l : Addr) (Ts : List Addr) (es : List Pr), xs = [.ref l] ∧ H l = some (.lst (Ts.map V.ref)) ∧
    Paired (fun (T : Addr) (e : Pr) => H T = some (.tup [.ref e.2.1, e.2.2]) ∧ H e.2.1 = some (.tup (e.1.map kV))) Ts es ∧ ∀ p od, H p = none → Q (.ref p) (upd H p (.frz od (.dT (es.foldl (fun acc e => putK acc e.1 e.2.2) []))))) := by
  intro pins s σ H xs us Q I rv ⟨l, Ts, es, ex, hl, hp, q⟩
  subst ex
  rw [Vals.ref1 rv]
  obtain ⟨its, rvs, ⟨o, n, ho, hoc, hod, hdat⟩, hzz⟩ := I.list (SqL.of hl)
  obtain ⟨ps, a, b⟩ := pairs_at I hp
  have ei := refs_at rvs
  subst ei
  have lp : Ts.length = ps.length := Paired.length a
  have le : es.length = ps.length := Paired.length b
  have hn : H s.heap.objs.size = none := I.hok.fresh (Nat.le_refl _)
  have hbs : ∀ e ∈ es, H e.2.1 = some (.tup (e.1.map kV)) := fun e he => by
    obtain ⟨i, hi⟩ := List.getElem?_of_mem he
    obtain ⟨T, _, h⟩ := paired_at hp hi
    exact h.2
  refine call_dict_pairsH (knd := tupleKind (mixKind X.prog X.w)) (ps := ps) (PairArg.list l _ (fun j => Ts.getD j 0) (ps.map fun q => (Value.ref q.2.1, q.2.2))) (I.ok.hd hc) (by show X.A.in1.in1.units < cLine; rw [Around.in1_units, Around.in1_units]; omega) ⟨⟨o, n, ho, hoc, hod, hdat⟩, ?_, ?_⟩ ⟨by simp, ?_⟩ ?_ (by rw [List.length_map, ← lp]; simpa using hzz) fun h' tk dd hk => ?_
  · simp [lp]
  · intro j k v hj
    rw [List.getElem?_map] at hj
    cases hq : ps[j]? with
    | none => rw [hq] at hj; cases hj
    | some q' =>
      rw [hq] at hj
      cases hj
      obtain ⟨T, h1, h2⟩ := paired_at a hq
      have hg : Ts.getD j 0 = T := by simp [List.getD, h1]
      show (Ts.map Value.ref).toArray[j]? = some (Value.ref (Ts.getD j 0)) ∧ PairAt s.heap (Ts.getD j 0) _ _
      rw [hg]
      exact ⟨by simp [h1], h2⟩
  · intro i key v h
    have h : (ps.map fun q => (Value.ref q.2.1, q.2.2))[i]? = some (key, v) := h
    rw [List.getElem?_map] at h
    cases hq : ps[i]? with
    | none => rw [hq] at h; cases h
    | some q' =>
      rw [hq] at h
      cases h
      exact ⟨q'.1, q'.2.1, rfl, rfl⟩
  · intro h' hk' x hx
    obtain ⟨i, hi⟩ := List.getElem?_of_mem hx
    obtain ⟨e, he, h1, h2, h3⟩ := paired_at b hi
    have hb := hbs e (List.mem_of_getElem? he)
    have hh := I.hok _ _ hb
    obtain ⟨z, its, r1, o1, g1, g2, n1, g3⟩ := hh
    rw [← h1, ← h2]
    refine ⟨o1, its.toArray, n1, hk' _ _ (Nat.ne_of_lt (Heap.lt_size g1)) (fun z => nomatch z) g1, g2, g3, by simpa using items_are r1⟩
  · obtain ⟨o2, es2, ep, k1, k2, k3, k4, _, k6⟩ := dd
    have ok : ObjOk X.prog X.w (upd H s.heap.objs.size (.dT (es.foldl (fun acc e => putK acc e.1 e.2.2) []))) h' s.heap.objs.size (.dT (es.foldl (fun acc e => putK acc e.1 e.2.2) [])) := by
      refine ⟨?_, beq_eq_false_iff_ne.mpr (Ne.symm (Nat.ne_of_lt I.big)), storedAllH [] ps, (kt_fold b hbs (show KT H [] [] from .nil)).keeps fun c ys ec => ?_, o2, es2, ep, k1, k2, k3, k4, k6⟩
      · have := fold_len es []
        simp only [List.length_nil, List.length_map] at this hzz
        omega
      · rw [upd_ne (ne_of_none ec hn)]
        exact ec
    have I1 := I.laid (a := s.heap.objs.size) (o := .dT (es.foldl (fun acc e => putK acc e.1 e.2.2) [])) (t' := tk) (fun b' o' z => hk b' o' (fun z => nomatch z) z) (Nat.le_refl _) ok
    obtain ⟨od, I2⟩ := I1.lock upd_same trivial
    rw [upd_upd] at I2
    exact ⟨.ref s.heap.objs.size, _, I2, rfl, q _ od hn⟩
theorem dfold_cons {x : Val} {xs ks vs ks' vs' : List Val} (h : dfold (x :: xs) ks vs = some (ks', vs')) : ∃ k v, x = .tup [k, v] ∧ keyOk true k = true ∧ dfold xs (dput k v ks vs).1 (dput k v ks vs).2 = some (ks', vs') := by
  unfold dfold at h
  split at h
  · rename_i e
    cases e
  · rename_i k v r e
    cases e
    cases hk : keyOk true k with
    | false => rw [hk] at h; cases h
    | true =>
      rw [hk] at h
      exact ⟨k, v, rfl, hk, h⟩
  · cases h
/-- the pairs of the evaluator as pairs of the heap -/
theorem dfold_rel (p : Rep W r st H) : ∀ {xs : List Val} {ws : List V} {ks vs ks' vs' : List Val} {kvs : List (List Key × V)}, dfold xs ks vs = some (ks', vs') → RelL W r H xs ws → RelT ks (kvs.map (·.1)) → RelL W r H vs (kvs.map (·.2)) →
    ∃ (Ts : List Addr) (es : List Pr), ws = Ts.map V.ref ∧ es.length = xs.length ∧ Paired (fun (T : Addr) (e : Pr) => H T = some (.tup [.ref e.2.1, e.2.2]) ∧ H e.2.1 = some (.tup (e.1.map kV))) Ts es ∧
      RelT ks' ((es.foldl (fun acc e => putK acc e.1 e.2.2) kvs).map (·.1)) ∧ RelL W r H vs' ((es.foldl (fun acc e => putK acc e.1 e.2.2) kvs).map (·.2))
  | [], ws, ks, vs, ks', vs', kvs, h, q, hk, hv => by
    cases (show ws = [] from q)
    cases h
    exact ⟨[], [], rfl, rfl, .nil, hk, hv⟩
  | x :: xs, ws, ks, vs, ks', vs', kvs, h, ⟨y, s, e, hx, q⟩, hk, hv => by
    subst e
    obtain ⟨k, v, rfl, hko, h⟩ := dfold_cons h
    obtain ⟨T, zs, ey, hT, qz⟩ := hx
    subst ey
    obtain ⟨ky, vy, rfl, rk, rv⟩ := two_args qz
    cases k with
    | tup kl =>
      obtain ⟨kk, hkk⟩ := allKey_toKs (show allKey kl = true from hko)
      obtain ⟨b, ys, rfl, hb, qy⟩ := rk
      have ek := qy.keys hkk
      subst ek
      obtain ⟨d1, d2⟩ := dput_T hkk rv hk hv
      obtain ⟨Ts, es, e1, e2, e3, e4, e5⟩ := dfold_rel p h q d1 d2
      exact ⟨T :: Ts, (kk, b, vy) :: es, by rw [e1]; rfl, by rw [List.length_cons, List.length_cons, e2], .cons ⟨hT, hb⟩ e3, e4, e5⟩
    | _ => cases hko
theorem b_dictP (hc : X.calm = true) (hu : X.A.units + 65 < cLine) : CallR X (.type "dict") (rBi W .dictP) := by
  refine bi1 (not1 _ (fun _ _ _ => rfl) fun _ _ _ _ _ => rfl) fun a x r st E pins s σ H us Q I rv p q g => ?_
  have g : Good W (match items st a with | some xs => (match dfold xs [] [] with | some (ks, vs) => .ok (.td true ks vs) st | none => .no) | none => .no) r H Q E := g
  cases h1 : items st a with
  | none => rw [h1] at g; exact g.elim
  | some xs =>
    rw [h1] at g
    have g : Good W (match dfold xs [] [] with | some (ks, vs) => .ok (.td true ks vs) st | none => .no) r H Q E := g
    cases h2 : dfold xs [] [] with
    | none => rw [h2] at g; exact g.elim
    | some kv =>
      obtain ⟨ks, vs⟩ := kv
      rw [h2] at g
      have g2 : Good W (.ok (.td true ks vs) st) r H Q E := g
      obtain ⟨l, ws, rfl, hl, ql⟩ := items_rel p h1 q
      obtain ⟨Ts, es, e1, e2, e3, e4, e5⟩ := dfold_rel (kvs := []) p h2 ql rfl rfl
      subst e1
      refine dictP_V hc hu pins s σ H _ us Q I rv ⟨l, Ts, es, rfl, hl, e3, fun d od hd => ?_⟩
      exact g2 r _ _ (.new hd) (p.new hd) ⟨d, rfl, p.nfree hd, _, ⟨od, upd_same⟩, e4, e5.ext (.new hd)⟩
theorem indexL_of {a : Val} : ∀ {xs : List Val} {n k : Nat}, indexL a xs n = some k → ∃ j, k = n + j ∧ ∃ z, xs[j]? = some z ∧ eqv z a = true ∧ ∀ m z', m < j → xs[m]? = some z' → eqv z' a = false
  | [], n, k, h => by cases h
  | x :: xs, n, k, h => by
    have h : (match eqv x a with | true => some n | false => indexL a xs (n + 1)) = some k := h
    cases he : eqv x a with
    | true =>
      rw [he] at h
      cases h
      exact ⟨0, rfl, x, rfl, he, fun m z' hm _ => absurd hm (Nat.not_lt_zero m)⟩
    | false =>
      rw [he] at h
      obtain ⟨j, e, z, h1, h2, h3⟩ := indexL_of (xs := xs) h
      refine ⟨j + 1, by omega, z, by simpa using h1, h2, fun m z' hm hz => ?_⟩
      cases m with
      | zero => cases hz; exact he
      | succ m => exact h3 m z' (by omega) (by simpa using hz)
theorem toDL_get : ∀ {xs : List Val} {j : Nat}, (toDL xs)[j]? = (xs[j]?).map toD
  | [], j => by simp [toDL]
  | x :: xs, 0 => rfl
  | x :: xs, j + 1 => by
    show (toDL xs)[j]? = _
    rw [toDL_get]
    rfl
theorem m_index (hu : X.A.units + 65 < cLine) : MtR X "list.index" (rMt W .index) := by
  intro pins s σ H x xs v us Q I rx rxs ⟨r, st, y, as, E, p, q, ql, g⟩
  cases y with
  | tl zs =>
    match as, ql, g with
    | [b], ql, g =>
      obtain ⟨z, rfl, rz⟩ := one_arg ql
      have g : Good W (match frz 5 st b with | some v => (match mapO (frz 5 []) zs with | some ys => (match indexL v ys 0 with | some k => .ok (.int (.ofNat k)) st | none => .no) | none => .no) | none => .no) r H Q E := g
      cases h1 : frz 5 st b with
      | none => rw [h1] at g; exact g.elim
      | some bv =>
        rw [h1] at g
        have g : Good W (match mapO (frz 5 []) zs with | some ys => (match indexL bv ys 0 with | some k => .ok (.int (.ofNat k)) st | none => .no) | none => .no) r H Q E := g
        cases h2 : mapO (frz 5 []) zs with
        | none => rw [h2] at g; exact g.elim
        | some ys =>
          rw [h2] at g
          have g : Good W (match indexL bv ys 0 with | some k => .ok (.int (.ofNat k)) st | none => .no) r H Q E := g
          cases h3 : indexL bv ys 0 with
          | none => rw [h3] at g; exact g.elim
          | some k =>
            rw [h3] at g
            have g2 : Good W (.ok (.int (.ofNat k)) st) r H Q E := g
            obtain ⟨a, ws, rfl, fr, hl, qw⟩ := q
            obtain ⟨D1, D2⟩ := frz_Dp (K := X.K) p h1 rz
            have e2 : ys = zs := mapO_id frz_id h2
            have qa : RelL W (away r) H ys ws := mapO_rel (frz_rel (r1 := away r) (st := []) (fun a => away_fre) nilS) h2 qw
            subst e2
            obtain ⟨c, d⟩ := mapO_Dp (frz_Dp (K := X.K) p.away) h2 qa
            obtain ⟨j, e, z', k1, k2, k3⟩ := indexL_of h3
            have ek : k = j := by omega
            subst ek
            have hz := d z' (List.mem_of_getElem? k1)
            refine mt_indexD hu pins s σ H _ _ v us Q I rx rxs ⟨a, z, toD bv, toDL ys, k, toD z', rfl, rfl, .lst (.of hl) c, D1, ?_, dat_shaped D2 (by decide), by rw [toDL_get, k1]; rfl, by rw [eqv_D z' bv hz D2]; exact k2, fun m z2 hm he => ?_, g2 r H _ .refl p rfl⟩
            · exact dat_shaped (n := 6) (v := .tl ys) d (by decide)
            · rw [toDL_get] at he
              cases hy : ys[m]? with
              | none => rw [hy] at he; cases he
              | some w2 =>
                rw [hy] at he
                cases he
                rw [eqv_D w2 bv (d w2 (List.mem_of_getElem? hy)) D2]
                exact k3 m w2 hm hy
    | [], _, g => exact (show False from g).elim
    | _ :: _ :: _, _, g => exact (show False from g).elim
  | ref n =>
    obtain ⟨a, rfl, hr⟩ := q
    obtain ⟨o, ho, qo⟩ := p.at_ hr
    simp only [methV, ho] at g
    cases o <;> exact (show False from g).elim
  | str s => exact (show False from g).elim
  | _ => exact (show False from g).elim
theorem e_index {o e : Expr} {io ie : E} {apos cpos : Pos} (hu : X.A.units + 65 < cLine) (ho : PE X o (dE W C Wx io)) (he : PE X e (dE W C Wx ie)) (hs : starEach [e] X.env = (false, eval e X.env) :: starEach [] X.env := by rfl)
    (hbase : attributeBase o "index" X.env (eval o X.env) = eval o X.env := by rfl)
    (hfew : ((backTo cpos (starEach [e] X.env)).all (fun x => !x.1) && (backToKw cpos (keywordEach [] X.env)).all (fun x => x.1.isSome) && decide (([e] : List Expr).length + ([] : List Keyword).length + (if ([] : List Keyword).isEmpty then 0 else 1) < 30)) = true := by rfl)
    (hline : (apos.endLine == cpos.line) = true := by rfl) (hplain : (backTo cpos (starEach [] X.env)).any (·.1) = false := by rfl) :
    PE X (.Call (.Attribute o "index" apos) [e] [] cpos) (dE W C Wx (.meth .index io (.cons ie .nil))) :=
  peI (pe_bm PySem.F.plainAttrs_list PySem.F.slot_list_index PySem.F.type_list_index (m_index hu) ho (a_cons he a_nil hs) hbase hfew hline hs hplain) fun σ H Q ⟨r, st, env, p, q, g⟩ => mtA p q (ty_list (.inr (.inr (.inr rfl)))) g
end
end G

end

section
/-! Instances of the text's own class. -/
namespace G
open PySem PySem.Spec PyProof.Rows L2
/-- how much room a run of a depth wants -/
def lev : Nat → Nat
  | 0 => 2
  | d + 1 => lev d + 2
theorem lev_two : ∀ d, 2 ≤ lev d
  | 0 => Nat.le_refl _
  | d + 1 => Nat.le_trans (lev_two d) (Nat.le_add_right _ _)
theorem lev_ge : ∀ d, d = 0 ∨ 3 ≤ lev d
  | 0 => .inl rfl
  | d + 1 => .inr (by have := lev_two d; show 3 ≤ lev d + 2; omega)
/-- what the class must have -/
structure Vw (K : PySem.W.Frag) (W : Wd) : Prop where
  cl : Cls K W.va
  n0 : NoAttr K W.va "grid"
  n1 : NoAttr K W.va "line"
  n2 : NoAttr K W.va "kinds"
  n3 : NoAttr K W.va "kept"
theorem four {i : Nat} {f : Str} (h : fnames[i]? = some f) : (i = 0 ∧ f = "grid") ∨ (i = 1 ∧ f = "line") ∨ (i = 2 ∧ f = "kinds") ∨ (i = 3 ∧ f = "kept") := by
  match i, h with
  | 0, h => cases h; exact .inl ⟨rfl, rfl⟩
  | 1, h => cases h; exact .inr (.inl ⟨rfl, rfl⟩)
  | 2, h => cases h; exact .inr (.inr (.inl ⟨rfl, rfl⟩))
  | 3, h => cases h; exact .inr (.inr (.inr ⟨rfl, rfl⟩))
  | n + 4, h => cases h
theorem Vw.no {K : PySem.W.Frag} {W : Wd} (v : Vw K W) {i : Nat} {f : Str} (h : fnames[i]? = some f) : NoAttr K W.va f := by
  rcases four h with ⟨_, rfl⟩ | ⟨_, rfl⟩ | ⟨_, rfl⟩ | ⟨_, rfl⟩
  · exact v.n0
  · exact v.n1
  · exact v.n2
  · exact v.n3
theorem fn_ne : (("grid" : Str) ≠ "line" ∧ ("grid" : Str) ≠ "kinds" ∧ ("grid" : Str) ≠ "kept") ∧ (("line" : Str) ≠ "kinds" ∧ ("line" : Str) ≠ "kept") ∧ ("kinds" : Str) ≠ "kept" := by decide
theorem zip_look {i : Nat} {f : Str} {ys : List V} {y : V} (h : fnames[i]? = some f) (hy : ys[i]? = some y) : (fnames.zip ys).lookup f = some y := by
  obtain ⟨⟨a1, a2, a3⟩, ⟨a4, a5⟩, a6⟩ := fn_ne
  rcases four h with ⟨rfl, rfl⟩ | ⟨rfl, rfl⟩ | ⟨rfl, rfl⟩ | ⟨rfl, rfl⟩
  · match ys, hy with
    | y0 :: _, hy => cases hy; simp [fnames, List.lookup]
  · match ys, hy with
    | _ :: y1 :: _, hy => cases hy; simp [fnames, List.lookup, beq_eq_false_iff_ne.mpr a1.symm]
  · match ys, hy with
    | _ :: _ :: y1 :: _, hy => cases hy; simp [fnames, List.lookup, beq_eq_false_iff_ne.mpr a2.symm, beq_eq_false_iff_ne.mpr a4.symm]
  · match ys, hy with
    | _ :: _ :: _ :: y1 :: _, hy => cases hy; simp [fnames, List.lookup, beq_eq_false_iff_ne.mpr a3.symm, beq_eq_false_iff_ne.mpr a5.symm, beq_eq_false_iff_ne.mpr a6.symm]
theorem zip_none {m : Str} (hm : m ≠ "grid" ∧ m ≠ "line" ∧ m ≠ "kinds" ∧ m ≠ "kept") (ys : List V) : (fnames.zip ys).lookup m = none := by
  obtain ⟨h0, h1, h2, h3⟩ := hm
  have h0 := beq_eq_false_iff_ne.mpr h0
  have h1 := beq_eq_false_iff_ne.mpr h1
  have h2 := beq_eq_false_iff_ne.mpr h2
  have h3 := beq_eq_false_iff_ne.mpr h3
  match ys with
  | [] => rfl
  | [_] => simp [fnames, List.lookup, h0]
  | [_, _] => simp [fnames, List.lookup, h0, h1]
  | [_, _, _] => simp [fnames, List.lookup, h0, h1, h2]
  | _ :: _ :: _ :: _ :: _ => simp [fnames, List.lookup, h0, h1, h2, h3]
theorem zip_set {i : Nat} {f : Str} {ys : List V} {y : V} (h : fnames[i]? = some f) (hi : i < ys.length) : putF f y (fnames.zip ys) = fnames.zip (ys.set i y) := by
  obtain ⟨⟨a1, a2, a3⟩, ⟨a4, a5⟩, a6⟩ := fn_ne
  rcases four h with ⟨rfl, rfl⟩ | ⟨rfl, rfl⟩ | ⟨rfl, rfl⟩ | ⟨rfl, rfl⟩
  · match ys, hi with
    | y0 :: _, hy => simp [fnames, putF]
  · match ys, hi with
    | [], hi => cases hi
    | [_], hi => simp at hi
    | _ :: y1 :: _, hy => simp [fnames, putF, a1]
  · match ys, hi with
    | [], hi => cases hi
    | [_], hi => simp at hi
    | [_, _], hi => simp at hi
    | _ :: _ :: y1 :: _, hy => simp [fnames, putF, a2, a4]
  · match ys, hi with
    | [], hi => cases hi
    | [_], hi => simp at hi
    | [_, _], hi => simp at hi
    | [_, _, _], hi => simp at hi
    | _ :: _ :: _ :: y1 :: _, hy => simp [fnames, putF, a3, a5, a6]
theorem zip_snoc {f : Str} {ys : List V} {y : V} (h : fnames[ys.length]? = some f) : putF f y (fnames.zip ys) = fnames.zip (ys ++ [y]) := by
  obtain ⟨⟨a1, a2, a3⟩, ⟨a4, a5⟩, a6⟩ := fn_ne
  match ys, h with
  | [], h => cases h; simp [fnames, putF]
  | [_], h => cases h; simp [fnames, putF, a1]
  | [_, _], h => cases h; simp [fnames, putF, a2, a4]
  | [_, _, _], h => cases h; simp [fnames, putF, a3, a5, a6]
  | _ :: _ :: _ :: _ :: _, h => simp [fnames] at h
section
variable {X : Cx} {W : Wd} {C : Calls} {Wx : WX} {r : Pl} {st : Sto} {H : Hp}
theorem insOf_rel (p : Rep W r st H) {v : Val} {x : V} {n : Nat} {fs : List Val} (h : insOf st v = some (n, fs)) (q : Rel W r H v x) : v = .ref n ∧ ∃ a dx ys, x = .ref a ∧ r n = some a ∧ H a = some (.ins W.va dx (fnames.zip ys)) ∧ RelL W r H fs ys ∧ fs.length ≤ 4 := by
  cases v with
  | ref m =>
    obtain ⟨a, rfl, hr⟩ := q
    obtain ⟨o, ho, qo⟩ := p.at_ hr
    have h : (match st[m]? with | some (.ins fs) => some (m, fs) | _ => none) = some (n, fs) := h
    rw [ho] at h
    cases o with
    | ins gs =>
      cases h
      obtain ⟨dx, ys, h1, h2, h3⟩ := qo
      exact ⟨rfl, a, dx, ys, rfl, hr, h1, h2, h3⟩
    | _ => cases h
  | _ => cases h
theorem e_fld (i : Nat) {e : Expr} {f : Str} {ie : E} {pos : Pos} (v : Vw X.K W) (he : PE X e (dE W C Wx ie)) (hf : fnames[i]? = some f := by rfl) (hb : attributeBase e f X.env (eval e X.env) = eval e X.env := by rfl) : PE X (.Attribute e f pos) (dE W C Wx (.fld i ie)) := by
  refine peI (pe_fld he hb) fun σ H Q ⟨r, st, env, p, q, g⟩ => ⟨r, st, env, p, q, Good.seq g fun y st1 r1 H1 x e1 p1 q1 g1 => ?_⟩
  cases h1 : insOf st1 y with
  | none => rw [h1] at g1; exact g1.elim
  | some nf =>
    obtain ⟨n, fs⟩ := nf
    rw [h1] at g1
    obtain ⟨_, a, dx, ys, rfl, hr, ha, ql, hl⟩ := insOf_rel p1 h1 q1
    have g1 : Good W (match fs[i]? with | some v => .ok v st1 | none => .no) r1 H1 Q _ := g1
    cases h2 : fs[i]? with
    | none => rw [h2] at g1; exact g1.elim
    | some z =>
      rw [h2] at g1
      obtain ⟨u, hu, ru⟩ := ql.get h2
      exact ⟨a, W.va, dx, _, u, rfl, ha, v.cl, v.no hf, zip_look hf hu, g1 r1 H1 _ .refl p1 ru⟩
theorem RelL.set : ∀ {vs : List Val} {ys : List V} {w : Val} {y : V} (i : Nat), RelL W r H vs ys → Rel W r H w y → RelL W r H (vs.set i w) (ys.set i y)
  | [], _, w, y, i, h, _ => by cases (show _ = [] from h); exact rfl
  | v :: vs, _, w, y, 0, ⟨z, s, e, h, q⟩, hw => by rw [e]; exact ⟨y, s, rfl, hw, q⟩
  | v :: vs, _, w, y, i + 1, ⟨z, s, e, h, q⟩, hw => by rw [e]; exact ⟨z, s.set i y, rfl, h, RelL.set i q hw⟩
theorem s_fset (i : Nat) {o value : Expr} {f : Str} {io iv : E} {pos pos' : Pos} (v : Vw X.K W) (ho : PE X o (dE W C Wx io)) (hv : PE X value (dE W C Wx iv)) (hf : fnames[i]? = some f := by rfl) (hs : swapsWith value (some (.Attribute o f pos')) pos.line X.env = pure false := by rfl) :
    PS X (.Assign [.Attribute o f pos'] value pos) (dS W C Wx (.fset i io iv)) := by
  refine psI (ps_fld ho hv hs) fun D σ H ⟨r, st, env, p, q, g⟩ => ?_
  refine ⟨r, st, env, p, q, GoodS.seq g σ rfl fun z st1 r1 H1 y e1 p1 q1 g1 => ?_⟩
  refine ⟨r1, st1, env, p1, q.ext e1, GoodS.seq g1 σ rfl fun x st2 r2 H2 u e2 p2 q2 g2 => ?_⟩
  cases h1 : insOf st2 x with
  | none => rw [h1] at g2; exact g2.elim
  | some nf =>
    obtain ⟨n, fs⟩ := nf
    rw [h1] at g2
    obtain ⟨_, a, dx, ys, rfl, hr, ha, ql, hl⟩ := insOf_rel p2 h1 q2
    have g2 : GoodS W (match fput fs i z with | some fs' => .nx env (st2.set n (.ins fs')) | none => .no) r2 H2 σ.length D (EX W Wx) := g2
    have hlen := ql.len
    have qz := q1.ext e2
    refine ⟨a, W.va, dx, _, rfl, ha, v.cl, v.no hf, ?_, ?_⟩
    · rw [List.length_zip]
      have : fnames.length = 4 := rfl
      omega
    · cases h2 : fput fs i z with
      | none => rw [h2] at g2; exact g2.elim
      | some fs' =>
        rw [h2] at g2
        unfold fput at h2
        cases hb : Nat.blt i fs.length with
        | true =>
          rw [hb] at h2
          cases h2
          have hi : i < fs.length := Nat.le_of_ble_eq_true hb
          rw [zip_set hf (by omega)]
          exact g2 r2 _ σ (.put p2 hr) (p2.put hr ⟨dx, _, upd_same, (ql.set i qz).ext (.put p2 hr), by rw [List.length_set]; exact hl⟩) (((q.ext e1).ext e2).ext (.put p2 hr)) rfl
        | false =>
          rw [hb] at h2
          have h2 : (match Nat.beq i fs.length && Nat.blt i 4 with | true => some (fs ++ [z]) | false => none) = some fs' := h2
          cases hc : Nat.beq i fs.length && Nat.blt i 4 with
          | false => rw [hc] at h2; cases h2
          | true =>
            rw [hc] at h2
            cases h2
            rw [Bool.and_eq_true] at hc
            have hi : i = fs.length := Nat.eq_of_beq_eq_true hc.1
            have hi4 : i < 4 := Nat.le_of_ble_eq_true hc.2
            rw [zip_snoc (ys := ys) (by rw [← hlen, ← hi]; exact hf)]
            refine g2 r2 _ σ (.put p2 hr) (p2.put hr ⟨dx, _, upd_same, (ql.app (.one qz)).ext (.put p2 hr), ?_⟩) (((q.ext e1).ext e2).ext (.put p2 hr)) rfl
            rw [List.length_append, List.length_singleton]
            omega
/-! ### methods -/
theorem run_m {k f : Nat} {as : List Val} {st : Sto} {r : Pl} {pins : List (Addr × Obj)} {σ : St} {H : Hp} {s : Shared} {Q : VK} {us : List Value} {vs : List V} (T : Tabs X.prog X.w X.K X.mg X.base W C k) (hr : Room k X.A) (tk : TakesN X Wx)
    (I : Inv X pins σ H s) (rv : Vals vs us) (p : Rep W r st H) (q : RelL W r H as vs) (g : Good W (C f as st) r H Q fun k H' => EX W Wx k σ H') : wpAny (model X.prog X.w) X.A (call (.ref (W.fa f)) us) (EP X pins σ Q) X.xe s := by
  obtain ⟨fd, ps, hl, F, b⟩ := T.fn f as st g.noNo
  exact run_fnS (E := WE Wx) F hr b (L2N.passAt tk σ) I rv ⟨q.len.symm.trans hl, r, st, as, p, q, g⟩
theorem mnames (m : Str) (h : (fnames.all fun f => decide (m ≠ f)) = true) : m ≠ "grid" ∧ m ≠ "line" ∧ m ≠ "kinds" ∧ m ≠ "kept" := by
  simp only [fnames, List.all_cons, List.all_nil, Bool.and_true, Bool.and_eq_true, decide_eq_true_eq] at h
  exact h
theorem e_vmeth {k f : Nat} {m : Str} {o e : Expr} {es : List Expr} {io l : E} {apos pos : Pos} {pl : Sem Bool} (v : Vw X.K W) (hm : Meth X.K W.va m (W.fa f)) (T : Tabs X.prog X.w X.K X.mg X.base W C k) (hr : Room k X.A) (tk : TakesN X Wx) (ho : PE X o (dE W C Wx io)) (ha : PA X (e :: es) (dA W C Wx l))
    (hn : (fnames.all fun f => decide (m ≠ f)) = true := by decide +kernel) (hst : starEach (e :: es) X.env = (false, eval e X.env) :: starEach es X.env := by rfl) (hpl : (backTo pos (starEach es X.env)).any (·.1) = false := by rfl)
    (ht : eval (.Call (.Attribute o m apos) (e :: es) [] pos) X.env = (do let ov ← eval o X.env; standAt apos.atName; let (f, first) ← holding [ov] (getMethod ov m pl); callWith pos f first (backTo pos (starEach (e :: es) X.env)) (backToKw pos (keywordEach [] X.env))) := by rfl) :
    PE X (.Call (.Attribute o m apos) (e :: es) [] pos) (dE W C Wx (.vmeth f io l)) := by
  refine ⟨fun pins s σ H Q I ⟨r, st, env, p, q, g⟩ => ?_⟩
  refine PySem.W.methodCall_KW (pl := pl) (thn (ho.run pins s σ H (fun x H1 => ∃ r1 st1 y, Ext r H r1 H1 ∧ Rep W r1 st1 H1 ∧ Rel W r1 H1 y x ∧ Good W (match insOf st1 y with | some _ => ((ev C l env st1).bind fun x st2 => match x with | .tup as => (match insOf st2 y with | some _ => C f (y :: as) st2 | none => .no) | _ => .no) | none => .no) r1 H1 Q fun k H' => EX W Wx k σ H') I ⟨r, st, env, p, q, Good.seq g fun y st1 r1 H1 x e1 p1 q1 g1 => ⟨r1, st1, y, e1, p1, q1, g1⟩⟩) fun u s1 ⟨x, H1, I1, rx, r1, st1, y, e1, p1, q1, g1⟩ => ?_) ht
  cases h1 : insOf st1 y with
  | none => rw [h1] at g1; exact g1.elim
  | some nf =>
    obtain ⟨n, fs⟩ := nf
    rw [h1] at g1
    have g1 : Good W ((ev C l env st1).bind fun x st2 => match x with | .tup as => (match insOf st2 y with | some _ => C f (y :: as) st2 | none => .no) | _ => .no) r1 H1 Q fun k H' => EX W Wx k σ H' := g1
    obtain ⟨ey, a, dx, ys, rfl, hrn, haa, ql, hl⟩ := insOf_rel p1 h1 q1
    cases rx
    refine getmeth_ok I1 haa v.cl hm (zip_none (mnames m hn) ys) ?_
    have h : dA W C Wx l σ H1 fun vs H2 => ∃ r2 st2 as, Ext r1 H1 r2 H2 ∧ Rep W r2 st2 H2 ∧ RelL W r2 H2 as vs ∧ Good W (match insOf st2 y with | some _ => C f (y :: as) st2 | none => .no) r2 H2 Q fun k H' => EX W Wx k σ H' := by
      refine ⟨r1, st1, env, p1, q.ext e1, ?_⟩
      cases h2 : ev C l env st1 with
      | no => rw [h2] at g1; exact g1
      | exc k st2 => rw [h2] at g1; exact g1
      | ok w st2 =>
        rw [h2] at g1
        cases w with
        | tup as => exact fun r2 H2 xs e2 p2 q2 => ⟨r2, st2, as, e2, p2, q2, Good.ext e2 g1⟩
        | _ => exact (show False from g1).elim
    refine PySem.W.callWith_K (first := [.ref a]) (h₀ := X.base) I.ok.mod.kin hm.kp (thn (ha.run pos pins s1 σ H1 _ I1 h) fun us s2 ⟨vs, H2, I2, rv, r2, st2, as, e2, p2, q2, g2⟩ => ⟨I2.kIn, ?_⟩) hst hpl
    cases h3 : insOf st2 y with
    | none => rw [h3] at g2; exact g2.elim
    | some _ =>
      rw [h3] at g2
      exact run_m (as := y :: as) (us := .ref a :: us) (vs := .ref a :: vs) T hr tk I2 (.cons rfl rv) p2 ⟨_, _, rfl, q1.ext e2, q2⟩ g2
theorem e_vmeth0 {k f : Nat} {m : Str} {o : Expr} {io : E} {apos pos : Pos} {pl : Sem Bool} (v : Vw X.K W) (hm : Meth X.K W.va m (W.fa f)) (T : Tabs X.prog X.w X.K X.mg X.base W C k) (hr : Room k X.A) (tk : TakesN X Wx) (ho : PE X o (dE W C Wx io))
    (hn : (fnames.all fun f => decide (m ≠ f)) = true := by decide +kernel)
    (ht : eval (.Call (.Attribute o m apos) [] [] pos) X.env = (do let ov ← eval o X.env; standAt apos.atName; let (f, first) ← holding [ov] (getMethod ov m pl); callWith pos f first (backTo pos (starEach [] X.env)) (backToKw pos (keywordEach [] X.env))) := by rfl) :
    PE X (.Call (.Attribute o m apos) [] [] pos) (dE W C Wx (.vmeth f io .nil)) := by
  refine ⟨fun pins s σ H Q I ⟨r, st, env, p, q, g⟩ => ?_⟩
  refine PySem.W.methodCall_KW (pl := pl) (thn (ho.run pins s σ H (fun x H1 => ∃ r1 st1 y, Ext r H r1 H1 ∧ Rep W r1 st1 H1 ∧ Rel W r1 H1 y x ∧ Good W (match insOf st1 y with | some _ => (match insOf st1 y with | some _ => C f [y] st1 | none => .no) | none => .no) r1 H1 Q fun k H' => EX W Wx k σ H') I ⟨r, st, env, p, q, Good.seq g fun y st1 r1 H1 x e1 p1 q1 g1 => ⟨r1, st1, y, e1, p1, q1, g1⟩⟩) fun u s1 ⟨x, H1, I1, rx, r1, st1, y, e1, p1, q1, g1⟩ => ?_) ht
  cases h1 : insOf st1 y with
  | none => rw [h1] at g1; exact g1.elim
  | some nf =>
    obtain ⟨n, fs⟩ := nf
    rw [h1] at g1
    obtain ⟨ey, a, dx, ys, rfl, hrn, haa, ql, hl⟩ := insOf_rel p1 h1 q1
    cases rx
    refine getmeth_ok I1 haa v.cl hm (zip_none (mnames m hn) ys) ?_
    exact PySem.W.callWith_K0 (first := [.ref a]) I1.kIn hm.kp (run_m (as := [y]) (us := [.ref a]) (vs := [.ref a]) T hr tk I1 (.cons rfl .nil) p1 ⟨_, _, rfl, q1, rfl⟩ g1)
/-! ### a new instance -/
theorem run_mk {k f : Nat} {as : List Val} {st : Sto} {r : Pl} {pins : List (Addr × Obj)} {σ : St} {H : Hp} {s : Shared} {Q : VK} {us : List Value} {vs : List V} (M : Mk X.K W.va (W.fa f)) (T : Tabs X.prog X.w X.K X.mg X.base W C k) (hr : Room (k + 1) X.A) (tk : TakesN X Wx)
    (I : Inv X pins σ H s) (rv : Vals vs us) (p : Rep W r st H) (q : RelL W r H as vs) (g : Good W ((C f (.ref st.length :: as) (st ++ [Ob.ins []])).bind fun v st2 => match v with | .non => .ok (.ref st.length) st2 | _ => .no) r H Q fun k H' => EX W Wx k σ H') :
    wpAny (model X.prog X.w) X.A (call (.ref W.va) us) (EP X pins σ Q) X.xe s := by
  have hne : C f (.ref st.length :: as) (st ++ [Ob.ins []]) ≠ .no := fun e => by rw [e] at g; exact g
  obtain ⟨fd, ps, hl, F, b⟩ := T.fn f _ _ hne
  have hx : H (s.heap.objs.size + 1) = none := I.hok.fresh (Nat.le_succ _)
  have hd : H s.heap.objs.size = none := I.hok.fresh (Nat.le_refl _)
  have I2 := Inv.made (C := W.va) I
  have x1 : Ext r H r (upd H s.heap.objs.size (.own (s.heap.objs.size + 1))) := .new hd
  have p1 : Rep W r st (upd H s.heap.objs.size (.own (s.heap.objs.size + 1))) := p.new hd
  have hx1 : upd H s.heap.objs.size (.own (s.heap.objs.size + 1)) (s.heap.objs.size + 1) = none := by rw [upd_ne (Nat.succ_ne_self _)]; exact hx
  have x2 := Ext.plus (o := .ins W.va s.heap.objs.size []) p1 hx1
  have p2 := p1.plus (u := .ins W.va s.heap.objs.size []) (o := .ins []) hx1 ⟨s.heap.objs.size, [], upd_same, rfl, Nat.zero_le _⟩
  have q2 : RelL W (plus r st.length (s.heap.objs.size + 1)) (upd (upd H s.heap.objs.size (.own (s.heap.objs.size + 1))) (s.heap.objs.size + 1) (.ins W.va s.heap.objs.size [])) (.ref st.length :: as) (.ref (s.heap.objs.size + 1) :: vs) :=
    ⟨_, _, rfl, ⟨_, rfl, by rw [plus_at, if_pos rfl]⟩, (q.ext x1).ext x2⟩
  have r2 : Vals (V.ref (s.heap.objs.size + 1) :: vs) (Value.ref (s.heap.objs.size + 1) :: us) := .cons rfl rv
  have sp : spG W C f ps.length (V.ref (s.heap.objs.size + 1) :: vs) (upd (upd H s.heap.objs.size (.own (s.heap.objs.size + 1))) (s.heap.objs.size + 1) (.ins W.va s.heap.objs.size [])) (fun v H2 => v = .non ∧ Q (.ref (s.heap.objs.size + 1)) H2) (WE Wx σ) := by
    refine ⟨q2.len.symm.trans hl, _, _, _, p2, q2, ?_⟩
    cases hc : C f (.ref st.length :: as) (st ++ [Ob.ins []]) with
    | no => exact hne hc
    | exc j st2 =>
      rw [hc] at g
      exact fun r3 H3 e3 p3 => g r3 H3 ((x1.trans x2).trans e3) p3
    | ok w st2 =>
      rw [hc] at g
      intro r3 H3 y e3 p3 q3
      cases w with
      | non => exact ⟨q3, g r3 H3 _ ((x1.trans x2).trans e3) p3 ⟨_, rfl, e3.mono _ _ (by rw [plus_at, if_pos rfl])⟩⟩
      | _ => exact (show False from g).elim
  have hll : (Value.ref (s.heap.objs.size + 1) :: us ++ []).length = ps.length := by
    rw [List.append_nil, ← r2.length]
    exact sp.1
  refine wpAny_call (make_map (f := W.fa f) I.kIn M.makes M.init (beq_iff_eq.mp M.fn) (codeAny_mono (F.run _ X.stack _ _ ⟨Value.ref (s.heap.objs.size + 1) :: us, []⟩ (Value.ref (s.heap.objs.size + 1) :: us ++ []) _ _ (WE Wx σ) (hr.make W.va us [])
    (I2.env0.make W.va us []) (b _ (Value.ref (s.heap.objs.size + 1) :: us) I2.kIn hll) (by rw [List.append_nil]; exact r2) sp) fun fl s' hq' => ?_))
  cases fl with
  | error e => exact L2N.passAt tk σ pins _ _ e s' I2 hq'
  | ok fl =>
    cases fl with
    | ret u =>
      obtain ⟨v, H', I3, rv', ev, q3⟩ := I2.after hq'
      subst ev
      exact ⟨rv', ⟨V.ref (s.heap.objs.size + 1), H', I3, rfl, q3⟩⟩
    | next => exact False.elim hq'
    | brk => exact False.elim hq'
    | cont => exact False.elim hq'
theorem e_mk {k f : Nat} {x : Str} {e : Expr} {es : List Expr} {l : E} {q pos : Pos} (M : Mk X.K W.va (W.fa f)) (T : Tabs X.prog X.w X.K X.mg X.base W C k) (hr : Room (k + 1) X.A) (tk : TakesN X Wx) (hg : Gl X x) (hm : X.mg x = some (.ref W.va)) (ha : PA X (e :: es) (dA W C Wx l))
    (hdb : (x == ("__debug__" : Str)) = false := by decide) (he : starEach (e :: es) X.env = (false, eval e X.env) :: starEach es X.env := by rfl) (hpl : (backTo pos (starEach es X.env)).any (·.1) = false := by rfl) :
    PE X (.Call (.Name x q) (e :: es) [] pos) (dE W C Wx (.mk f l)) := by
  refine ⟨fun pins s σ H Q I ⟨r, st, env, p, q, g⟩ => ?_⟩
  refine wpAny_Call_Name_kw (ld_glob I hg hm ?_ hdb)
  have g : Good W ((ev C l env st).bind fun x st1 => match x with | .tup as => ((C f (.ref st1.length :: as) (st1 ++ [Ob.ins []])).bind fun v st2 => match v with | .non => .ok (.ref st1.length) st2 | _ => .no) | _ => .no) r H Q fun k H' => EX W Wx k σ H' := g
  have h : dA W C Wx l σ H fun vs H1 => ∃ r1 st1 as, Rep W r1 st1 H1 ∧ RelL W r1 H1 as vs ∧ Good W ((C f (.ref st1.length :: as) (st1 ++ [Ob.ins []])).bind fun v st2 => match v with | .non => .ok (.ref st1.length) st2 | _ => .no) r1 H1 Q fun k H' => EX W Wx k σ H' := by
    refine ⟨r, st, env, p, q, ?_⟩
    cases h1 : ev C l env st with
    | no => rw [h1] at g; exact g
    | exc k st1 => rw [h1] at g; exact g
    | ok v st1 =>
      rw [h1] at g
      cases v with
      | tup as => exact fun r1 H1 xs e1 p1 q1 => ⟨r1, st1, as, p1, q1, Good.ext e1 g⟩
      | _ => exact (show False from g).elim
  refine PySem.W.callWith_K (h₀ := X.base) I.ok.mod.kin M.kp (thn (ha.run pos pins s σ H _ I h) fun us s1 ⟨vs, H1, I1, rv, r1, st1, as, p1, q1, g1⟩ => ⟨I1.kIn, ?_⟩) he hpl
  exact run_mk M T hr tk I1 rv p1 q1 g1
end
end G

end

section
/-! len of an instance; what is never reached. -/
namespace G
open PySem PySem.Spec PyProof.Rows L2
section
variable {X : Cx} {W : Wd} {C : Calls} {Wx : WX}
theorem e_cut {e : Expr} : PE X e (dE W C Wx nulE) := ⟨fun pins s σ H Q I ⟨r, st, env, p, q, g⟩ => (show False from g).elim⟩
theorem s_cut {l : List Stmt} : PSs X l (dS W C Wx nulS) := ⟨fun pins s σ H D I ⟨r, st, env, p, q, g⟩ => (show False from g).elim⟩
/-- a run of a method that does not raise, one frame of the machine further in -/
theorem run_in {k f : Nat} {as : List Val} {st : Sto} {r : Pl} {pins : List (Addr × Obj)} {σ : St} {H : Hp} {s : Shared} {Q : VK} {Qv : Value → Shared → Prop} {us : List Value} {vs : List V} {A' : Around} (T : Tabs X.prog X.w X.K X.mg X.base W C k) (hr : Room k A') (e0 : Env0 X.prog X.w X.K X.mg X.base A' X.stack s H)
    (I : Inv X pins σ H s) (rv : Vals vs us) (p : Rep W r st H) (q : RelL W r H as vs) (g : Good W (C f as st) r H Q fun _ _ => False) (hQ : ∀ u s', EP X pins σ Q u s' → Qv u s') : wpAny (model X.prog X.w) A' (call (.ref (W.fa f)) us) Qv X.xe s := by
  obtain ⟨fd, ps, hl, F, b⟩ := T.fn f as st g.noNo
  have hlen : vs.length = ps.length := q.len.symm.trans hl
  have hll : (us ++ []).length = ps.length := by rw [List.append_nil, ← rv.length]; exact hlen
  have sp : spG W C f ps.length vs H Q (fun _ _ _ => False) := ⟨hlen, r, st, as, p, q, g⟩
  have hb := b s us I.kIn hll
  rw [List.append_nil] at hb
  refine wpAny_call (codeAny_mono (F.run A' X.stack s H ⟨us, []⟩ us vs Q (fun _ _ _ => False) hr e0 hb rv sp) fun fl s' hq => ?_)
  cases fl with
  | error e => exact (no_cx2 hq).elim
  | ok fl =>
    cases fl with
    | ret u => exact hQ u s' (I.after hq)
    | next => exact hq.elim
    | brk => exact hq.elim
    | cont => exact hq.elim
theorem e_vlen {k f : Nat} {e : Expr} {ie : E} {p pos : Pos} (v : Vw X.K W) (hm : Meth X.K W.va "__len__" (W.fa f)) (T : Tabs X.prog X.w X.K X.mg X.base W C k) (hr : Room (k + 1) X.A) (tk : TakesN X Wx) (hg : Gl X "len") (hml : X.mg "len" = none) (he : PE X e (dE W C Wx ie))
    (hst : starEach [e] X.env = (false, eval e X.env) :: starEach [] X.env := by rfl) (hpl : (backTo pos (starEach [] X.env)).any (·.1) = false := by rfl) : PE X (.Call (.Name "len" p) [e] [] pos) (dE W C Wx (.vfn f ie)) := by
  have cr : CallR X (.builtin "len") (fun xs H Q => ∃ r st y n fs, Rep W r st H ∧ (∃ x, xs = [x] ∧ Rel W r H y x) ∧ insOf st y = some (n, fs) ∧ ∃ E, Good W (vfnR (C f [y] st)) r H Q E ∧ ∃ i st2, C f [y] st = .ok (.int i) st2) := by
    intro pins s σ H xs us Q I rv ⟨r, st, y, n, fs, pp, ⟨x, ex, qx⟩, hi, E, g, i, st2, hc⟩
    subst ex
    obtain ⟨ey, a, dx, ys, rfl, hrn, ha, ql, hl⟩ := insOf_rel pp hi qx
    rw [Vals.ref1 rv]
    obtain ⟨mA, O, _, _, _, _⟩ := ins_get I.hok ha
    obtain ⟨od, J, _⟩ := O.look
    obtain ⟨m, hF⟩ := I.fr
    rw [hc] at g
    cases i with
    | negSucc j => exact (show False from g).elim
    | ofNat j =>
      have g : Good W (match Nat.ble j lineN with | true => .ok (.int (.ofNat j)) st2 | false => .no) r H Q E := g
      cases hb : Nat.ble j lineN with
      | false => rw [hb] at g; exact g.elim
      | true =>
        rw [hb] at g
        have hj : j ≤ 100000 := Nat.le_of_ble_eq_true hb
        refine PySem.W.len_K hF I.ok.mod.kin J hm.at_ hm.fn (run_in (Q := fun z H' => z = .int (.ofNat j) ∧ Q z H') T hr.in1 I.env0.in1 I (us := [.ref a]) (vs := [.ref a]) (as := [y]) (.cons rfl .nil) pp ⟨_, _, rfl, qx, rfl⟩ ?_ fun u s' ⟨z, H', I', rz, ez, qz⟩ => ?_)
        · rw [hc]
          exact fun r' H' x' e1 p1 q1 => ⟨q1, g r' H' x' e1 p1 q1⟩
        · subst ez
          obtain ⟨t, rfl⟩ := rz
          refine ⟨⟨by show (0 : Int) ≤ (j : Int); omega, by show (j : Int) < 2 ^ 63; omega⟩, .int (.ofNat j), H', I'.tok _, ⟨_, rfl⟩, qz⟩
  refine peI (pe_callB cr hg hml boot_len (pa_cons he pa_nil hst) (he := hst) (hpl := hpl)) fun σ H Q ⟨r, st, env, p, q, g⟩ => ⟨r, st, env, p, q, Good.seq g fun y st1 r1 H1 x e1 p1 q1 g1 => ?_⟩
  cases h1 : insOf st1 y with
  | none => rw [h1] at g1; exact g1.elim
  | some nf =>
    obtain ⟨n, fs⟩ := nf
    rw [h1] at g1
    have g1 : Good W (vfnR (C f [y] st1)) r1 H1 Q _ := g1
    refine ⟨r1, st1, y, n, fs, p1, ⟨x, rfl, q1⟩, h1, _, g1, ?_⟩
    cases hc : C f [y] st1 with
    | no => rw [hc] at g1; exact (show False from g1).elim
    | exc j st2 => rw [hc] at g1; exact (show False from g1).elim
    | ok w st2 =>
      rw [hc] at g1
      cases w with
      | int i => exact ⟨i, st2, rfl⟩
      | _ => exact (show False from g1).elim
end
end G

end

section
/-! isinstance(x, C), x == y by the class's own __eq__. -/
namespace G
open PySem PySem.Spec PyProof.Rows L2
/-- what the class must have to be asked for -/
structure Vi (K : PySem.W.Frag) (W : Wd) : Prop where
  ha : PySem.W.findIn K (.ref W.va) "__class__" = some (some (.builtin "object.__class__"))
  hn : PySem.W.specialIn K (.builtin "object.__class__") "__get__" = some (some (.builtin "getset_descriptor.__get__"))
  ht : PySem.W.takesIn K (.builtin "object.__class__") = some true
  hm : PySem.W.mroIn K W.va (.type "object") = some true
  c : PySem.W.isClsIn K W.va = true
  t : PySem.W.typeIn K (.ref W.va) = some (.type "type")
  sl : PySem.W.subIn K (.type "list") (.ref W.va) = some false
  sn : PySem.W.subIn K (.type "NoneType") (.ref W.va) = some false
section
variable {X : Cx} {W : Wd} {C : Calls} {Wx : WX} {r : Pl} {st : Sto} {H : Hp}
theorem val_ty (v : Vw X.K W) (i : Vi X.K W) (p : Rep W r st H) {y : Val} {x : V} {b : Bool} (h : isIns st y = some b) (q : Rel W r H y x) : ∃ ty, TyX X.K H x ty ∧ PySem.W.kitOne X.K ty (.ref W.va) = some b ∧ PySem.W.notFirst X.K W.va ty = true := by
  have kl : ∀ T : String, PySem.W.subIn X.K (.type T) (.ref W.va) = some false → PySem.W.kitOne X.K (.type T) (.ref W.va) = some false ∧ PySem.W.notFirst X.K W.va (.type T) = true := fun T hs => by
    refine ⟨?_, ?_⟩
    · unfold PySem.W.kitOne
      rw [if_neg (by intro z; cases beq_iff_eq.mp z)]
      show (if ((PySem.W.clsIn X.K W.va).isSome && PySem.W.typeIn X.K (.ref W.va) == some (.type "type")) = true then PySem.W.subIn X.K (.type T) (.ref W.va) else none) = some false
      have h1 : (PySem.W.clsIn X.K W.va).isSome = true := i.c
      rw [h1, i.t, if_pos (by simp)]
      exact hs
    · unfold PySem.W.notFirst
      rw [hs]
      simp
  cases y with
  | non =>
    cases (show some false = some b from h)
    cases (show x = .non from q)
    exact ⟨.type "NoneType", .base .non, kl _ i.sn⟩
  | tl xs =>
    cases (show some false = some b from h)
    obtain ⟨a, ys, rfl, _, ha, _⟩ := q
    exact ⟨.type "list", .base (.lst ha), kl _ i.sl⟩
  | ref n =>
    obtain ⟨a, rfl, hr⟩ := q
    obtain ⟨o, ho, qo⟩ := p.at_ hr
    have h : (match st[n]? with | some (.ins _) => some true | some (.lst _) => some false | _ => none) = some b := h
    rw [ho] at h
    cases o with
    | lst xs =>
      cases h
      obtain ⟨ys, ha, _⟩ := qo
      exact ⟨.type "list", .base (.lst ha), kl _ i.sl⟩
    | ins fs =>
      cases h
      obtain ⟨dx, ys, ha, _, _⟩ := qo
      refine ⟨.ref W.va, .base (.ins ha v.cl i.ha i.hn i.ht i.hm), ?_, ?_⟩
      · unfold PySem.W.kitOne
        rw [if_pos (by simp)]
      · unfold PySem.W.notFirst
        simp
    | _ => cases h
  | _ => cases h
theorem e_isV {e : Expr} {ie : E} {p p2 pos : Pos} (v : Vw X.K W) (i : Vi X.K W) (hg : Gl X "isinstance") (hm : X.mg "isinstance" = none) (he : PE X e (dE W C Wx ie)) (hg2 : Gl X "Viewer") (hm2 : X.mg "Viewer" = some (.ref W.va))
    (hs : starEach [e, .Name "Viewer" p2] X.env = (false, eval e X.env) :: starEach [.Name "Viewer" p2] X.env := by rfl) (hs2 : starEach [.Name "Viewer" p2] X.env = (false, eval (.Name "Viewer" p2) X.env) :: starEach [] X.env := by rfl) (hpl : (backTo pos (starEach [.Name "Viewer" p2] X.env)).any (·.1) = false := by rfl) :
    PE X (.Call (.Name "isinstance" p) [e, .Name "Viewer" p2] [] pos) (dE W C Wx (.isV ie)) := by
  refine peI (pe_callB call_isi hg hm boot_isinstance (pa_cons he (pa_cons (pe_glob hg2 hm2 (show RelV (.ref W.va) _ from rfl)) pa_nil hs2) hs) (he := hs) (hpl := hpl)) fun σ H Q ⟨r, st, env, p, q, g⟩ => ⟨r, st, env, p, q, Good.seq g fun y st1 r1 H1 x e1 p1 q1 g1 => ?_⟩
  cases h1 : isIns st1 y with
  | none => rw [h1] at g1; exact g1.elim
  | some b =>
    rw [h1] at g1
    obtain ⟨ty, a1, a2, _⟩ := val_ty v i p1 h1 q1
    exact ⟨x, .ref W.va, ty, _, b, rfl, .own _, a1, a2, g1 r1 H1 _ .refl p1 rfl⟩
/-- x == y, x an instance -/
def rVe (W : Wd) (C : Calls) (f : Nat) : R2 := fun x y H Q => ∃ r st u w n fs bb, Rep W r st H ∧ Rel W r H u x ∧ Rel W r H w y ∧ insOf st u = some (n, fs) ∧ isIns st w = some bb ∧ ∃ E c st2, C f [u, w] st = .ok (.bl c) st2 ∧ Good W (.ok (.bl c) st2) r H Q E
theorem o_veq {k f : Nat} (v : Vw X.K W) (i : Vi X.K W) (hm : Meth X.K W.va "__eq__" (W.fa f)) (T : Tabs X.prog X.w X.K X.mg X.base W C k) (hr : Room (k + 1) X.A) : OpR X (compareOp .Eq) (rVe W C f) := by
  intro pins s σ H x y vx vy Q I rx ry ⟨r, st, u, w, n, fs, bb, pp, qu, qw, hi, hw, E, c, st2, hc, g⟩
  obtain ⟨eu, ad, dx, ys, rfl, hrn, haa, ql, hl⟩ := insOf_rel pp hi qu
  cases rx
  obtain ⟨mA, O, _, _, _, _⟩ := ins_get I.hok haa
  obtain ⟨od, J, _⟩ := O.look
  obtain ⟨m, hF⟩ := I.fr
  obtain ⟨ty, t1, t2, t3⟩ := val_ty v i pp hw qw
  obtain ⟨P, Z, hP, _⟩ := kit_of I ry t1
  show wpAny _ _ (richCompare .Eq (.ref ad) vy) _ _ _
  refine PySem.W.cmp_K (op := .Eq) (tb := ty) hr.units0 hF I.ok.mod.kin J (Z.ty _ _ I.kIn hP) t3 hm.at_ hm.fn ?_
  refine run_in (Q := fun z H' => z = .bl c ∧ Q z H') (us := [.ref ad, vy]) (vs := [.ref ad, y]) (as := [u, w]) T (hr.mono (Nat.le_succ k)) I.env0 I (.cons rfl (.cons ry .nil)) pp ⟨_, _, rfl, qu, _, _, rfl, qw, rfl⟩ ?_ fun uu s' ⟨z, H', I', rz, ez, qz⟩ => ?_
  · rw [hc]
    exact fun r' H' x' e1 p1 q1 => ⟨q1, g r' H' x' e1 p1 q1⟩
  · subst ez
    cases rz
    exact ⟨.bl c, H', I', rfl, qz⟩
theorem veq_read {f : Nat} {ia ib : E} {σ : St} {H : Hp} {Q : VK} (h : dE W C Wx (.veq false f ia ib) σ H Q) : tOp (rVe W C f) (dE W C Wx ia) (dE W C Wx ib) σ H Q := by
  obtain ⟨r, st, env, p, q, g⟩ := h
  refine ⟨r, st, env, p, q, Good.seq g fun u st1 r1 H1 x e1 p1 q1 g1 => ?_⟩
  refine ⟨r1, st1, env, p1, q.ext e1, Good.seq g1 fun w st2 r2 H2 y e2 p2 q2 g2 => ?_⟩
  cases h1 : insOf st2 u with
  | none => rw [h1] at g2; exact g2.elim
  | some nf =>
    obtain ⟨n, fs⟩ := nf
    rw [h1] at g2
    have g2 : Good W (match isIns st2 w with | some _ => veqR false (C f [u, w] st2) | none => .no) r2 H2 Q _ := g2
    cases h2 : isIns st2 w with
    | none => rw [h2] at g2; exact g2.elim
    | some bb =>
      rw [h2] at g2
      have g2 : Good W (veqR false (C f [u, w] st2)) r2 H2 Q _ := g2
      cases hc : C f [u, w] st2 with
      | no => rw [hc] at g2; exact (show False from g2).elim
      | exc j st3 => rw [hc] at g2; exact (show False from g2).elim
      | ok z st3 =>
        rw [hc] at g2
        cases z with
        | bl c => exact ⟨r2, st2, u, w, n, fs, bb, p2, q1.ext e2, q2, h1, h2, _, c, st3, hc, g2⟩
        | _ => exact (show False from g2).elim
theorem e_veq {k f : Nat} {a b : Expr} {ia ib : E} {pos : Pos} (v : Vw X.K W) (i : Vi X.K W) (hm : Meth X.K W.va "__eq__" (W.fa f)) (T : Tabs X.prog X.w X.K X.mg X.base W C k) (hr : Room (k + 1) X.A) (ha : PE X a (dE W C Wx ia)) (hb : PE X b (dE W C Wx ib)) (hmk : behindInMarks .Eq b = false := by exact nomark _) :
    PE X (.Compare a [.Eq] [b] pos) (dE W C Wx (.veq false f ia ib)) := peI (pe_cmpR (o_veq v i hm T hr) ha hb hmk) fun σ H Q h => veq_read h
theorem t_veq {k f : Nat} {a b : Expr} {ia ib : E} {pos : Pos} (v : Vw X.K W) (i : Vi X.K W) (hm : Meth X.K W.va "__eq__" (W.fa f)) (T : Tabs X.prog X.w X.K X.mg X.base W C k) (hr : Room (k + 1) X.A) (ha : PE X a (dE W C Wx ia)) (hb : PE X b (dE W C Wx ib)) (hmk : behindInMarks .Eq b = false := by exact nomark _) :
    PT X (.Compare a [.Eq] [b] pos) (dT W C Wx (.veq false f ia ib)) := ptI (pt_cmpR (o_veq v i hm T hr) ha hb hmk) fun σ H Q h => veq_read (toT h)
end
end G

end

section
/-! xs[::-1]; max of four. -/
namespace G
open PySem PySem.Spec PyProof.Rows L2
section
variable {X : Cx} {W : Wd} {C : Calls} {Wx : WX}
theorem e_rev {e : Expr} {ie : E} {k : Nat} {p1 p2 p3 pos : Pos} (he : PE X e (dE W C Wx ie)) : PE X (.Subscript e (.Slice none none (some (.UnaryOp .USub (.Constant (.int 1) k p1) p2)) p3) pos) (dE W C Wx (.rev ie)) := by
  refine peI (pe_revL he) fun σ H Q ⟨r, st, env, p, q, g⟩ => ⟨r, st, env, p, q, Good.seq g fun y st1 r1 H1 x e1 p1 q1 g1 => ?_⟩
  have g1 : Good W (match items st1 y with | some xs => .ok (.tl xs.reverse) st1 | none => .no) r1 H1 Q _ := g1
  cases h1 : items st1 y with
  | none => rw [h1] at g1; exact g1.elim
  | some xs =>
    rw [h1] at g1
    obtain ⟨l, ws, rfl, hl, ql⟩ := items_rel p1 h1 q1
    exact ⟨l, ws, rfl, .of hl, fun d hd => g1 r1 _ _ (.new hd) (p1.new hd) ⟨d, _, rfl, p1.nfree hd, upd_same, ql.rev.ext (.new hd)⟩⟩
end
end G

end

section
/-! str(x) of an int, of a text, of an instance; x != y by the class's own __eq__. -/
namespace G
open PySem PySem.Spec PyProof.Rows L2
theorem room_in2 {k : Nat} {A : Around} (r : Room (k + 1) A) : Room k A.in1.in1 :=
  ⟨r.hd, by have h := r.dp; show A.depth + 3 * k + 5 < _; omega, by have h := r.un; show A.units + 1 + 1 + 16 * k + 200 < _; omega⟩
/-! the text of a small int -/
def tsOk (i : Int) : Bool := match strI i with
  | some s => decide ((Str.ofString (toString i)).cps.toList = s) && s.all (fun c => Nat.blt c 128) && Nat.ble s.length 9
  | none => false
theorem ts_pos : ∀ n : Nat, n < 100 → tsOk (.ofNat n) = true := by decide +kernel
theorem ts_neg : ∀ n : Nat, n < 99 → tsOk (.negSucc n) = true := by decide +kernel
theorem ts_all {i : Int} {s : List Nat} (h : strI i = some s) : (toString i : Str) = sOf s ∧ Asc s ∧ i.natAbs.log2 < 1920 := by
  have k : tsOk i = true ∧ i.natAbs < 100 := by
    cases i with
    | ofNat n =>
      have h : (match Nat.blt n 100 with | true => some (digit n) | false => none) = some s := h
      cases hb : Nat.blt n 100 with
      | false => rw [hb] at h; cases h
      | true => exact ⟨ts_pos n (Nat.le_of_ble_eq_true hb), Nat.le_of_ble_eq_true hb⟩
    | negSucc n =>
      have h : (match Nat.blt n 99 with | true => some (45 :: digit (n + 1)) | false => none) = some s := h
      cases hb : Nat.blt n 99 with
      | false => rw [hb] at h; cases h
      | true =>
        have := Nat.le_of_ble_eq_true hb
        exact ⟨ts_neg n this, by show n + 1 < 100; omega⟩
  obtain ⟨k, kb⟩ := k
  unfold tsOk at k
  rw [h] at k
  have k : (decide ((Str.ofString (toString i)).cps.toList = s) && s.all (fun c => Nat.blt c 128) && Nat.ble s.length 9) = true := k
  rw [Bool.and_eq_true, Bool.and_eq_true] at k
  obtain ⟨⟨k1, k2⟩, k3⟩ := k
  have k1 := of_decide_eq_true k1
  refine ⟨?_, ⟨?_, fun c hc => ?_⟩, ?_⟩
  · show Str.ofString (toString i) = sOf s
    rw [← k1]
    rfl
  · have := Nat.le_of_ble_eq_true k3
    omega
  · exact Nat.le_of_ble_eq_true (List.all_eq_true.mp k2 c hc)
  · have : i.natAbs.log2 ≤ i.natAbs := Nat.log2_le_self _
    omega
section
variable {X : Cx} {W : Wd} {C : Calls} {Wx : WX} {r : Pl} {st : Sto} {H : Hp}
theorem b_strI : CallR X (.type "str") (rBi W .strI) := by
  refine bi1 (not1 _ (fun _ _ _ => rfl) fun _ _ _ _ _ => rfl) fun a x r st E pins s σ H us Q I rv p q g => ?_
  cases a with
  | int i =>
    cases (show x = .int i from q)
    have g : Good W (match strI i with | some s => .ok (.str s) st | none => .no) r H Q E := g
    cases h1 : strI i with
    | none => rw [h1] at g; exact g.elim
    | some t =>
      rw [h1] at g
      obtain ⟨e1, e2, e3⟩ := ts_all h1
      exact call_str_int pins s σ H _ us Q I rv ⟨i, rfl, e3, g r H _ .refl p ⟨by rw [e1], e2⟩⟩
  | str t =>
    obtain ⟨rfl, ha⟩ := q
    have g : Good W (.ok (.str t) st) r H Q E := g
    exact SkE.call_str_str pins s σ H _ us Q I rv ⟨_, rfl, g r H _ .refl p ⟨rfl, ha⟩⟩
  | _ => exact (show False from g).elim
theorem e_vstr {k f : Nat} {e : Expr} {ie : E} {p pos : Pos} (v : Vw X.K W) (hm : Meth X.K W.va "__str__" (W.fa f)) (T : Tabs X.prog X.w X.K X.mg X.base W C k) (hr : Room (k + 1) X.A) (tk : TakesN X Wx) (hg : Gl X "str") (hml : X.mg "str" = none) (he : PE X e (dE W C Wx ie))
    (hst : starEach [e] X.env = (false, eval e X.env) :: starEach [] X.env := by rfl) (hpl : (backTo pos (starEach [] X.env)).any (·.1) = false := by rfl) : PE X (.Call (.Name "str" p) [e] [] pos) (dE W C Wx (.vstr f ie)) := by
  have cr : CallR X (.type "str") (fun xs H Q => ∃ r st y n fs, Rep W r st H ∧ (∃ x, xs = [x] ∧ Rel W r H y x) ∧ insOf st y = some (n, fs) ∧ ∃ E s0 st2, C f [y] st = .ok (.str s0) st2 ∧ Good W (.ok (.str s0) st2) r H Q E) := by
    intro pins s σ H xs us Q I rv ⟨r, st, y, n, fs, pp, ⟨x, ex, qx⟩, hi, E, s0, st2, hc, g⟩
    subst ex
    obtain ⟨ey, a, dx, ys, rfl, hrn, ha, ql, hl⟩ := insOf_rel pp hi qx
    rw [Vals.ref1 rv]
    obtain ⟨mA, O, _, _, _, _⟩ := ins_get I.hok ha
    obtain ⟨od, J, _⟩ := O.look
    refine PySem.W.kso_call (room_in2 hr).units0 I.kIn J hm.at_ hm.fn (run_in (Q := fun z H' => z = .str (sOf s0) ∧ Q z H') T (room_in2 hr) I.env0.in1.in1 I (us := [.ref a]) (vs := [.ref a]) (as := [y]) (.cons rfl .nil) pp ⟨_, _, rfl, qx, rfl⟩ ?_ fun u s' ⟨z, H', I', rz, ez, qz⟩ => ?_)
    · rw [hc]
      exact fun r' H' x' e1 p1 q1 => ⟨q1.1, g r' H' x' e1 p1 q1⟩
    · subst ez
      obtain ⟨t, rfl⟩ := rz
      exact ⟨.str (sOf s0), H', I', ⟨_, rfl⟩, qz⟩
  refine peI (pe_callTy cr hg hml (by decide +kernel) (pa_cons he pa_nil hst) (by decide) (by decide) hst hpl) fun σ H Q ⟨r, st, env, p, q, g⟩ => ⟨r, st, env, p, q, Good.seq g fun y st1 r1 H1 x e1 p1 q1 g1 => ?_⟩
  cases h1 : insOf st1 y with
  | none => rw [h1] at g1; exact g1.elim
  | some nf =>
    obtain ⟨n, fs⟩ := nf
    rw [h1] at g1
    have g1 : Good W (vstrR (C f [y] st1)) r1 H1 Q _ := g1
    cases hc : C f [y] st1 with
    | no => rw [hc] at g1; exact (show False from g1).elim
    | exc j st2 => rw [hc] at g1; exact (show False from g1).elim
    | ok w st2 =>
      rw [hc] at g1
      cases w with
      | str t => exact ⟨r1, st1, y, n, fs, p1, ⟨x, rfl, q1⟩, h1, _, t, st2, hc, g1⟩
      | _ => exact (show False from g1).elim
end
/-! != -/
section
variable {prog : Program} {w : World} {A : Around} {E : Value → Shared → Prop} {s : Shared} {K : PySem.W.Frag} {x C f : Addr} {ox : Obj} {od : Option Obj} {b : Value}
/-- object.__ne__ asks the class's own __eq__ -/
theorem ne_body {Q : Fin → Shared → Prop} (hu : A.units < cLine) (Y : K.In s.heap) (J : PySem.W.InstAt s.heap x ox C od) (he : PySem.W.findIn K (.ref C) "__eq__" = some (some (.ref f))) (hf : PySem.W.isFn K (.ref f) = true)
    (h : wpAny (model prog w) A (call (.ref f) [.ref x, b]) (fun v s' => ∃ c, v = .bool c ∧ Q (.done (.ret (.bool (!c)))) s') E s) : wpAny (model prog w) A (Builtin.«object.__ne__» ⟨[.ref x, b], []⟩) Q E s := by
  unfold Builtin.«object.__ne__»
  repeat (first
    | with_reducible refine wpAny_cRoomFor hu ?_
    | (refine wpAny_bind (m := callSpecialIfBound? (.ref x) (Str.ofString "__eq__") [b]) (PySem.W.ifBound_K Y J he hf (wpAny_mono h (fun v s' hv => ?_) fun _ _ z => z))
       obtain ⟨c, rfl, hq⟩ := hv
       repeat (first | exact hq | exact wpAny_pure hq | exact wpAny_truthy_bool hq | (refine wpAny_bind (m := truthy (.bool _)) (wpAny_truthy_bool ?_)) | wp_step))
    | wp_step)
theorem ne_bound {M : Model} {args : List Value} {Q : Option Value → Shared → Prop} (Y : K.In s.heap) (J : PySem.W.InstAt s.heap x ox C od) (hn : PySem.W.findIn K (.ref C) "__ne__" = some (some (.builtin "object.__ne__")))
    (h : wpAny M A (call (.builtin "object.__ne__") (.ref x :: args)) (fun v => Q (some v)) E s) : wpAny M A (callSpecialIfBound? (.ref x) "__ne__" args) Q E s := by
  have tl : wpAny M A (call (.builtin "object.__ne__") ([.ref x] ++ args) >>= fun v => pure (some v)) Q E s := wpAny_bind (wpAny_mono h (fun _ _ z => wpAny_pure z) fun _ _ z => z)
  simp only [callSpecialIfBound?, bindSpecialIfBound?]
  refine wpAny_holding (wpAny_bind (wpAny_bind (wpAny_bind (J.type.here ((PySem.W.looks_findIn Y hn).here (wpAny_bind (wpAny_askSetting (wpAny_ite ?_))))))))
  split
  · exact wpAny_bind (wpAny_of_eq (F.cmp_object.ne.bind _) (wpAny_pure (by exact tl)))
  · exact wpAny_tryCatch (wpAny_bind (wpAny_of_eq (F.cmp_object.ne.bind _) (wpAny_pure (by exact tl))))
theorem ne_try {Q : Option Value → Shared → Prop} (hu : A.in1.units < cLine) (Y : K.In s.heap) (J : PySem.W.InstAt s.heap x ox C od) (hm : PySem.W.mroIn K C (.type "object") = some true) (hn : PySem.W.findIn K (.ref C) "__ne__" = some (some (.builtin "object.__ne__")))
    (he : PySem.W.findIn K (.ref C) "__eq__" = some (some (.ref f))) (hf : PySem.W.isFn K (.ref f) = true)
    (h : wpAny (model prog w) A.in1 (call (.ref f) [.ref x, b]) (fun v s' => ∃ c, v = .bool c ∧ Q (some (.bool (!c))) s') E s) : wpAny (model prog w) A (tryCompare (.ref x) "__ne__" b) Q E s := by
  unfold tryCompare
  refine wpAny_bind (ne_bound Y J hn (wpAny_call (codeAny_call_builtin F.cmp_object.ne.plain F.cmpEntry_ne (PySem.W.check_slot F.cmpKind_ne F.cmpSplit_ne (J.type.andThen (PySem.W.looks_mroIn Y hm)) (F.cmpArgs_ne _ _) (ne_body hu Y J he hf (wpAny_mono h (fun v s' hv => ?_) fun _ _ z => z))))))
  obtain ⟨c, rfl, hq⟩ := hv
  exact ⟨c, rfl, wpAny_pure hq⟩
theorem ne_rich {Q : Value → Shared → Prop} {tb : Value} (hu0 : A.units < cLine) (hu : A.in1.units < cLine) (Y : K.In s.heap) (J : PySem.W.InstAt s.heap x ox C od) (hb : PySem.W.Looks (model prog w) s.heap (typeOf b) tb) (h0 : PySem.W.notFirst K C tb = true) (hm : PySem.W.mroIn K C (.type "object") = some true)
    (hn : PySem.W.findIn K (.ref C) "__ne__" = some (some (.builtin "object.__ne__"))) (he : PySem.W.findIn K (.ref C) "__eq__" = some (some (.ref f))) (hf : PySem.W.isFn K (.ref f) = true)
    (h : wpAny (model prog w) A.in1 (call (.ref f) [.ref x, b]) (fun v s' => ∃ c, v = .bool c ∧ Q (.bool (!c)) s') E s) : wpAny (model prog w) A (richCompare .NotEq (.ref x) b) Q E s := by
  have once : wpAny (model prog w) A (tryCompare (.ref x) "__ne__" b) (fun r s' => ∃ c, r = some (Value.bool (!c)) ∧ Q (.bool (!c)) s') E s :=
    ne_try hu Y J hm hn he hf (wpAny_mono h (fun v s' ⟨c, e, q⟩ => ⟨c, e, c, rfl, q⟩) fun _ _ z => z)
  unfold richCompare
  simp only [oneThing_ref]
  refine wpAny_holding (wpAny_bind (wpAny_cRoomFor hu0 (wpAny_bind (J.type.here (wpAny_bind (hb.here ?_))))))
  split
  · rename_i ne
    have e : PySem.W.subIn K tb (.ref C) = some false := by
      rcases Bool.or_eq_true_iff.mp h0 with z | z
      · rw [beq_iff_eq.mp z] at ne
        simp at ne
      · exact beq_iff_eq.mp z
    refine wpAny_bind ((PySem.W.looks_subIn Y e).here ?_)
    simp only [Bool.false_eq_true, if_false]
    refine wpAny_bind (m := tryCompare (.ref x) _ b) (wpAny_mono once (fun r s' z => ?_) fun _ _ z => z)
    obtain ⟨c, rfl, hq⟩ := z
    exact wpAny_pure hq
  · refine wpAny_bind (wpAny_pure ?_)
    simp only [Bool.false_eq_true, if_false]
    refine wpAny_bind (m := tryCompare (.ref x) _ b) (wpAny_mono once (fun r s' z => ?_) fun _ _ z => z)
    obtain ⟨c, rfl, hq⟩ := z
    exact wpAny_pure hq
end
section
variable {X : Cx} {W : Wd} {C : Calls} {Wx : WX} {r : Pl} {st : Sto} {H : Hp}
/-- x != y, x an instance -/
def rVn (W : Wd) (C : Calls) (f : Nat) : R2 := fun x y H Q => ∃ r st u w n fs bb, Rep W r st H ∧ Rel W r H u x ∧ Rel W r H w y ∧ insOf st u = some (n, fs) ∧ isIns st w = some bb ∧ ∃ E c st2, C f [u, w] st = .ok (.bl c) st2 ∧ Good W (.ok (.bl (!c)) st2) r H Q E
theorem o_vne {k f : Nat} (v : Vw X.K W) (i : Vi X.K W) (hn : PySem.W.findIn X.K (.ref W.va) "__ne__" = some (some (.builtin "object.__ne__"))) (hm : Meth X.K W.va "__eq__" (W.fa f)) (T : Tabs X.prog X.w X.K X.mg X.base W C k) (hr : Room (k + 1) X.A) : OpR X (compareOp .NotEq) (rVn W C f) := by
  intro pins s σ H x y vx vy Q I rx ry ⟨r, st, u, w, n, fs, bb, pp, qu, qw, hi, hw, E, c, st2, hc, g⟩
  obtain ⟨eu, ad, dx, ys, rfl, hrn, haa, ql, hl⟩ := insOf_rel pp hi qu
  cases rx
  obtain ⟨mA, O, _, _, _, _⟩ := ins_get I.hok haa
  obtain ⟨od, J, _⟩ := O.look
  obtain ⟨ty, t1, t2, t3⟩ := val_ty v i pp hw qw
  obtain ⟨P, Z, hP, _⟩ := kit_of I ry t1
  show wpAny _ _ (richCompare .NotEq (.ref ad) vy) _ _ _
  refine ne_rich hr.units0 hr.in1.units0 I.kIn J (Z.ty _ _ I.kIn hP) t3 i.hm hn hm.at_ hm.fn ?_
  refine run_in (Q := fun z H' => z = .bl c ∧ Q (.bl (!c)) H') (us := [.ref ad, vy]) (vs := [.ref ad, y]) (as := [u, w]) T hr.in1 I.env0.in1 I (.cons rfl (.cons ry .nil)) pp ⟨_, _, rfl, qu, _, _, rfl, qw, rfl⟩ ?_ fun uu s' ⟨z, H', I', rz, ez, qz⟩ => ?_
  · rw [hc]
    exact fun r' H' x' e1 p1 q1 => ⟨q1, g r' H' _ e1 p1 rfl⟩
  · subst ez
    cases rz
    exact ⟨c, rfl, .bl (!c), H', I', rfl, qz⟩
theorem vne_read {f : Nat} {ia ib : E} {σ : St} {H : Hp} {Q : VK} (h : dE W C Wx (.veq true f ia ib) σ H Q) : tOp (rVn W C f) (dE W C Wx ia) (dE W C Wx ib) σ H Q := by
  obtain ⟨r, st, env, p, q, g⟩ := h
  refine ⟨r, st, env, p, q, Good.seq g fun u st1 r1 H1 x e1 p1 q1 g1 => ?_⟩
  refine ⟨r1, st1, env, p1, q.ext e1, Good.seq g1 fun w st2 r2 H2 y e2 p2 q2 g2 => ?_⟩
  cases h1 : insOf st2 u with
  | none => rw [h1] at g2; exact g2.elim
  | some nf =>
    obtain ⟨n, fs⟩ := nf
    rw [h1] at g2
    have g2 : Good W (match isIns st2 w with | some _ => veqR true (C f [u, w] st2) | none => .no) r2 H2 Q _ := g2
    cases h2 : isIns st2 w with
    | none => rw [h2] at g2; exact g2.elim
    | some bb =>
      rw [h2] at g2
      have g2 : Good W (veqR true (C f [u, w] st2)) r2 H2 Q _ := g2
      cases hc : C f [u, w] st2 with
      | no => rw [hc] at g2; exact (show False from g2).elim
      | exc j st3 => rw [hc] at g2; exact (show False from g2).elim
      | ok z st3 =>
        rw [hc] at g2
        cases z with
        | bl c => exact ⟨r2, st2, u, w, n, fs, bb, p2, q1.ext e2, q2, h1, h2, _, c, st3, hc, g2⟩
        | _ => exact (show False from g2).elim
theorem e_vne {k f : Nat} {a b : Expr} {ia ib : E} {pos : Pos} (v : Vw X.K W) (i : Vi X.K W) (hn : PySem.W.findIn X.K (.ref W.va) "__ne__" = some (some (.builtin "object.__ne__"))) (hm : Meth X.K W.va "__eq__" (W.fa f)) (T : Tabs X.prog X.w X.K X.mg X.base W C k) (hr : Room (k + 1) X.A) (ha : PE X a (dE W C Wx ia)) (hb : PE X b (dE W C Wx ib)) (hmk : behindInMarks .NotEq b = false := by exact nomark _) :
    PE X (.Compare a [.NotEq] [b] pos) (dE W C Wx (.veq true f ia ib)) := peI (pe_cmpR (o_vne v i hn hm T hr) ha hb hmk) fun σ H Q h => vne_read h
theorem t_vne {k f : Nat} {a b : Expr} {ia ib : E} {pos : Pos} (v : Vw X.K W) (i : Vi X.K W) (hn : PySem.W.findIn X.K (.ref W.va) "__ne__" = some (some (.builtin "object.__ne__"))) (hm : Meth X.K W.va "__eq__" (W.fa f)) (T : Tabs X.prog X.w X.K X.mg X.base W C k) (hr : Room (k + 1) X.A) (ha : PE X a (dE W C Wx ia)) (hb : PE X b (dE W C Wx ib)) (hmk : behindInMarks .NotEq b = false := by exact nomark _) :
    PT X (.Compare a [.NotEq] [b] pos) (dT W C Wx (.veq true f ia ib)) := ptI (pt_cmpR (o_vne v i hn hm T hr) ha hb hmk) fun σ H Q h => vne_read (toT h)
end
end G

end

section
/-! max of four ints. -/
namespace G
open PySem PySem.Spec PyProof.Rows L2
section
variable {prog : Program} {w : World} {A : Around} {E : Value → Shared → Prop} {s : Shared}
theorem mx4_args (p q r v : Value) : argsOk "max" ⟨[p, q, r, v], []⟩ := by unfold argsOk; kernel_rfl
theorem mx4_call {p q r v : Value} {Q : Value → Shared → Prop}
    (hyp : wpAny (model prog w) A.in1 (pyIter (.ref s.heap.objs.size)) (fun i s2 => ∃ I fp wr n P St bt, i = .ref I ∧ Walks prog w A.in1 I fp wr n P St ∧ St 0 s2.heap ∧ (∀ k ∈ fp, k < s2.heap.objs.size) ∧ 0 < n ∧ CmpOf prog w A.in1 .Gt P bt ∧
      ∀ z h' tk, P (argBest bt (n - 1)) z → (∀ k o, k ∉ wr → s2.heap.get? k = some o → h'.get? k = some o) → Q z { s2 with heap := h', toks := tk }) E
      { s with heap := s.heap.push { cls := .type "tuple", data := .seq #[p, q, r, v] } }) :
    wpAny (model prog w) A (call (.builtin "max") [p, q, r, v]) Q E s := by
  refine call_function_tree F.kind_max F.plain_max F.entry_max (mx4_args _ _ _ _) ?_
  show wpAny _ A.in1 (Builtin.Builtins.bindParams "max" ["key", "default"] 0 ⟨[], []⟩ >>= _) _ _ s
  refine wpAny_bind (wpAny_of_eq (rfl : Builtin.Builtins.bindParams "max" ["key", "default"] 0 ⟨[], []⟩ = pure [none, none]) ?_)
  show wpAny _ A.in1 (newTuple [p, q, r, v] >>= _) _ _ s
  refine wpAny_bind (wpAny_newObj_type (wpAny_bind (wpAny_mono hyp (fun i s2 g2 => ?_) fun _ _ z => z)))
  obtain ⟨I, fp, wr, n, P, St, bt, rfl, Wk, st0, lt, n0, cm, fin⟩ := g2
  refine wpAny_bind (wpAny_newObj_type ?_)
  have nin : s2.heap.objs.size ∉ fp := fun k => absurd (lt _ k) (Nat.lt_irrefl _)
  have nm : (toString "max" ++ toString ".loop" : String) = "max.loop" := by decide
  rw [nm]
  refine wpAny_pure ⟨plainId_quiet F.plain_max_loop _, codeAny_max_loop_first Wk bt cm s2.heap.objs.size nin n0 (Wk.frame _ _ _ st0 fun k _ o z => Heap.get?_push_of_some _ z) (Heap.get?_push_size _ rfl) fun z h' tk hz kp => ?_⟩
  exact fin z h' tk hz fun k o nk z => kp k o nk (Nat.ne_of_lt (Heap.lt_size z)) (Heap.get?_push_of_some _ z)
def mx4 (a b c e : Int) : Int := if (if (if a < b then b else a) < c then c else (if a < b then b else a)) < e then e else (if (if a < b then b else a) < c then c else (if a < b then b else a))
theorem mx4_ints {a b c e : Int} {t u x y : Tok} {Q : Value → Shared → Prop} (hh : A.handled = none)
    (h : ∀ h' tk k, (∀ d o, s.heap.get? d = some o → h'.get? d = some o) → Q (.int (mx4 a b c e) k) { s with heap := h', toks := tk }) :
    wpAny (model prog w) A (call (.builtin "max") [.int a t, .int b u, .int c x, .int e y]) Q E s := by
  have tp : (s.heap.push { cls := .type "tuple", data := .seq #[.int a t, .int b u, .int c x, .int e y] }).IsTuple s.heap.objs.size (intItems #[(a, t), (b, u), (c, x), (e, y)]) := ⟨_, Heap.get?_push_size _ rfl, rfl, 0, by simp [intItems]⟩
  refine mx4_call (wpAny_pyIter_tuple tp ?_)
  have sz : (s.heap.push { cls := .type "tuple", data := .seq #[.int a t, .int b u, .int c x, .int e y] }).objs.size = s.heap.objs.size + 1 := Heap.size_push ..
  refine ⟨_, [_, s.heap.objs.size], [_], _, _, _, _, rfl, Walks.tuple (A := A.in1) hh _ s.heap.objs.size (by rw [sz]; exact Nat.ne_of_lt (Nat.lt_succ_self _)) (intItems #[(a, t), (b, u), (c, x), (e, y)]),
    ⟨⟨_, Heap.get?_push_size _ rfl, rfl, rfl⟩, tp.push _⟩, fun d hd => ?_, by simp [intItems], CmpOf.ints_gt (numAt #[(a, t), (b, u), (c, x), (e, y)]) (fun _ _ => intItems_at), fun z h' tk hz kp => ?_⟩
  · show d < ((s.heap.push _).push _).objs.size
    rw [Heap.size_push, sz]
    rcases List.mem_cons.mp hd with k | k
    · rw [k, sz]; exact Nat.lt_succ_self _
    · rw [List.mem_singleton.mp k]; exact Nat.lt_succ_of_lt (Nat.lt_succ_self _)
  · have old : ∀ d o, s.heap.get? d = some o → h'.get? d = some o := fun d o g => by
      refine kp d o (fun k => ?_) (Heap.get?_push_of_some _ (Heap.get?_push_of_some _ g))
      have l := Heap.lt_size g
      rw [List.mem_singleton.mp k, sz] at l
      exact absurd (Nat.lt_of_succ_lt l) (Nat.lt_irrefl _)
    have hz' : (intItems #[(a, t), (b, u), (c, x), (e, y)])[argBest (fun i j => decide (numAt #[(a, t), (b, u), (c, x), (e, y)] i > numAt #[(a, t), (b, u), (c, x), (e, y)] j)) 3]? = some z := by
      have z3 : (intItems #[(a, t), (b, u), (c, x), (e, y)]).size - 1 = 3 := by simp [intItems]
      rw [← z3]
      exact hz
    have key : ∃ k, z = .int (mx4 a b c e) k := by
      by_cases k1 : a < b
      · by_cases k2 : b < c
        · by_cases k3 : c < e
          · refine ⟨y, ?_⟩; simpa [argBest, numAt, intItems, mx4, k1, k2, k3] using hz'.symm
          · refine ⟨x, ?_⟩; simpa [argBest, numAt, intItems, mx4, k1, k2, k3] using hz'.symm
        · by_cases k3 : b < e
          · refine ⟨y, ?_⟩; simpa [argBest, numAt, intItems, mx4, k1, k2, k3] using hz'.symm
          · refine ⟨u, ?_⟩; simpa [argBest, numAt, intItems, mx4, k1, k2, k3] using hz'.symm
      · by_cases k2 : a < c
        · by_cases k3 : c < e
          · refine ⟨y, ?_⟩; simpa [argBest, numAt, intItems, mx4, k1, k2, k3] using hz'.symm
          · refine ⟨x, ?_⟩; simpa [argBest, numAt, intItems, mx4, k1, k2, k3] using hz'.symm
        · by_cases k3 : a < e
          · refine ⟨y, ?_⟩; simpa [argBest, numAt, intItems, mx4, k1, k2, k3] using hz'.symm
          · refine ⟨t, ?_⟩; simpa [argBest, numAt, intItems, mx4, k1, k2, k3] using hz'.symm
    obtain ⟨k, rfl⟩ := key
    exact h h' tk k old
end
theorem mx4_max (a b c e : Int) : maxI [.int a, .int b, .int c, .int e] = some (mx4 a b c e) := by
  show some (if ilt a (if ilt b (if ilt c e = true then e else c) = true then (if ilt c e = true then e else c) else b) = true then (if ilt b (if ilt c e = true then e else c) = true then (if ilt c e = true then e else c) else b) else a) = _
  simp only [ilt_eq, decide_eq_true_eq, mx4]
  congr 1
  split <;> split <;> split <;> (repeat' split) <;> omega
section
variable {X : Cx} {W : Wd} {C : Calls} {Wx : WX}
theorem b_max4 (hc : X.calm = true) : CallR X (.builtin "max") (rBi W .max4) := by
  intro pins s σ H xs us Q I rv ⟨r, st, as, E, p, q, g⟩
  match as, q, g with
  | [a1, a2, a3, a4], q, g =>
    have g : Good W (match maxI [a1, a2, a3, a4] with | some i => .ok (.int i) st | none => .no) r H Q E := g
    cases hm : maxI [a1, a2, a3, a4] with
    | none => rw [hm] at g; exact g.elim
    | some m =>
      rw [hm] at g
      obtain ⟨ns, e⟩ := maxI_int hm
      match ns, e with
      | [a, b, c, d], e =>
        cases e
        rw [mx4_max] at hm
        cases hm
        obtain ⟨y1, s1, e1, h1, y2, s2, e2, h2, y3, s3, e3, h3, y4, s4, e4, h4, e5⟩ := q
        subst e1 e2 e3 e4
        cases (show y1 = .int a from h1)
        cases (show y2 = .int b from h2)
        cases (show y3 = .int c from h3)
        cases (show y4 = .int d from h4)
        cases (show s4 = [] from e5)
        cases rv with
        | cons r1 rv => cases rv with
          | cons r2 rv => cases rv with
            | cons r3 rv => cases rv with
              | cons r4 rv =>
                cases rv
                obtain ⟨t1, rfl⟩ := r1
                obtain ⟨t2, rfl⟩ := r2
                obtain ⟨t3, rfl⟩ := r3
                obtain ⟨t4, rfl⟩ := r4
                exact mx4_ints (I.ok.hd hc) fun h' tk k kp => ⟨.int (mx4 a b c d), H, I.kept kp, ⟨k, rfl⟩, g r H _ .refl p rfl⟩
      | [], e => cases e
      | [_], e => cases e
      | [_, _], e => cases e
      | [_, _, _], e => cases e
      | _ :: _ :: _ :: _ :: _ :: _, e => cases e
  | [], _, g => exact (show False from g).elim
  | [_], _, g => exact (show False from g).elim
  | [a1, a2], _, g => cases a1 <;> exact (show False from g).elim
  | [_, _, _], _, g => exact (show False from g).elim
  | _ :: _ :: _ :: _ :: _ :: _, _, g => exact (show False from g).elim
end
end G

end

section
/-! sorted(set(..)) of pairs of ints. -/
namespace G
open PySem PySem.Spec PyProof.Rows L2
section
variable {X : Cx} {W : Wd} {C : Calls} {Wx : WX}
/-- sorted of a set of pairs -/
def rSrtT (K : PySem.W.Frag) (P : Program) (w : World) : List V → Hp → VK → Prop := fun vs H Q => ∃ (a : Addr) (L : List (Addr × List Int)), vs = [V.ref a] ∧ H a = some (SetTO P w a L) ∧ (∀ p ∈ L, SqT K H p.1 (p.2.map V.int)) ∧
  (∀ p ∈ L, H p.1 = some (.tup [.int (prK H (.ref p.1)).1, .int (prK H (.ref p.1)).2])) ∧
  ∀ (ys : List V) (p : Addr), ys.Perm (L.map fun q => V.ref q.1) → (L.map (·.2)).Nodup → (ys.map (prK H)).Pairwise (fun a b => SrtO.lexB b a = false) → H p = none → Q (.ref p) (upd H p (.lst ys))
theorem cr_srtT (hc : X.calm = true) : CallR X (.builtin "sorted") (rSrtT X.K X.prog X.w) := by
  intro pins s σ H vs us0 Q I r0 h
  obtain ⟨a, L, rfl, ha, hk, hpr, q⟩ := h
  have R0 : SetT0 X.prog X.w s.heap a L := (I.hok a _ ha).1
  obtain ⟨es, ep, t, R⟩ := R0.full fun p hp => I.isT (hk p hp)
  rw [Vals.ref1 r0]
  obtain ⟨o, ho, hex, hd⟩ := R.ob
  have hsz := R.size
  have hfew := R.few
  refine Calls.call_function_entry kind_sorted plain_sorted entry_sorted (args_sorted1 _) ?_
  unfold Builtin.«sorted»
  refine wpAny_bind (m := checkCount "sorted" 1 1 _) (wpAny_pure (wpAny_bind (collect_set (A := X.A.in1) (I.ok.hd hc) ⟨o, ho, hex.1, hd⟩ R.fits (by unfold scanBound; omega) R.tab.ris R.led fun s1 us k1 hz g1 o1 pm => ?_)))
  have erow : es.toList.map (fun z => z.2) = L.map (fun p => Value.ref p.1) := by
    rw [R.rows]; unfold rowsOf; rw [List.map_map] <;> rfl
  rw [erow] at pm
  have v0 : Vals (L.map fun q => V.ref q.1) (L.map fun q => Value.ref q.1) := vals_of_refs L
  obtain ⟨ws, pw, rv⟩ := perm_vals pm v0
  have hlen0 : ws.length < 64 := by rw [pw.length_eq, List.length_map]; exact hfew
  have hzu : us.length ≤ sizeLine := by rw [← rv.length, sizeLine_eq]; omega
  have w2 : ∀ x ∈ ws, ∃ t, x = V.ref t ∧ H t = some (.tup [.int (prK H x).1, .int (prK H x).2]) := fun x hx => by
    obtain ⟨p, hp, rfl⟩ := List.mem_map.mp (pw.mem_iff.mp hx)
    exact ⟨p.1, rfl, hpr p hp⟩
  have hr : ∀ x ∈ ws, ∃ t, x = V.ref t := fun x hx => by obtain ⟨t, e, _⟩ := w2 x hx; exact ⟨t, e⟩
  refine wpAny_bind (wpAny_newList ?_ hzu)
  have hoL : (s1.heap.push (seqObj "list" us.toArray 0)).get? s1.heap.objs.size = some (seqObj "list" us.toArray 0) := Heap.get?_push_size _ rfl
  show wpAny _ _ _ _ _ { s1 with heap := s1.heap.push (seqObj "list" us.toArray 0) }
  refine wpAny_bind (wpAny_holding (wpAny_call_entry slot_list_sort ⟨_, hoL, rfl⟩ entry_list_sort
    (SrtO.list_sort_ord (s := { s1 with heap := s1.heap.push (seqObj "list" us.toArray 0) }) (SrtO.swo_lex fun u => prK H (backV u)) hoL hzu (fun h2 => SrtO.pairs_sortableO (by omega) (fun v hv => ?_) (not_tup hoL)) fun out h1 h2 => ⟨_, rfl, ?_⟩) (args_list_sort _)))
  · have hm : backV v ∈ ws := by rw [← vals_back rv hr]; exact List.mem_map.mpr ⟨v, hv, rfl⟩
    obtain ⟨t, e, ht⟩ := w2 _ hm
    obtain ⟨t', rfl⟩ := (refs_back rv hr).2 v hv
    cases e
    exact (is_pair I ht).keeps fun b u z _ => Heap.get?_push_of_some _ (k1 b u z)
  · obtain ⟨e', he'⟩ := sortedHeap_at (vs := us) (out := out.toArray) hoL
    obtain ⟨ys, pm2, ry⟩ := perm_vals h2.perm rv
    have hlen : ys.length ≤ sizeLine := by rw [pm2.length_eq, sizeLine_eq]; omega
    have hf : H s1.heap.objs.size = none := I.hok.fresh hz
    have hyr : ∀ x ∈ ys, ∃ t, x = V.ref t := fun x hx => hr x (pm2.mem_iff.mp hx)
    have eo := vals_back ry hyr
    have pw2 : (ys.map (prK H)).Pairwise fun a b => SrtO.lexB b a = false := by
      rw [← eo, List.map_map]
      exact List.pairwise_map.mpr h1
    have kp : ∀ b u, s.heap.get? b = some u → (sortedHeap (s1.heap.push (seqObj "list" us.toArray 0)) s1.heap.objs.size us out.toArray).get? b = some u := fun b u e => by
      have q1 := k1 b u e
      have hlt := Heap.lt_size q1
      rw [sortedHeap_old (Nat.ne_of_lt hlt) (by rw [size_push']; exact Nat.lt_succ_of_lt hlt)]
      exact Heap.get?_push_of_some _ q1
    have J : Inv X pins σ (upd H s1.heap.objs.size (.lst ys)) { s with heap := sortedHeap (s1.heap.push (seqObj "list" us.toArray 0)) s1.heap.objs.size us out.toArray, gens := s1.gens, drawn := s1.drawn, toks := s1.toks } :=
      I.call (ch := []) (Un.laid kp hz hf) (I.hok.laid kp hz ⟨hlen, out, e', ry, he'⟩) (by rw [g1]; exact I.bare) (fun _ z => nomatch z)
    have es2 : ({ s1 with heap := sortedHeap (s1.heap.push (seqObj "list" us.toArray 0)) s1.heap.objs.size us out.toArray } : Shared) = { s with heap := sortedHeap (s1.heap.push (seqObj "list" us.toArray 0)) s1.heap.objs.size us out.toArray, gens := s1.gens, drawn := s1.drawn, toks := s1.toks } := by
      cases s1
      cases s
      cases o1
      rfl
    refine wpAny_pure ⟨_, rfl, ?_⟩
    rw [es2]
    exact ⟨.ref s1.heap.objs.size, _, J, rfl, q ys _ (pm2.trans pw) R.nd pw2 hf⟩
/-! what sortU gives -/
def insL (a : Int × Int) : List (Int × Int) → List (Int × Int)
  | [] => [a]
  | x :: r => match SrtO.lexB a x with
    | true => a :: x :: r
    | false => match SrtO.lexB x a with
      | true => x :: insL a r
      | false => x :: r
def srtL : List (Int × Int) → List (Int × Int)
  | [] => []
  | x :: r => insL x (srtL r)
theorem insU_pr (a : Int × Int) : ∀ l : List (Int × Int), insU (prV a) (l.map prV) = (insL a l).map prV
  | [] => rfl
  | x :: l => by
    show (match vlt (prV a) (prV x) with | true => prV a :: prV x :: l.map prV | false => (match vlt (prV x) (prV a) with | true => prV x :: insU (prV a) (l.map prV) | false => prV x :: l.map prV)) = (insL a (x :: l)).map prV
    rw [vlt_pr, vlt_pr, insU_pr a l]
    show _ = (match SrtO.lexB a x with | true => a :: x :: l | false => (match SrtO.lexB x a with | true => x :: insL a l | false => x :: l)).map prV
    cases SrtO.lexB a x <;> cases SrtO.lexB x a <;> rfl
theorem sortU_pr : ∀ l : List (Int × Int), sortU (l.map prV) = (srtL l).map prV
  | [] => rfl
  | x :: l => by
    show insU (prV x) (sortU (l.map prV)) = (insL x (srtL l)).map prV
    rw [sortU_pr l, insU_pr]
theorem insL_mem (a z : Int × Int) : ∀ l : List (Int × Int), z ∈ insL a l ↔ z = a ∨ z ∈ l
  | [] => by simp [insL]
  | x :: l => by
    unfold insL
    cases h1 : SrtO.lexB a x with
    | true => simp
    | false =>
      cases h2 : SrtO.lexB x a with
      | true =>
        simp only [List.mem_cons, insL_mem a z l]
        constructor
        · rintro (h | h | h) <;> simp [h]
        · rintro (h | h | h) <;> simp [h]
      | false =>
        have e : a = x := by
          have k1 := SrtO.lexB_no.mp h1
          have k2 := SrtO.lexB_no.mp h2
          exact Prod.ext (by omega) (by omega)
        subst e
        simp
theorem srtL_mem (z : Int × Int) : ∀ l : List (Int × Int), z ∈ srtL l ↔ z ∈ l
  | [] => by simp [srtL]
  | x :: l => by
    show z ∈ insL x (srtL l) ↔ _
    rw [insL_mem, srtL_mem z l, List.mem_cons]
theorem insL_pw (a : Int × Int) : ∀ {l : List (Int × Int)}, l.Pairwise (fun p q => SrtO.lexB p q = true) → (insL a l).Pairwise (fun p q => SrtO.lexB p q = true)
  | [], _ => List.pairwise_singleton _ _
  | x :: l, h => by
    obtain ⟨h0, h3⟩ := List.pairwise_cons.mp h
    unfold insL
    cases h1 : SrtO.lexB a x with
    | true =>
      refine List.pairwise_cons.mpr ⟨fun b hb => ?_, h⟩
      rcases List.mem_cons.mp hb with e | hb
      · rw [e]; exact h1
      · have k1 := SrtO.lexB_iff.mp h1
        have k2 := SrtO.lexB_iff.mp (h0 b hb)
        exact SrtO.lexB_iff.mpr (by omega)
    | false =>
      cases h2 : SrtO.lexB x a with
      | true =>
        refine List.pairwise_cons.mpr ⟨fun b hb => ?_, insL_pw a h3⟩
        rcases (insL_mem a b l).mp hb with e | hb
        · rw [e]; exact h2
        · exact h0 b hb
      | false => exact h
theorem srtL_pw : ∀ l : List (Int × Int), (srtL l).Pairwise (fun p q => SrtO.lexB p q = true)
  | [] => List.Pairwise.nil
  | x :: l => insL_pw x (srtL_pw l)
theorem lex_uniq : ∀ {l m : List (Int × Int)}, l.Pairwise (fun p q => SrtO.lexB p q = true) → m.Pairwise (fun p q => SrtO.lexB p q = true) → (∀ k, k ∈ l ↔ k ∈ m) → l = m
  | [], [], _, _, _ => rfl
  | [], y :: m, _, _, h => by have := (h y).mpr (by simp); cases this
  | x :: l, [], _, _, h => by have := (h x).mp (by simp); cases this
  | x :: l, y :: m, hl, hm, h => by
    obtain ⟨l1, l2⟩ := List.pairwise_cons.mp hl
    obtain ⟨m1, m2⟩ := List.pairwise_cons.mp hm
    have irr : ∀ z : Int × Int, SrtO.lexB z z = true → False := fun z k => by have := SrtO.lexB_iff.mp k; omega
    have e : x = y := by
      rcases List.mem_cons.mp ((h x).mp (by simp)) with e | e
      · exact e
      · rcases List.mem_cons.mp ((h y).mpr (by simp)) with e' | e'
        · exact e'.symm
        · have k1 := SrtO.lexB_iff.mp (l1 y e')
          have k2 := SrtO.lexB_iff.mp (m1 x e)
          exfalso
          omega
    subst e
    congr 1
    refine lex_uniq l2 m2 fun z => ⟨fun hz => ?_, fun hz => ?_⟩
    · rcases List.mem_cons.mp ((h z).mp (by simp [hz])) with k | k
      · subst k; exact (irr _ (l1 _ hz)).elim
      · exact k
    · rcases List.mem_cons.mp ((h z).mpr (by simp [hz])) with k | k
      · subst k; exact (irr _ (m1 _ hz)).elim
      · exact k
def adr (x : V) : Addr := match x with
  | .ref t => t
  | _ => 0
/-- sorted(set(e)), pairs of ints -/
theorem e_sortedSetP {e : Expr} {ie : E} {p1 p2 p3 p4 : Pos} (hc : X.calm = true) (hu : X.A.units + 65 < cLine) (hg : Gl X "sorted") (hm : X.mg "sorted" = none) (hg2 : Gl X "set") (hm2 : X.mg "set" = none) (he : PE X e (dE W C Wx ie))
    (hs : starEach [e] X.env = (false, eval e X.env) :: starEach [] X.env := by rfl) (hpl : (backTo p3 (starEach [] X.env)).any (·.1) = false := by rfl)
    (hs' : starEach [.Call (.Name "set" p2) [e] [] p3] X.env = (false, eval (.Call (.Name "set" p2) [e] [] p3) X.env) :: starEach [] X.env := by rfl) (hpl' : (backTo p4 (starEach [] X.env)).any (·.1) = false := by rfl) :
    PE X (.Call (.Name "sorted" p1) [.Call (.Name "set" p2) [e] [] p3] [] p4) (dE W C Wx (.bi .sortedSetP (.cons ie .nil))) := by
  refine peI (pe_callB (cr_srtT hc) hg hm (by decide +kernel) (pa_cons (pe_callTy (cr_setOfT hc (by omega)) hg2 hm2 (by decide +kernel) (pa_cons he pa_nil hs) (by decide) (by decide) hs hpl) pa_nil hs') (by decide) (by decide) hs' hpl') fun σ H Q ⟨r, st, env, p, q, g⟩ => ?_
  have g : Good W (((ev C ie env st).bind fun x st1 => .ok (.tup [x]) st1).bind fun x st1 => match x with | .tup as => biV .sortedSetP as st1 | _ => .no) r H Q fun k H' => EX W Wx k σ H' := g
  refine ⟨r, st, env, p, q, ?_⟩
  cases h1 : ev C ie env st with
  | no => rw [h1] at g; exact g
  | exc k st1 => rw [h1] at g; exact g
  | ok v st1 =>
    rw [h1] at g
    intro r1 H1 x e1 p1 q1
    have g : Good W (match items st1 v with | some xs => (match pairI xs && Nat.blt xs.length 60 with | true => .ok (.tl (sortU xs)) st1 | false => .no) | none => .no) r1 H1 Q fun k H' => EX W Wx k σ H' := Good.ext e1 g
    cases h2 : items st1 v with
    | none => rw [h2] at g; exact g.elim
    | some xs =>
      rw [h2] at g
      have g : Good W (match pairI xs && Nat.blt xs.length 60 with | true => .ok (.tl (sortU xs)) st1 | false => .no) r1 H1 Q fun k H' => EX W Wx k σ H' := g
      cases h3 : pairI xs && Nat.blt xs.length 60 with
      | false => rw [h3] at g; exact g.elim
      | true =>
        rw [h3] at g
        obtain ⟨i1, i2⟩ := Bool.and_eq_true_iff.mp h3
        obtain ⟨ps, rfl⟩ := pairI_map i1
        have hn : ps.length < 60 := by
          have z := Nat.le_of_ble_eq_true i2
          rw [List.length_map] at z
          exact z
        obtain ⟨l, ws, rfl, hl, ql⟩ := items_rel p1 h2 q1
        obtain ⟨w1, w2⟩ := relL_prs ql
        have wr : ∀ x ∈ ws, V.ref (adr x) = x := fun x hx => by obtain ⟨t, e, _⟩ := w2 x hx; rw [e]; rfl
        have em : (ws.map fun x => (adr x, [(prK H1 x).1, (prK H1 x).2])).map (fun p => V.ref p.1) = ws := by
          rw [List.map_map]
          exact (List.map_congr_left fun x hx => wr x hx).trans (List.map_id _)
        have ht : ∀ x ∈ ws, H1 (adr x) = some (.tup [.int (prK H1 x).1, .int (prK H1 x).2]) := fun x hx => by
          obtain ⟨t, e, ht⟩ := w2 x hx
          rw [e]
          rw [e] at ht
          exact ht
        have lw : ws.length = ps.length := by rw [← w1, List.length_map]
        refine ⟨l, ws.map fun x => (adr x, [(prK H1 x).1, (prK H1 x).2]), rfl, ?_, fun z hz => ?_, by rw [List.length_map, lw]; omega, fun a L' ha hL1 hL2 => ?_⟩
        · rw [em]; exact .of hl
        · obtain ⟨x, hx, rfl⟩ := List.mem_map.mp hz
          exact SqT.of (ht x hx)
        · have una : ∀ x ∈ ws, upd H1 a (SetTO X.prog X.w a L') (adr x) = some (.tup [.int (prK H1 x).1, .int (prK H1 x).2]) := fun x hx => by
            rw [upd_ne (ne_of_none (ht x hx) ha)]
            exact ht x hx
          have pk : ∀ x ∈ ws, prK (upd H1 a (SetTO X.prog X.w a L')) (.ref (adr x)) = prK H1 x := fun x hx => by
            show (match upd H1 a (SetTO X.prog X.w a L') (adr x) with | some (.tup [.int a, .int b]) => (a, b) | _ => (0, 0)) = _
            rw [una x hx]
          refine ⟨a, L', rfl, upd_same, fun z hz => ?_, fun z hz => ?_, fun ys b pm nd pw hb => ?_⟩
          · obtain ⟨x, hx, rfl⟩ := List.mem_map.mp (hL1 z hz)
            exact SqT.of (una x hx)
          · obtain ⟨x, hx, rfl⟩ := List.mem_map.mp (hL1 z hz)
            show upd H1 a (SetTO X.prog X.w a L') (adr x) = _
            rw [pk x hx]
            exact una x hx
          · have x1 : Ext r1 H1 r1 (upd H1 a (SetTO X.prog X.w a L')) := .new ha
            have p2 := p1.new (o := SetTO X.prog X.w a L') ha
            have yw : ∀ y ∈ ys, y ∈ ws := fun y hy => by
              obtain ⟨z, hz, rfl⟩ := List.mem_map.mp (pm.mem_iff.mp hy)
              obtain ⟨x, hx, rfl⟩ := List.mem_map.mp (hL1 z hz)
              show V.ref (adr x) ∈ ws
              rw [wr x hx]; exact hx
            have pky : ∀ y ∈ ys, prK (upd H1 a (SetTO X.prog X.w a L')) y = prK H1 y := fun y hy => by
              have := pk y (yw y hy)
              rw [wr y (yw y hy)] at this
              exact this
            have em2 : ys.map (prK (upd H1 a (SetTO X.prog X.w a L'))) = ys.map (prK H1) := List.map_congr_left pky
            have ndk : (ys.map (prK H1)).Nodup := by
              have e3 : (L'.map fun z => V.ref z.1).map (fun y => [(prK H1 y).1, (prK H1 y).2]) = L'.map (·.2) := by
                rw [List.map_map]
                refine List.map_congr_left fun z hz => ?_
                obtain ⟨x, hx, rfl⟩ := List.mem_map.mp (hL1 z hz)
                show [(prK H1 (V.ref (adr x))).1, (prK H1 (V.ref (adr x))).2] = [(prK H1 x).1, (prK H1 x).2]
                rw [wr x hx]
              rw [← e3] at nd
              have n2 : (ys.map fun y => [(prK H1 y).1, (prK H1 y).2]).Nodup := (pm.map _).nodup_iff.mpr nd
              have e4 : (ys.map fun y => [(prK H1 y).1, (prK H1 y).2]) = (ys.map (prK H1)).map (fun p => [p.1, p.2]) := by rw [List.map_map]; rfl
              rw [e4] at n2
              exact List.Pairwise.of_map _ (fun a b h e => h (by rw [e])) n2
            have es : srtL ps = ys.map (prK H1) := by
              refine lex_uniq (srtL_pw ps) ?_ fun k => ?_
              · rw [em2] at pw
                have both := List.Pairwise.and pw ndk
                refine both.imp fun {a b} hab => ?_
                have k1 := SrtO.lexB_no.mp hab.1
                have k2 : ¬ (a.1 = b.1 ∧ a.2 = b.2) := fun z => hab.2 (Prod.ext z.1 z.2)
                exact SrtO.lexB_iff.mpr (by omega)
              · rw [srtL_mem, ← w1]
                constructor
                · intro hk
                  obtain ⟨x, hx, rfl⟩ := List.mem_map.mp hk
                  have := hL2 (adr x, [(prK H1 x).1, (prK H1 x).2]) (List.mem_map.mpr ⟨x, hx, rfl⟩)
                  obtain ⟨z, hz, ez⟩ := List.mem_map.mp this
                  obtain ⟨x', hx', rfl⟩ := List.mem_map.mp (hL1 z hz)
                  have e5 : prK H1 x' = prK H1 x := by
                    have ez : [(prK H1 x').1, (prK H1 x').2] = [(prK H1 x).1, (prK H1 x).2] := ez
                    injection ez with a1 a2
                    injection a2 with a3 _
                    exact Prod.ext a1 a3
                  refine List.mem_map.mpr ⟨x', pm.mem_iff.mpr (List.mem_map.mpr ⟨_, hz, ?_⟩), e5⟩
                  exact wr x' hx'
                · intro hk
                  obtain ⟨y, hy, rfl⟩ := List.mem_map.mp hk
                  exact List.mem_map.mpr ⟨y, yw y hy, rfl⟩
            refine g r1 _ _ (x1.trans (.new hb)) (p2.new hb) ⟨b, ys, rfl, p2.nfree hb, upd_same, ?_⟩
            rw [sortU_pr, es]
            refine prs_relL fun y hy => ?_
            have hyw := yw y hy
            refine ⟨adr y, (wr y hyw).symm, ?_⟩
            have u2 := una y hyw
            rw [upd_ne (ne_of_none u2 hb)]
            exact u2
end
end G

end

section
/-! int(text), one sign. -/
namespace G
open PySem PySem.Spec PyProof.Rows L2
theorem it_pos : ∀ k : Nat, k < 10 → PySem.intText? (sOf [48 + k]) = some (Int.ofNat k) := by decide +kernel
theorem it_neg : ∀ k : Nat, k < 9 → PySem.intText? (sOf [45, 49 + k]) = some (Int.negSucc k) := by decide +kernel
theorem intS_text {s : List Nat} {i : Int} (h : intS s = some i) : PySem.intText? (sOf s) = some i ∧ s.length ≤ 2 := by
  unfold intS at h
  split at h
  · rename_i c
    cases hb : Nat.ble 48 c && Nat.ble c 57 with
    | false => rw [hb] at h; cases h
    | true =>
      rw [hb] at h
      rw [Bool.and_eq_true] at hb
      have h1 := Nat.le_of_ble_eq_true hb.1
      have h2 := Nat.le_of_ble_eq_true hb.2
      obtain ⟨k, rfl⟩ : ∃ k, c = 48 + k := ⟨c - 48, by omega⟩
      cases h
      have := it_pos k (by omega)
      rw [show 48 + k - 48 = k by omega]
      exact ⟨this, by simp⟩
  · rename_i c
    cases hb : Nat.ble 49 c && Nat.ble c 57 with
    | false => rw [hb] at h; cases h
    | true =>
      rw [hb] at h
      rw [Bool.and_eq_true] at hb
      have h1 := Nat.le_of_ble_eq_true hb.1
      have h2 := Nat.le_of_ble_eq_true hb.2
      obtain ⟨k, rfl⟩ : ∃ k, c = 49 + k := ⟨c - 49, by omega⟩
      cases h
      have := it_neg k (by omega)
      rw [show 49 + k - 49 = k by omega]
      exact ⟨this, by simp⟩
  · cases h
section
variable {X : Cx} {W : Wd} {C : Calls} {Wx : WX}
theorem b_intS : CallR X (.type "int") (rBi W .intS) := by
  refine bi1 (not1 _ (fun _ _ _ => rfl) fun _ _ _ _ _ => rfl) fun a x r st E pins s σ H us Q I rv p q g => ?_
  cases a with
  | str t =>
    obtain ⟨rfl, ha⟩ := q
    have g : Good W (match intS t with | some i => .ok (.int i) st | none => .no) r H Q E := g
    cases h1 : intS t with
    | none => rw [h1] at g; exact g.elim
    | some i =>
      rw [h1] at g
      obtain ⟨e1, e2⟩ := intS_text h1
      have hl : (sOf t).length ≤ 640 := by show t.toArray.size ≤ 640; rw [List.size_toArray]; omega
      exact call_int_str pins s σ H _ us Q I rv ⟨_, i, rfl, e1, hl, g r H _ .refl p rfl⟩
  | _ => exact (show False from g).elim
/-! joined texts -/
theorem joinC_str {sep : List Nat} : ∀ {xs : List Val} {u : List Nat}, joinC sep xs = some u → ∃ ts : List (List Nat), xs = ts.map Val.str ∧ Str.join (sOf sep) (ts.map sOf) = sOf u ∧ (ts.map List.length).sum + ts.length * sep.length ≤ u.length + sep.length ∧ ∀ c ∈ u, c ∈ sep ∨ ∃ t ∈ ts, c ∈ t
  | [], u, h => by
    cases h
    exact ⟨[], rfl, rfl, by simp, fun c hc => by cases hc⟩
  | [.str s], u, h => by
    cases (show some s = some u from h)
    exact ⟨[s], rfl, rfl, by simp, fun c hc => .inr ⟨s, by simp, hc⟩⟩
  | .str s :: y :: r, u, h => by
    have h : (match joinC sep (y :: r) with | some t => some (s ++ sep ++ t) | none => none) = some u := h
    cases k : joinC sep (y :: r) with
    | none => rw [k] at h; cases h
    | some t =>
      rw [k] at h
      cases h
      obtain ⟨ts, e1, e2, e3, e4⟩ := joinC_str k
      cases ts with
      | nil => cases e1
      | cons t0 ts =>
        refine ⟨s :: t0 :: ts, by rw [List.map_cons, ← e1], ?_, ?_, fun c hc => ?_⟩
        · show sOf s ++ sOf sep ++ Str.join (sOf sep) ((t0 :: ts).map sOf) = _
          rw [e2, sOf_app, sOf_app]
        · simp only [List.map_cons, List.sum_cons, List.length_cons, List.length_append, Nat.succ_mul] at e3 ⊢
          omega
        · rcases List.mem_append.mp hc with hc | hc
          · rcases List.mem_append.mp hc with hc | hc
            · exact .inr ⟨s, by simp, hc⟩
            · exact .inl hc
          · rcases e4 c hc with k | ⟨t1, a, b⟩
            · exact .inl k
            · exact .inr ⟨t1, List.mem_cons_of_mem _ a, b⟩
  | .non :: r, u, h => by cases r <;> cases h
  | .bl _ :: r, u, h => by cases r <;> cases h
  | .int _ :: r, u, h => by cases r <;> cases h
  | .tup _ :: r, u, h => by cases r <;> cases h
  | .tl _ :: r, u, h => by cases r <;> cases h
  | .td _ _ _ :: r, u, h => by cases r <;> cases h
  | .ref _ :: r, u, h => by cases r <;> cases h
  | .fn _ :: r, u, h => by cases r <;> cases h
  | .scr :: r, u, h => by cases r <;> cases h
theorem relL_strs {r : Pl} {H : Hp} : ∀ {ts : List (List Nat)} {ws : List V}, RelL W r H (ts.map Val.str) ws → ws = (ts.map sOf).map V.str ∧ ∀ t ∈ ts, Asc t
  | [], ws, h => ⟨h, fun t ht => by cases ht⟩
  | t :: ts, ws, ⟨y, s, e, ⟨e1, e2⟩, h⟩ => by
    subst e e1
    obtain ⟨i1, i2⟩ := relL_strs h
    rw [i1]
    exact ⟨rfl, fun z hz => by
      rcases List.mem_cons.mp hz with k | k
      · rw [k]; exact e2
      · exact i2 z k⟩
theorem e_join {o e : Expr} {io ie : E} {apos pos : Pos} (ho : PE X o (dE W C Wx io)) (he : PE X e (dE W C Wx ie)) (hs : starEach [e] X.env = [(false, eval e X.env)] := by rfl) (hbase : attributeBase o "join" X.env (eval o X.env) = eval o X.env := by rfl) (hline : (apos.endLine == pos.line) = true := by rfl) :
    PE X (.Call (.Attribute o "join" apos) [e] [] pos) (dE W C Wx (.meth .join io (.cons ie .nil))) := by
  refine peI (pe_join ho he hs hbase hline) fun σ H Q ⟨r, st, env, p, q, g⟩ => ⟨r, st, env, p, q, Good.seq g fun y st1 r1 H1 x e1 p1 q1 g1 => ?_⟩
  cases y with
  | str t =>
    obtain ⟨rfl, ha⟩ := q1
    have g1 : Good W (((ev C ie env st1).bind fun x s2 => .ok (.tup [x]) s2).bind fun x s2 => match x with | .tup as => methV .join (.str t) as s2 | _ => .no) r1 H1 Q fun k H' => EX W Wx k σ H' := g1
    refine ⟨⟨_, rfl⟩, r1, st1, env, p1, q.ext e1, ?_⟩
    cases h1 : ev C ie env st1 with
    | no => rw [h1] at g1; exact g1
    | exc k st2 => rw [h1] at g1; exact g1
    | ok v st2 =>
      rw [h1] at g1
      intro r2 H2 x2 e2 p2 q2
      have g1 : Good W (match seqOf st2 v with | some xs => (match joinC t xs with | some u => (match Nat.ble xs.length 1000 && Nat.ble u.length lineN with | true => .ok (.str u) st2 | false => .no) | none => .no) | none => .no) r2 H2 Q fun k H' => EX W Wx k σ H' := Good.ext e2 g1
      cases h2 : seqOf st2 v with
      | none => rw [h2] at g1; exact g1.elim
      | some xs =>
        rw [h2] at g1
        have g1 : Good W (match joinC t xs with | some u => (match Nat.ble xs.length 1000 && Nat.ble u.length lineN with | true => .ok (.str u) st2 | false => .no) | none => .no) r2 H2 Q fun k H' => EX W Wx k σ H' := g1
        cases h3 : joinC t xs with
        | none => rw [h3] at g1; exact g1.elim
        | some u =>
          rw [h3] at g1
          have g1 : Good W (match Nat.ble xs.length 1000 && Nat.ble u.length lineN with | true => .ok (.str u) st2 | false => .no) r2 H2 Q fun k H' => EX W Wx k σ H' := g1
          cases h4 : Nat.ble xs.length 1000 && Nat.ble u.length lineN with
          | false => rw [h4] at g1; exact g1.elim
          | true =>
            rw [h4] at g1
            have gF : Good W (.ok (.str u) st2) r2 H2 Q fun k H' => EX W Wx k σ H' := g1
            rw [Bool.and_eq_true] at h4
            have b1 := Nat.le_of_ble_eq_true h4.1
            have b2 : u.length ≤ 100000 := Nat.le_of_ble_eq_true h4.2
            obtain ⟨ts, rfl, j1, j2, j3⟩ := joinC_str h3
            obtain ⟨l, ws, rfl, hl, ql⟩ := seqOf_rel p2 h2 q2
            obtain ⟨rfl, w2⟩ := relL_strs ql
            have sl : ∀ z : List Nat, (sOf z).length = z.length := fun z => by show z.toArray.size = _; rw [List.size_toArray]
            have lm : ((ts.map sOf).map (·.length)) = ts.map List.length := by
              rw [List.map_map]
              exact List.map_congr_left fun z _ => sl z
            refine ⟨sOf t, l, ts.map sOf, rfl, rfl, hl.elim (fun z => .inl (.of z)) (fun z => .inr (.of z)), ?_, ?_⟩
            · rw [lm, List.length_map, sl]
              have := ha.1
              omega
            · have e5 : Txt.join (sOf t) (ts.map sOf) = sOf u := by
                unfold Txt.join
                rw [StrLaws.glued_eq_join]
                exact j1
              rw [e5]
              refine gF r2 H2 _ .refl p2 ⟨rfl, b2, fun c hc => ?_⟩
              rcases j3 c hc with k | ⟨z, a, b⟩
              · exact ha.2 c k
              · exact (w2 z a).2 c b
  | ref n =>
    have g1 : Good W (match mkd .join (.ref n) st1 with | true => _ | false => .no) r1 H1 Q _ := g1
    have z : mkd .join (.ref n) st1 = false := by
      show (match st1[n]? with | some (.lst _) => false | _ => false) = false
      cases st1[n]? with
      | none => rfl
      | some o => cases o <;> rfl
    rw [z] at g1
    exact g1.elim
  | _ => exact (show False from g1).elim
end
end G

end

section
/-! text.split(sign). -/
namespace G
open PySem PySem.Spec PyProof.Rows L2
theorem spl_free {c : Nat} : ∀ (p acc : List Nat), c ∉ p → splitC c p acc = [.str (acc ++ p)]
  | [], acc, _ => by simp [splitC]
  | x :: p, acc, h => by
    have hx : Nat.beq x c = false := by
      rw [← Bool.not_eq_true]; intro z
      exact h (by rw [Nat.eq_of_beq_eq_true z]; simp)
    show (match Nat.beq x c with | true => Val.str acc :: splitC c p [] | false => splitC c p (acc ++ [x])) = _
    rw [hx]
    show splitC c p (acc ++ [x]) = _
    rw [spl_free p (acc ++ [x]) (fun z => h (by simp [z]))]
    simp
theorem spl_cut {c : Nat} (rest : List Nat) : ∀ (p acc : List Nat), c ∉ p → splitC c (p ++ c :: rest) acc = .str (acc ++ p) :: splitC c rest []
  | [], acc, _ => by
    show (match Nat.beq c c with | true => Val.str acc :: splitC c rest [] | false => splitC c rest (acc ++ [c])) = _
    rw [Nat.beq_refl]
    simp
  | x :: p, acc, h => by
    have hx : Nat.beq x c = false := by
      rw [← Bool.not_eq_true]; intro z
      exact h (by rw [Nat.eq_of_beq_eq_true z]; simp)
    show (match Nat.beq x c with | true => Val.str acc :: splitC c (p ++ c :: rest) [] | false => splitC c (p ++ c :: rest) (acc ++ [x])) = _
    rw [hx]
    show splitC c (p ++ c :: rest) (acc ++ [x]) = _
    rw [spl_cut rest p (acc ++ [x]) (fun z => h (by simp [z]))]
    simp
theorem spl_join {c : Nat} : ∀ (ps : List (List Nat)), ps ≠ [] → (∀ p ∈ ps, c ∉ p) → ∀ s : List Nat, Str.join (sOf [c]) (ps.map sOf) = sOf s → splitC c s [] = ps.map Val.str
  | [], h, _, _, _ => absurd rfl h
  | [p], _, hf, s, e => by
    have e : sOf p = sOf s := e
    have : p = s := by
      have := congrArg (fun z : Str => z.cps.toList) e
      simpa [sOf] using this
    subst this
    rw [spl_free p [] (hf p (by simp))]
    simp
  | p :: q :: ps, _, hf, s, e => by
    have e : sOf p ++ sOf [c] ++ Str.join (sOf [c]) ((q :: ps).map sOf) = sOf s := e
    generalize hj : Str.join (sOf [c]) ((q :: ps).map sOf) = j at e
    have ej : j = sOf j.cps.toList := by cases j; simp [sOf]
    rw [ej, sOf_app, sOf_app] at e
    have es : p ++ [c] ++ j.cps.toList = s := by
      have := congrArg (fun z : Str => z.cps.toList) e
      simpa [sOf] using this
    have ih := spl_join (q :: ps) (by simp) (fun z hz => hf z (by simp [hz])) j.cps.toList (by rw [hj]; exact ej)
    rw [← es]
    have e2 : p ++ [c] ++ j.cps.toList = p ++ c :: j.cps.toList := by simp
    rw [e2, spl_cut _ p [] (hf p (by simp)), ih]
    simp
theorem spl_txt (s : List Nat) (c : Nat) : ∃ ps : List (List Nat), Txt.split (sOf s) (sOf [c]) = ps.map sOf ∧ splitC c s [] = ps.map Val.str ∧ ∀ p ∈ ps, ∀ x ∈ p, x ∈ s := by
  have hp := split_pos (sOf s) (sOf [c])
  have hj := StrLaws.join_split (sOf s) (sOf [c])
  have hf := StrLaws.split_free (sOf s) c
  have e0 : (⟨#[c]⟩ : Str) = sOf [c] := rfl
  rw [e0] at hf
  generalize Txt.split (sOf s) (sOf [c]) = L at hp hj hf
  have eL : L = (L.map fun z => z.cps.toList).map sOf := by
    rw [List.map_map]
    have : ∀ l : List Str, l = l.map (sOf ∘ fun z => z.cps.toList) := fun l => by
      induction l with
      | nil => rfl
      | cons z l ih => rw [List.map_cons, ← ih]; congr 1
    exact this L
  have ne : (L.map fun z => z.cps.toList) ≠ [] := fun z => by
    rw [List.map_eq_nil_iff] at z
    rw [z] at hp
    simp at hp
  have fr : ∀ p ∈ L.map (fun z => z.cps.toList), c ∉ p := fun p hp => by
    obtain ⟨z, hz, rfl⟩ := List.mem_map.mp hp
    exact hf z hz
  rw [eL] at hj
  have inn : ∀ (ps : List (List Nat)) (u : List Nat), Str.join (sOf [c]) (ps.map sOf) = sOf u → ∀ p ∈ ps, ∀ x ∈ p, x ∈ u := by
    intro ps
    induction ps with
    | nil => intro u _ p hp; cases hp
    | cons p ps ih =>
      intro u e q hq x hx
      cases ps with
      | nil =>
        have e : sOf p = sOf u := e
        have e1 : p = u := by
          have := congrArg (fun z : Str => z.cps.toList) e
          simpa [sOf] using this
        rw [List.mem_singleton.mp hq] at hx
        rw [← e1]; exact hx
      | cons p2 ps =>
        have e : sOf p ++ sOf [c] ++ Str.join (sOf [c]) ((p2 :: ps).map sOf) = sOf u := e
        generalize hj2 : Str.join (sOf [c]) ((p2 :: ps).map sOf) = j at e
        have ej : j = sOf j.cps.toList := by cases j; simp [sOf]
        rw [ej, sOf_app, sOf_app] at e
        have es : p ++ [c] ++ j.cps.toList = u := by
          have := congrArg (fun z : Str => z.cps.toList) e
          simpa [sOf] using this
        rw [← es]
        rcases List.mem_cons.mp hq with k | k
        · rw [k] at hx; simp [hx]
        · have := ih j.cps.toList (by rw [hj2]; exact ej) q k x hx
          simp [this]
  exact ⟨_, eL, spl_join _ ne fr s hj, inn _ s hj⟩
section
variable {X : Cx} {W : Wd} {C : Calls} {Wx : WX}
theorem strs_relL {r : Pl} {H : Hp} : ∀ {ps : List (List Nat)}, (∀ p ∈ ps, Asc p) → RelL W r H (ps.map Val.str) ((ps.map sOf).map V.str)
  | [], _ => rfl
  | p :: ps, h => ⟨_, _, rfl, ⟨rfl, h p (by simp)⟩, strs_relL fun q hq => h q (by simp [hq])⟩
theorem len_parts {c : Nat} : ∀ (s acc : List Nat) (v : Val), v ∈ splitC c s acc → ∃ t, v = .str t ∧ t.length ≤ acc.length + s.length
  | [], acc, v, h => ⟨acc, List.mem_singleton.mp h, Nat.le_refl _⟩
  | x :: s, acc, v, h => by
    have h : v ∈ (match Nat.beq x c with | true => Val.str acc :: splitC c s [] | false => splitC c s (acc ++ [x])) := h
    cases hx : Nat.beq x c with
    | true =>
      rw [hx] at h
      rcases List.mem_cons.mp h with k | k
      · exact ⟨acc, k, Nat.le_add_right _ _⟩
      · obtain ⟨t, e, l⟩ := len_parts s [] v k
        simp only [List.length_nil, List.length_cons] at l ⊢
        exact ⟨t, e, by omega⟩
    | false =>
      rw [hx] at h
      obtain ⟨t, e, l⟩ := len_parts s (acc ++ [x]) v h
      simp only [List.length_append, List.length_cons, List.length_nil] at l ⊢
      exact ⟨t, e, by omega⟩
theorem e_split {o e : Expr} {io ie : E} {apos pos : Pos} (ho : PE X o (dE W C Wx io)) (he : PE X e (dE W C Wx ie)) (hs : starEach [e] X.env = [(false, eval e X.env)] := by rfl) (hbase : attributeBase o "split" X.env (eval o X.env) = eval o X.env := by rfl) (hline : (apos.endLine == pos.line) = true := by rfl) :
    PE X (.Call (.Attribute o "split" apos) [e] [] pos) (dE W C Wx (.meth .split io (.cons ie .nil))) := by
  refine peI (pe_split ho he hs hbase hline) fun σ H Q ⟨r, st, env, p, q, g⟩ => ⟨r, st, env, p, q, Good.seq g fun y st1 r1 H1 x e1 p1 q1 g1 => ?_⟩
  cases y with
  | str t =>
    obtain ⟨rfl, ha⟩ := q1
    have g1 : Good W (((ev C ie env st1).bind fun x s2 => .ok (.tup [x]) s2).bind fun x s2 => match x with | .tup as => methV .split (.str t) as s2 | _ => .no) r1 H1 Q fun k H' => EX W Wx k σ H' := g1
    refine ⟨⟨_, rfl⟩, r1, st1, env, p1, q.ext e1, ?_⟩
    cases h1 : ev C ie env st1 with
    | no => rw [h1] at g1; exact g1
    | exc k st2 => rw [h1] at g1; exact g1
    | ok v st2 =>
      rw [h1] at g1
      intro r2 H2 x2 e2 p2 q2
      have g1 : Good W (methV .split (.str t) [v] st2) r2 H2 Q fun k H' => EX W Wx k σ H' := Good.ext e2 g1
      match v, q2, g1 with
      | .str [c], q2, g1 =>
        obtain ⟨rfl, hb⟩ := q2
        have g1 : Good W (match Nat.ble (t.length + 2) lineN with | true => .ok (.tl (splitC c t [])) st2 | false => .no) r2 H2 Q fun k H' => EX W Wx k σ H' := g1
        cases h4 : Nat.ble (t.length + 2) lineN with
        | false => rw [h4] at g1; exact g1.elim
        | true =>
          rw [h4] at g1
          have gF : Good W (.ok (.tl (splitC c t [])) st2) r2 H2 Q fun k H' => EX W Wx k σ H' := g1
          have b2 : t.length + 2 ≤ 100000 := Nat.le_of_ble_eq_true h4
          obtain ⟨ps, s1, s2, s3⟩ := spl_txt t c
          have asc : ∀ z ∈ ps, Asc z := fun z hz => by
            refine ⟨?_, fun x hx => ha.2 x (s3 z hz x hx)⟩
            obtain ⟨z', e', l'⟩ := len_parts t [] (.str z) (by rw [s2]; exact List.mem_map.mpr ⟨z, hz, rfl⟩)
            cases e'
            simp only [List.length_nil] at l'
            omega
          refine ⟨sOf t, sOf [c], rfl, rfl, rfl, ?_, fun d hd => ?_⟩
          · show t.toArray.size + 2 ≤ sizeLine
            rw [List.size_toArray, sizeLine_eq]
            omega
          · rw [s1]
            rw [s2] at gF
            exact gF r2 _ _ (.new hd) (p2.new hd) ⟨d, _, rfl, p2.nfree hd, upd_same, strs_relL asc⟩
      | .str [], _, g1 => exact (show False from g1).elim
      | .str (_ :: _ :: _), _, g1 => exact (show False from g1).elim
      | .non, _, g1 => exact (show False from g1).elim
      | .bl _, _, g1 => exact (show False from g1).elim
      | .int _, _, g1 => exact (show False from g1).elim
      | .tup _, _, g1 => exact (show False from g1).elim
      | .tl _, _, g1 => exact (show False from g1).elim
      | .td _ _ _, _, g1 => exact (show False from g1).elim
      | .ref _, _, g1 => exact (show False from g1).elim
      | .fn _, _, g1 => exact (show False from g1).elim
      | .scr, _, g1 => exact (show False from g1).elim
  | ref n =>
    have g1 : Good W (match mkd .split (.ref n) st1 with | true => _ | false => .no) r1 H1 Q _ := g1
    have z : mkd .split (.ref n) st1 = false := by
      show (match st1[n]? with | some (.lst _) => false | _ => false) = false
      cases st1[n]? with
      | none => rfl
      | some o => cases o <;> rfl
    rw [z] at g1
    exact g1.elim
  | _ => exact (show False from g1).elim
theorem e_gstrX {x : Str} {z : Str} {s : List Nat} {pos : Pos} (hg : Gl X x) (hm : ∃ t, X.mg x = some (.str z t)) (hz : z = sOf s) (hs : Asc s) (hd : (x == ("__debug__" : Str)) = false := by decide) : PE X (.Name x pos) (dE W C Wx (.lit (.str s))) := by
  obtain ⟨t, hm⟩ := hm
  exact e_gstr hg hm hz hs hd
end
end G

end

section
/-! Calls in the caller's store; calls whose list is the caller's own. -/
namespace G
open PySem PySem.Spec PyProof.Rows L2
/-- nothing that stands is in reach -/
def veil (H : Hp) : Pl := ⟨fun _ => none, fun a => ∃ o, H a = some o⟩
section
variable {W : Wd} {r r1 : Pl} {H H1 : Hp} {st : Sto}
theorem veil_rep (H : Hp) : Rep W (veil H) [] H where
  inj := fun _ _ _ e _ => (nomatch e)
  dom := fun _ _ e => (nomatch e)
  obj := fun n o e => by simp at e
  nh := fun _ _ e => (nomatch e)
  ht := fun a e => e
theorem veil_ext (x : Ext (veil H) H r1 H1) : Ext r H r H1 where
  mono := fun _ _ e => e
  fresh := fun _ _ e => .inl e
  keep := fun a o e _ => x.keep a o e fun n z => (nomatch z)
  tups := x.tups
  stay := x.stay
  hup := fun _ e => e
  hdn := fun _ e => .inl e
  frzs := x.frzs
theorem veil_back (p : Rep W r st H) (x : Ext (veil H) H r1 H1) : Rep W r st H1 where
  inj := p.inj
  dom := p.dom
  obj := fun n o e => by
    obtain ⟨b, hb, q⟩ := p.obj n o e
    obtain ⟨u, hu⟩ := q.isome
    exact ⟨b, hb, RO.ext (veil_ext x) ((x.keep b u hu fun n z => (nomatch z)).trans hu.symm) q⟩
  nh := p.nh
  ht := fun a e => by
    obtain ⟨u, hu⟩ := p.ht a e
    exact ⟨u, x.keep a u hu fun n z => (nomatch z)⟩
theorem flat_rel {v : Val} {x : V} (h : flat v = true) (q : Rel W r H v x) : Rel W r1 H1 v x := by
  cases v with
  | non => exact q
  | bl b => exact q
  | int i => exact q
  | str s => exact q
  | _ => cases h
theorem flatL_rel : ∀ {vs : List Val} {xs : List V}, allFlat vs = true → RelL W r H vs xs → RelL W r1 H1 vs xs
  | [], _, _, q => q
  | v :: vs, _, h, ⟨y, s, e, h1, h2⟩ => by
    have h : (match flat v with | true => allFlat vs | false => false) = true := h
    cases k : flat v with
    | false => rw [k] at h; cases h
    | true =>
      rw [k] at h
      exact ⟨y, s, e, flat_rel k h1, flatL_rel h h2⟩
theorem imm_rel (ht : ∀ a ys, H a = some (.tup ys) → H1 a = some (.tup ys)) {v : Val} {x : V} (h : imm1 v = true) (q : Rel W r H v x) : Rel W r1 H1 v x := by
  cases v with
  | tup xs =>
    obtain ⟨a, ys, e, h1, h2⟩ := q
    exact ⟨a, ys, e, ht _ _ h1, flatL_rel h h2⟩
  | non => exact q
  | bl b => exact q
  | int i => exact q
  | str s => exact q
  | _ => cases h
theorem immL_rel (ht : ∀ a ys, H a = some (.tup ys) → H1 a = some (.tup ys)) : ∀ {vs : List Val} {xs : List V}, allImm vs = true → RelL W r H vs xs → RelL W r1 H1 vs xs
  | [], _, _, q => q
  | v :: vs, _, h, ⟨y, s, e, h1, h2⟩ => by
    have h : (match imm1 v with | true => allImm vs | false => false) = true := h
    cases k : imm1 v with
    | false => rw [k] at h; cases h
    | true =>
      rw [k] at h
      exact ⟨y, s, e, imm_rel ht k h1, immL_rel ht h h2⟩
/-- a fresh list becomes the caller's -/
theorem own_ext (p : Rep W r st H) (x : Ext r H r H1) {a : Addr} (h : H a = none) : Ext r H (plus r st.length a) H1 where
  mono := fun n b e => by
    rw [plus_at]
    rw [if_neg (fun z => by have := p.dom n b e; omega)]
    exact e
  fresh := fun n b e => by
    rw [plus_at] at e
    by_cases hn : n = st.length
    · rw [if_pos hn] at e
      cases e
      exact .inr h
    · rw [if_neg hn] at e
      exact .inl e
  keep := x.keep
  tups := x.tups
  stay := x.stay
  hup := fun _ e => e
  hdn := fun _ e => .inl e
  frzs := x.frzs
theorem own_rep (p : Rep W r st H) (x : Ext r H r H1) (keep : ∀ a o, H a = some o → H1 a = some o) {a : Addr} (h : H a = none) {ys : List Val} {zs : List V} (ha : H1 a = some (.lst zs)) (hi : allImm ys = true) {r2 : Pl} (q : RelL W r2 H1 ys zs) : Rep W (plus r st.length a) (st ++ [.lst ys]) H1 where
  inj := fun n m b e f => by
    rw [plus_at] at e f
    by_cases hn : n = st.length
    · rw [if_pos hn] at e
      cases e
      by_cases hm : m = st.length
      · rw [hn, hm]
      · rw [if_neg hm] at f
        exact absurd f ((p.nfree h).1 m)
    · rw [if_neg hn] at e
      by_cases hm : m = st.length
      · rw [if_pos hm] at f
        cases f
        exact absurd e ((p.nfree h).1 n)
      · rw [if_neg hm] at f
        exact p.inj n m b e f
  dom := fun n b e => by
    rw [List.length_append, List.length_singleton]
    rw [plus_at] at e
    by_cases hn : n = st.length
    · omega
    · rw [if_neg hn] at e
      have := p.dom n b e
      omega
  obj := fun n o' e => by
    by_cases hn : n < st.length
    · rw [List.getElem?_append_left hn] at e
      obtain ⟨b, hb, z⟩ := p.obj n o' e
      obtain ⟨v, hv⟩ := z.isome
      exact ⟨b, (own_ext p x h).mono n b hb, RO.mono (own_ext p x h) ((keep _ _ hv).trans hv.symm) z⟩
    · rw [List.getElem?_append_right (by omega)] at e
      have e0 : n - st.length = 0 := by
        cases k : n - st.length with
        | zero => rfl
        | succ j => rw [k] at e; simp at e
      rw [e0] at e
      simp at e
      subst e
      refine ⟨a, ?_, zs, ha, immL_rel (fun _ _ z => z) hi q⟩
      rw [plus_at]
      rw [if_pos (by omega)]
  nh := fun n b e => by
    rw [plus_at] at e
    by_cases hn : n = st.length
    · rw [if_pos hn] at e
      cases e
      exact (p.nfree h).2
    · rw [if_neg hn] at e
      exact p.nh n b e
  ht := fun b e => by
    obtain ⟨v, hv⟩ := p.ht b e
    exact ⟨v, keep _ _ hv⟩
variable {X : Cx} {C : Calls} {Wx : WX}
theorem call_valK {f n : Nat} {as : List Val} {vs : List V} {Q : VK} {E : Nat → Hp → Prop} {E' : XK} (p : Rep W r st H) (q : RelL W r H as vs) (hn : vs.length = n) (g : Good W (callKV C f as st) r H Q E)
    (hE : ∀ k H', E k H' → E' (.ref (W.xa k)) none H') : spG W C f n vs H Q E' := by
  refine ⟨hn, ?_⟩
  unfold callKV at g
  cases hp : allImm as with
  | false => rw [hp] at g; exact g.elim
  | true =>
    rw [hp] at g
    dsimp only at g
    refine ⟨veil H, [], as, veil_rep H, immL_rel (fun _ _ z => z) hp q, ?_⟩
    cases h : C f as [] with
    | no => rw [h] at g; exact g
    | exc k st1 =>
      rw [h] at g
      exact fun r1 H1 e1 p1 => hE _ _ (g r H1 (veil_ext e1) (veil_back p e1))
    | ok v st1 =>
      rw [h] at g
      dsimp only at g
      cases hw : frz 6 st1 v with
      | none => rw [hw] at g; exact g.elim
      | some w =>
        rw [hw] at g
        cases w with
        | tl ys =>
          dsimp only at g
          cases hi : allImm ys with
          | false => rw [hi] at g; exact g.elim
          | true =>
            rw [hi] at g
            intro r1 H1 x e1 p1 q1
            have nf : ∀ a, ¬ r1.hid a → Fre (veil H) a := fun a z => ⟨fun n e => (nomatch e), fun y => z (e1.hup a y)⟩
            obtain ⟨a, zs, ex, fa, ha, hz⟩ := frz_rel (r1 := veil H) (fun a z => nf a z.2) (fun n o a ho hr => by
              obtain ⟨b, hb, z⟩ := p1.obj n o ho
              rw [hr] at hb
              cases hb
              exact ⟨z, nf a (p1.nh n a hr)⟩) hw q1
            have h0 : H a = none := by
              cases k : H a with
              | none => rfl
              | some o => exact absurd ⟨o, k⟩ fa.2
            have x1 : Ext r H r H1 := veil_ext e1
            refine g (plus r st.length a) H1 x (own_ext p x1 h0) (own_rep p x1 (fun b o e => e1.keep b o e fun n z => (nomatch z)) h0 ha hi hz) ⟨a, ex, ?_⟩
            rw [plus_at, if_pos rfl]
        | _ => exact (show False from g).elim
theorem callKV_no {f : Nat} {as : List Val} (h : callKV C f as st ≠ .no) : C f as [] ≠ .no := fun e => h (by
  unfold callKV
  rw [e]
  cases allImm as <;> rfl)
theorem run_tabK {k f : Nat} {as : List Val} {pins : List (Addr × Obj)} {σ : St} {s : Shared} {Q : VK} {us : List Value} {vs : List V} (T : Tabs X.prog X.w X.K X.mg X.base W C k) (hr : Room k X.A) (tk : TakesN X Wx)
    (I : Inv X pins σ H s) (rv : Vals vs us) (p : Rep W r st H) (q : RelL W r H as vs) (g : Good W (callKV C f as st) r H Q fun k H' => EX W Wx k σ H') : wpAny (model X.prog X.w) X.A (call (.ref (W.fa f)) us) (EP X pins σ Q) X.xe s := by
  obtain ⟨fd, ps, hl, F, b⟩ := T.fn f as [] (callKV_no g.noNo)
  exact run_fnS (E := WE Wx) F hr b (L2N.passAt tk σ) I rv (call_valK p q (q.len.symm.trans hl) g fun _ _ h => h)
theorem run_tabS {k f : Nat} {as : List Val} {pins : List (Addr × Obj)} {σ : St} {s : Shared} {Q : VK} {us : List Value} {vs : List V} (T : Tabs X.prog X.w X.K X.mg X.base W C k) (hr : Room k X.A) (tk : TakesN X Wx)
    (I : Inv X pins σ H s) (rv : Vals vs us) (p : Rep W r st H) (q : RelL W r H as vs) (g : Good W (C f as st) r H Q fun k H' => EX W Wx k σ H') : wpAny (model X.prog X.w) X.A (call (.ref (W.fa f)) us) (EP X pins σ Q) X.xe s := by
  obtain ⟨fd, ps, hl, F, b⟩ := T.fn f as st g.noNo
  exact run_fnS (E := WE Wx) F hr b (L2N.passAt tk σ) I rv ⟨q.len.symm.trans hl, r, st, as, p, q, g⟩
theorem e_callK {k f : Nat} {x : Str} {e : Expr} {es : List Expr} {l : E} {q pos : Pos} (T : Tabs X.prog X.w X.K X.mg X.base W C k) (hr : Room k X.A) (tk : TakesN X Wx) (hg : Gl X x) (hm : X.mg x = some (.ref (W.fa f))) (ha : PA X (e :: es) (dA W C Wx l))
    (hdb : (x == ("__debug__" : Str)) = false := by decide) (he : starEach (e :: es) X.env = (false, eval e X.env) :: starEach es X.env := by rfl) (hpl : (backTo pos (starEach es X.env)).any (·.1) = false := by rfl) :
    PE X (.Call (.Name x q) (e :: es) [] pos) (dE W C Wx (.callK f l)) := by
  refine ⟨fun pins s σ H Q I ⟨r, st, env, p, q, g⟩ => ?_⟩
  refine wpAny_Call_Name_kw (ld_glob I hg hm ?_ hdb)
  have g : Good W ((ev C l env st).bind fun x st1 => match x with | .tup as => callKV C f as st1 | _ => .no) r H Q fun k H' => EX W Wx k σ H' := g
  have h : dA W C Wx l σ H fun vs H1 => ∃ r1 st1 as, Rep W r1 st1 H1 ∧ RelL W r1 H1 as vs ∧ Good W (callKV C f as st1) r1 H1 Q fun k H' => EX W Wx k σ H' := by
    refine ⟨r, st, env, p, q, ?_⟩
    cases h1 : ev C l env st with
    | no => rw [h1] at g; exact g
    | exc k st1 => rw [h1] at g; exact g
    | ok v st1 =>
      rw [h1] at g
      cases v with
      | tup as => exact fun r1 H1 xs e1 p1 q1 => ⟨r1, st1, as, p1, q1, Good.ext e1 g⟩
      | _ => exact (show False from g).elim
  refine PySem.W.callWith_K (h₀ := X.base) I.ok.mod.kin (T.kp f) (thn (ha.run pos pins s σ H _ I h) fun us s1 ⟨vs, H1, I1, rv, r1, st1, as, p1, q1, g1⟩ => ⟨I1.kIn, ?_⟩) he hpl
  exact run_tabK T hr tk I1 rv p1 q1 g1
theorem e_callS {k f : Nat} {x : Str} {e : Expr} {es : List Expr} {l : E} {q pos : Pos} (T : Tabs X.prog X.w X.K X.mg X.base W C k) (hr : Room k X.A) (tk : TakesN X Wx) (hg : Gl X x) (hm : X.mg x = some (.ref (W.fa f))) (ha : PA X (e :: es) (dA W C Wx l))
    (hdb : (x == ("__debug__" : Str)) = false := by decide) (he : starEach (e :: es) X.env = (false, eval e X.env) :: starEach es X.env := by rfl) (hpl : (backTo pos (starEach es X.env)).any (·.1) = false := by rfl) :
    PE X (.Call (.Name x q) (e :: es) [] pos) (dE W C Wx (.callS f l)) := by
  refine ⟨fun pins s σ H Q I ⟨r, st, env, p, q, g⟩ => ?_⟩
  refine wpAny_Call_Name_kw (ld_glob I hg hm ?_ hdb)
  have g : Good W ((ev C l env st).bind fun x st1 => match x with | .tup as => C f as st1 | _ => .no) r H Q fun k H' => EX W Wx k σ H' := g
  have h : dA W C Wx l σ H fun vs H1 => ∃ r1 st1 as, Rep W r1 st1 H1 ∧ RelL W r1 H1 as vs ∧ Good W (C f as st1) r1 H1 Q fun k H' => EX W Wx k σ H' := by
    refine ⟨r, st, env, p, q, ?_⟩
    cases h1 : ev C l env st with
    | no => rw [h1] at g; exact g
    | exc k st1 => rw [h1] at g; exact g
    | ok v st1 =>
      rw [h1] at g
      cases v with
      | tup as => exact fun r1 H1 xs e1 p1 q1 => ⟨r1, st1, as, p1, q1, Good.ext e1 g⟩
      | _ => exact (show False from g).elim
  refine PySem.W.callWith_K (h₀ := X.base) I.ok.mod.kin (T.kp f) (thn (ha.run pos pins s σ H _ I h) fun us s1 ⟨vs, H1, I1, rv, r1, st1, as, p1, q1, g1⟩ => ⟨I1.kIn, ?_⟩) he hpl
  exact run_tabS T hr tk I1 rv p1 q1 g1
end
end G

end

section
/-! A dict of the store that is closed, and its keys. -/
namespace G
open PySem PySem.Spec PyProof.Rows L2
section
variable {X : Cx} {W : Wd} {C : Calls} {Wx : WX}
theorem frz_shape {i : Nat} {env : Env} {st : Sto} {ro : Ro} (h : ex C (.frz i) env st = ro) (hn : ro ≠ .no) : ∃ n ks vs, env[i]? = some (some (.ref n)) ∧ st[n]? = some (.dic false ks vs) ∧ ro = .nx env (st.set n (.fdi ks vs)) := by
  subst h
  rw [ex] at hn ⊢
  cases h1 : env[i]? with
  | none => rw [h1] at hn; exact absurd rfl hn
  | some u =>
    rw [h1] at hn
    cases u with
    | none => exact absurd rfl hn
    | some v =>
      cases v with
      | ref n =>
        dsimp only at hn ⊢
        cases h2 : st[n]? with
        | none => rw [h2] at hn; exact absurd rfl hn
        | some o =>
          rw [h2] at hn
          cases o with
          | dic t ks vs =>
            cases t with
            | false => exact ⟨n, ks, vs, rfl, h2, rfl⟩
            | true => exact absurd rfl hn
          | _ => exact absurd rfl hn
      | _ => exact absurd rfl hn
theorem s_frz {i : Nat} {l : List Stmt} {b : S} (h : PSs X l (dS W C Wx b)) : PSs X l (dS W C Wx (.seq (.frz i) b)) := by
  refine ⟨fun pins s σ H D I ⟨r, st, env, p, q, g⟩ => ?_⟩
  have g : GoodS W (match ex C (.frz i) env st with | .nx e' st' => ex C b e' st' | .ret v st' => .ret v st' | .bk e' st' => .bk e' st' | .exc x st' => .exc x st' | .no => .no) r H σ.length D (EX W Wx) := g
  cases hx : ex C (.frz i) env st with
  | no => rw [hx] at g; exact g.elim
  | nx e1 st1 =>
    obtain ⟨n, ks, vs, h1, h2, h3⟩ := frz_shape hx (fun z => nomatch z)
    rw [hx] at g
    cases h3
    obtain ⟨a, hr, kvs, hd, hk, hv⟩ := p.obj n _ h2
    obtain ⟨od, I1⟩ := I.lock hd True.intro
    refine h.run pins s σ _ D I1 ⟨r, st.set n (.fdi ks vs), env, p.put hr ⟨kvs, od, upd_same, hk, hv.ext (.put p hr)⟩, q.ext (.put p hr), GoodS.ext (.put p hr) g⟩
  | ret v st1 => obtain ⟨n, ks, vs, h1, h2, h3⟩ := frz_shape hx (fun z => nomatch z); cases h3
  | bk e1 st1 => obtain ⟨n, ks, vs, h1, h2, h3⟩ := frz_shape hx (fun z => nomatch z); cases h3
  | exc k st1 => obtain ⟨n, ks, vs, h1, h2, h3⟩ := frz_shape hx (fun z => nomatch z); cases h3
theorem keyI_at : ∀ {ks : List Val} {l : List Key} {i : Nat} {v : Val}, allInt ks = true → RelK ks l → ks[i]? = some v → ∃ k : Int, v = .int k ∧ l[i]? = some (.inl k)
  | [], l, i, v, _, _, h => by simp at h
  | .int k :: ks, _, 0, v, hi, ⟨k', s, e, ea, t⟩, h => by
    subst e
    cases ea
    cases h
    exact ⟨k, rfl, rfl⟩
  | .int k :: ks, _, i + 1, v, hi, ⟨k', s, e, ea, t⟩, h => by
    subst e
    obtain ⟨p', e1, e2⟩ := keyI_at (i := i) (show allInt ks = true from hi) t (by simpa using h)
    exact ⟨p', e1, by simpa using e2⟩
theorem src_keysI {K : PySem.W.Frag} {r : Pl} {H : Hp} {d : Addr} {o : Obj} {ks : List Val} {kvs : List (Key × V)} (h : H d = some (.frz o (.dK kvs))) (hi : allInt ks = true) (q : RelK ks (kvs.map (·.1))) : SrcOk W K r H (Itk d o kvs) (.fz ks) := by
  have len := q.len
  rw [List.length_map] at len
  intro r' H' e i
  have h' := e.frzs _ _ _ h
  refine ⟨fun v hv => ?_, fun hi => ⟨h', by rw [← len]; simpa using hi⟩⟩
  have hil : i < kvs.length := by
    rw [← len]
    simpa using (List.getElem?_eq_some_iff.mp hv).1
  refine ⟨⟨h', hil⟩, fun x H'' ⟨e1, k, v', hk, hx⟩ => ⟨.inl e1, fun st p => ?_⟩⟩
  subst e1 hx
  obtain ⟨p', rfl, hl⟩ := keyI_at hi q hv
  rw [List.getElem?_map, hk] at hl
  cases hl
  exact rfl
theorem i_keysI {tg l : Expr} {i : E} (h : PE X l (dE W C Wx i)) : PI X tg l (dI W X.K C Wx (.keysI i)) := by
  refine piI (pi_keys h) fun σ H R ⟨r, st, env, p, q, g⟩ => ⟨r, st, env, p, q, ?_⟩
  have g : GoodI W X.K ((ev C i env st).bind fun x st1 => match x with | .ref n => (match st1[n]? with | some (.fdi ks _) => (match allInt ks with | true => .ok (.tl ks) st1 | false => .no) | _ => .no) | _ => .no) r H R fun k H' => EX W Wx k σ H' := g
  cases h1 : ev C i env st with
  | no => rw [h1] at g; exact g
  | exc k st1 => rw [h1] at g; exact g
  | ok v st1 =>
    rw [h1] at g
    intro r1 H1 x e1 p1 q1
    cases v with
    | ref n =>
      have g : GoodI W X.K (match st1[n]? with | some (.fdi ks _) => (match allInt ks with | true => .ok (.tl ks) st1 | false => .no) | _ => .no) r H R fun k H' => EX W Wx k σ H' := g
      obtain ⟨a, rfl, hr⟩ := q1
      obtain ⟨o, ho, qo⟩ := p1.at_ hr
      rw [ho] at g
      cases o with
      | fdi ks vs =>
        have g : GoodI W X.K (match allInt ks with | true => .ok (.tl ks) st1 | false => .no) r H R fun k H' => EX W Wx k σ H' := g
        cases hp : allInt ks with
        | false => rw [hp] at g; exact (show False from g).elim
        | true =>
          rw [hp] at g
          obtain ⟨kvs, od, ha, hk, hv⟩ := qo
          exact ⟨a, od, rfl, .inl ⟨kvs, ha, g r1 H1 _ e1 p1 (src_keysI ha hp hk)⟩⟩
      | _ => exact (show False from g).elim
    | _ => exact (show False from g).elim
end
end G

end

section
namespace L
open G
/-- led_by(grid, mirror, place); slots grid mirror place x y -/
def b_led_by : S :=
  (.seq (.setT (.many [3, 4]) (.var 2)) (.seq (.ite (.cmp .eq (.var 0) (.lit (.str [115, 113, 117, 97, 114, 101]))) (.ret (.sub (.lst (.cons (.cons (.var 3) (.cons (.bin .sub (.lit (.int (.ofNat 0))) (.var 4)) .nil)) (.cons (.cons (.var 4) (.cons (.var 3) .nil)) (.cons (.cons (.bin .sub (.lit (.int (.ofNat 0))) (.var 3)) (.cons (.var 4) .nil)) (.cons (.cons (.bin .sub (.lit (.int (.ofNat 0))) (.var 4)) (.cons (.bin .sub (.lit (.int (.ofNat 0))) (.var 3)) .nil)) .nil))))) (.var 1))) .skip) (.ret (.sub (.lst (.cons (.cons (.bin .add (.var 3) (.var 4)) (.cons (.bin .sub (.lit (.int (.ofNat 0))) (.var 4)) .nil)) (.cons (.cons (.var 4) (.cons (.var 3) .nil)) (.cons (.cons (.bin .sub (.lit (.int (.ofNat 0))) (.var 3)) (.cons (.bin .add (.var 3) (.var 4)) .nil)) (.cons (.cons (.bin .sub (.bin .sub (.lit (.int (.ofNat 0))) (.var 3)) (.var 4)) (.cons (.var 4) .nil)) (.cons (.cons (.bin .sub (.lit (.int (.ofNat 0))) (.var 4)) (.cons (.bin .sub (.lit (.int (.ofNat 0))) (.var 3)) .nil)) (.cons (.cons (.var 3) (.cons (.bin .sub (.bin .sub (.lit (.int (.ofNat 0))) (.var 3)) (.var 4)) .nil)) .nil))))))) (.var 1)))))
def ir_led_by : Fd := .df 3 5 b_led_by
/-- side(one, other); slots one other -/
def b_side : S :=
  (.ret (.bin .sub (.bin .mul (.sub (.var 0) (.lit (.int (.ofNat 0)))) (.sub (.var 1) (.lit (.int (.ofNat 1))))) (.bin .mul (.sub (.var 0) (.lit (.int (.ofNat 1)))) (.sub (.var 1) (.lit (.int (.ofNat 0)))))))
def ir_side : Fd := .df 2 2 b_side
/-- half_line(grid, mirror); slots grid mirror count x y -/
def b_half_line : S :=
  (.seq (.set 2 (.call 3 (.cons (.var 0) .nil))) (.seq (.ite (.cmp .ge (.var 1) (.var 2)) (.seq (.setT (.many [3, 4]) (.call 2 (.cons (.var 0) (.cons (.bin .sub (.var 1) (.var 2)) .nil)))) (.ret (.cons (.bin .sub (.lit (.int (.ofNat 0))) (.var 3)) (.cons (.bin .sub (.lit (.int (.ofNat 0))) (.var 4)) .nil)))) .skip) (.seq (.ite (.cmp .eq (.var 0) (.lit (.str [115, 113, 117, 97, 114, 101]))) (.ret (.sub (.lst (.cons (.cons (.lit (.int (.ofNat 1))) (.cons (.lit (.int (.ofNat 0))) .nil)) (.cons (.cons (.lit (.int (.ofNat 1))) (.cons (.lit (.int (.ofNat 1))) .nil)) (.cons (.cons (.lit (.int (.ofNat 0))) (.cons (.lit (.int (.ofNat 1))) .nil)) (.cons (.cons (.neg (.lit (.int (.ofNat 1)))) (.cons (.lit (.int (.ofNat 1))) .nil)) .nil))))) (.var 1))) .skip) (.ret (.sub (.lst (.cons (.cons (.lit (.int (.ofNat 1))) (.cons (.lit (.int (.ofNat 0))) .nil)) (.cons (.cons (.lit (.int (.ofNat 1))) (.cons (.lit (.int (.ofNat 1))) .nil)) (.cons (.cons (.lit (.int (.ofNat 0))) (.cons (.lit (.int (.ofNat 1))) .nil)) (.cons (.cons (.neg (.lit (.int (.ofNat 1)))) (.cons (.lit (.int (.ofNat 2))) .nil)) (.cons (.cons (.neg (.lit (.int (.ofNat 1)))) (.cons (.lit (.int (.ofNat 1))) .nil)) (.cons (.cons (.neg (.lit (.int (.ofNat 2)))) (.cons (.lit (.int (.ofNat 1))) .nil)) .nil))))))) (.var 1))))))
def ir_half_line : Fd := .df 2 5 b_half_line
/-- count_mirrors(grid); slots grid -/
def b_count_mirrors : S :=
  (.ret (.ifx (.cmp .eq (.var 0) (.lit (.str [115, 113, 117, 97, 114, 101]))) (.lit (.int (.ofNat 4))) (.lit (.int (.ofNat 6)))))
def ir_count_mirrors : Fd := .df 1 1 b_count_mirrors
/-- divisor_of(one, other); slots one other -/
def b_divisor_of : S :=
  (.seq (.whl (.cmp .gt (.var 1) (.lit (.int (.ofNat 0)))) (.par 0 1 (.cons (.var 1) (.cons (.bin .mod (.var 0) (.var 1)) .nil)))) (.ret (.var 0)))
def ir_divisor_of : Fd := .df 2 2 b_divisor_of
/-- step_of(grid, mirrors); slots grid mirrors result mirror -/
def b_step_of : S :=
  (.seq (.set 2 (.call 3 (.cons (.var 0) .nil))) (.seq (.for (.one 3) (.var 1) (.set 2 (.call 4 (.cons (.var 2) (.cons (.bin .sub (.var 3) (.sub (.var 1) (.lit (.int (.ofNat 0))))) .nil))))) (.ret (.var 2))))
def ir_step_of : Fd := .df 2 4 b_step_of
/-- shown_list(grid, mirrors); slots grid mirrors every mirror -/
def b_shown_list : S :=
  (.seq (.set 2 (.call 5 (.cons (.var 0) (.cons (.var 1) .nil)))) (.ret (.bi .tuple (.cons (.lc [3] (.one 3) (.rng (.cons (.call 3 (.cons (.var 0) .nil)) .nil)) (.cmp .eq (.bin .mod (.bin .sub (.var 3) (.sub (.var 1) (.lit (.int (.ofNat 0))))) (.var 2)) (.lit (.int (.ofNat 0)))) (.var 3)) .nil))))
def ir_shown_list : Fd := .df 2 4 b_shown_list
/-- walls_of(grid, mirrors); slots grid mirrors count every -/
def b_walls_of : S :=
  (.seq (.par 2 3 (.cons (.call 3 (.cons (.var 0) .nil)) (.cons (.call 5 (.cons (.var 0) (.cons (.var 1) .nil))) .nil))) (.ret (.ifx (.cmp .eq (.var 3) (.var 2)) (.slc (.var 1) (.lit .non) (.lit (.int (.ofNat 1)))) (.cons (.sub (.var 1) (.lit (.int (.ofNat 0)))) (.cons (.bin .mod (.bin .add (.sub (.var 1) (.lit (.int (.ofNat 0)))) (.var 3)) (.var 2)) .nil)))))
def ir_walls_of : Fd := .df 2 4 b_walls_of
/-- image_list(grid, mirrors, place); slots grid mirrors place found line here mirror after -/
def b_image_list : S :=
  (.seq (.par 3 4 (.cons (.dput1 true (.var 2) (.lit (.bl true))) (.cons (.lstM (.cons (.var 2) .nil)) .nil))) (.seq (.whl (.cmp .ne (.var 4) (.lst .nil)) (.seq (.set 5 (.meth .pop (.var 4) .nil)) (.for (.one 6) (.var 1) (.seq (.set 7 (.call 0 (.cons (.var 0) (.cons (.var 6) (.cons (.var 5) .nil))))) (.ite (.cmp .notIn (.var 7) (.var 3)) (.seq (.put (.lit (.bl true)) (.var 3) (.var 7)) (.expr (.meth .append (.var 4) (.cons (.var 7) .nil)))) .skip))))) (.ret (.bi .sorted (.cons (.var 3) .nil)))))
def ir_image_list : Fd := .df 3 8 b_image_list
/-- inside(grid, mirrors, place); slots grid mirrors place every -/
def b_inside : S :=
  (.seq (.set 3 (.call 5 (.cons (.var 0) (.cons (.var 1) .nil)))) (.seq (.ite (.cmp .lt (.call 1 (.cons (.call 2 (.cons (.var 0) (.cons (.sub (.var 1) (.lit (.int (.ofNat 0)))) .nil))) (.cons (.var 2) .nil))) (.lit (.int (.ofNat 0)))) (.ret (.lit (.bl false))) .skip) (.ret (.or (.cmp .eq (.var 3) (.call 3 (.cons (.var 0) .nil))) (.cmp .ge (.call 1 (.cons (.var 2) (.cons (.call 2 (.cons (.var 0) (.cons (.bin .add (.sub (.var 1) (.lit (.int (.ofNat 0)))) (.var 3)) .nil))) .nil))) (.lit (.int (.ofNat 0))))))))
def ir_inside : Fd := .df 3 4 b_inside
/-- depth_of(grid, mirrors, place); slots grid mirrors place every inner lines first last mirror line -/
def b_depth_of : S :=
  (.seq (.set 3 (.call 5 (.cons (.var 0) (.cons (.var 1) .nil)))) (.seq (.par 6 7 (.cons (.call 2 (.cons (.var 0) (.cons (.sub (.var 1) (.lit (.int (.ofNat 0)))) .nil))) (.cons (.call 2 (.cons (.var 0) (.cons (.bin .add (.sub (.var 1) (.lit (.int (.ofNat 0)))) (.var 3)) .nil))) .nil))) (.seq (.set 4 (.cons (.bin .add (.sub (.var 6) (.lit (.int (.ofNat 0)))) (.sub (.var 7) (.lit (.int (.ofNat 0))))) (.cons (.bin .add (.sub (.var 6) (.lit (.int (.ofNat 1)))) (.sub (.var 7) (.lit (.int (.ofNat 1))))) .nil))) (.seq (.ite (.cmp .eq (.var 3) (.call 3 (.cons (.var 0) .nil))) (.set 4 (.call 2 (.cons (.var 0) (.cons (.bin .add (.sub (.var 1) (.lit (.int (.ofNat 0)))) (.lit (.int (.ofNat 1)))) .nil)))) .skip) (.seq (.set 5 (.lc [8] (.one 8) (.call 6 (.cons (.var 0) (.cons (.var 1) .nil))) (.lit (.bl true)) (.call 2 (.cons (.var 0) (.cons (.var 8) .nil))))) (.ret (.bi .len (.cons (.lc [9] (.one 9) (.var 5) (.cmp .lt (.bin .mul (.call 1 (.cons (.var 9) (.cons (.var 2) .nil))) (.call 1 (.cons (.var 9) (.cons (.var 4) .nil)))) (.lit (.int (.ofNat 0)))) (.lit (.int (.ofNat 1)))) .nil))))))))
def ir_depth_of : Fd := .df 3 10 b_depth_of
/-- is_integer(value, low, high); slots value low high -/
def b_is_integer : S :=
  (.ret (.and (.bi (.isi .int) (.cons (.var 0) .nil)) (.and (.not (.bi (.isi .bool) (.cons (.var 0) .nil))) (.chain .le .le (.var 1) (.var 0) (.var 2)))))
def ir_is_integer : Fd := .df 3 3 b_is_integer
/-- is_place(value); slots value one -/
def b_is_place : S :=
  (.ret (.and (.bi (.isi .tuple) (.cons (.var 0) .nil)) (.and (.cmp .eq (.bi .len (.cons (.var 0) .nil)) (.lit (.int (.ofNat 2)))) (.bi .all (.cons (.lc [1] (.one 1) (.var 0) (.lit (.bl true)) (.call 11 (.cons (.var 1) (.cons (.neg (.lit (.int (.ofNat 9)))) (.cons (.lit (.int (.ofNat 9))) .nil))))) .nil)))))
def ir_is_place : Fd := .df 1 2 b_is_place
/-- check_grid(grid); slots grid -/
def b_check_grid : S :=
  (.ite (.or (.not (.bi (.isi .str) (.cons (.var 0) .nil))) (.cmp .notIn (.var 0) (.cons (.lit (.str [115, 113, 117, 97, 114, 101])) (.cons (.lit (.str [116, 114, 105, 97, 110, 103, 108, 101])) .nil)))) (.raise 0) .skip)
def ir_check_grid : Fd := .df 1 1 b_check_grid
/-- check_place(place); slots place -/
def b_check_place : S :=
  (.ite (.not (.call 12 (.cons (.var 0) .nil))) (.raise 3) .skip)
def ir_check_place : Fd := .df 1 1 b_check_place
/-- check_set(grid, mirrors); slots grid mirrors most one other -/
def b_check_set : S :=
  (.seq (.expr (.call 13 (.cons (.var 0) .nil))) (.seq (.set 2 (.bin .sub (.call 3 (.cons (.var 0) .nil)) (.lit (.int (.ofNat 1))))) (.seq (.ite (.or (.not (.bi (.isi .tuple) (.cons (.var 1) .nil))) (.or (.cmp .eq (.var 1) .nil) (.not (.bi .all (.cons (.lc [3] (.one 3) (.var 1) (.lit (.bl true)) (.call 11 (.cons (.var 3) (.cons (.lit (.int (.ofNat 0))) (.cons (.var 2) .nil))))) .nil))))) (.raise 2) .skip) (.ite (.not (.bi .all (.cons (.lc [3, 4] (.many [3, 4]) (.zip (.var 1) (.slc (.var 1) (.lit (.int (.ofNat 1))) (.lit .non))) (.lit (.bl true)) (.cmp .lt (.var 3) (.var 4))) .nil))) (.raise 2) .skip))))
def ir_check_set : Fd := .df 2 5 b_check_set
/-- check_all(grid, mirrors, place); slots grid mirrors place -/
def b_check_all : S :=
  (.seq (.expr (.call 15 (.cons (.var 0) (.cons (.var 1) .nil)))) (.expr (.call 14 (.cons (.var 2) .nil))))
def ir_check_all : Fd := .df 3 3 b_check_all
/-- check_mirror(grid, mirror); slots grid mirror -/
def b_check_mirror : S :=
  (.ite (.not (.call 11 (.cons (.var 1) (.cons (.lit (.int (.ofNat 0))) (.cons (.bin .sub (.call 3 (.cons (.var 0) .nil)) (.lit (.int (.ofNat 1)))) .nil))))) (.raise 1) .skip)
def ir_check_mirror : Fd := .df 2 2 b_check_mirror
/-- turned_by(grid, k, place); slots grid k place again x y -/
def b_turned_by : S :=
  (.seq (.setT (.many [4, 5]) (.var 2)) (.seq (.for (.one 3) (.rng (.cons (.bin .mod (.var 1) (.call 3 (.cons (.var 0) .nil))) .nil)) (.par 4 5 (.cons (.bin .sub (.lit (.int (.ofNat 0))) (.var 5)) (.cons (.ifx (.cmp .eq (.var 0) (.lit (.str [115, 113, 117, 97, 114, 101]))) (.var 4) (.bin .add (.var 4) (.var 5))) .nil)))) (.ret (.cons (.var 4) (.cons (.var 5) .nil)))))
def ir_turned_by : Fd := .df 3 6 b_turned_by
/-- check_number(k, low, high); slots k low high -/
def b_check_number : S :=
  (.ite (.not (.call 11 (.cons (.var 0) (.cons (.var 1) (.cons (.var 2) .nil))))) (.raise 4) .skip)
def ir_check_number : Fd := .df 3 3 b_check_number
/-- reflect(grid, mirror, place); slots grid mirror place -/
def b_reflect : S :=
  (.seq (.expr (.call 13 (.cons (.var 0) .nil))) (.seq (.expr (.call 17 (.cons (.var 0) (.cons (.var 1) .nil)))) (.seq (.expr (.call 14 (.cons (.var 2) .nil))) (.ret (.call 0 (.cons (.var 0) (.cons (.var 1) (.cons (.var 2) .nil))))))))
def ir_reflect : Fd := .df 3 3 b_reflect
/-- turn(grid, k, place); slots grid k place -/
def b_turn : S :=
  (.seq (.expr (.call 13 (.cons (.var 0) .nil))) (.seq (.expr (.call 19 (.cons (.var 1) (.cons (.neg (.lit (.int (.ofNat 99)))) (.cons (.lit (.int (.ofNat 99))) .nil))))) (.seq (.expr (.call 14 (.cons (.var 2) .nil))) (.ret (.call 18 (.cons (.var 0) (.cons (.var 1) (.cons (.var 2) .nil))))))))
def ir_turn : Fd := .df 3 3 b_turn
/-- mirrors_at(grid, place); slots grid place mirror -/
def b_mirrors_at : S :=
  (.seq (.expr (.call 13 (.cons (.var 0) .nil))) (.seq (.expr (.call 14 (.cons (.var 1) .nil))) (.ret (.lc [2] (.one 2) (.rng (.cons (.call 3 (.cons (.var 0) .nil)) .nil)) (.cmp .eq (.call 0 (.cons (.var 0) (.cons (.var 2) (.cons (.var 1) .nil)))) (.var 1)) (.var 2)))))
def ir_mirrors_at : Fd := .df 2 3 b_mirrors_at
/-- step(grid, mirrors); slots grid mirrors -/
def b_step : S :=
  (.seq (.expr (.call 15 (.cons (.var 0) (.cons (.var 1) .nil)))) (.ret (.call 5 (.cons (.var 0) (.cons (.var 1) .nil)))))
def ir_step : Fd := .df 2 2 b_step
/-- shown(grid, mirrors); slots grid mirrors -/
def b_shown : S :=
  (.seq (.expr (.call 15 (.cons (.var 0) (.cons (.var 1) .nil)))) (.ret (.call 6 (.cons (.var 0) (.cons (.var 1) .nil)))))
def ir_shown : Fd := .df 2 2 b_shown
/-- walls(grid, mirrors); slots grid mirrors -/
def b_walls : S :=
  (.seq (.expr (.call 15 (.cons (.var 0) (.cons (.var 1) .nil)))) (.ret (.call 7 (.cons (.var 0) (.cons (.var 1) .nil)))))
def ir_walls : Fd := .df 2 2 b_walls
/-- images(grid, mirrors, place); slots grid mirrors place -/
def b_images : S :=
  (.seq (.expr (.call 16 (.cons (.var 0) (.cons (.var 1) (.cons (.var 2) .nil))))) (.ret (.call 8 (.cons (.var 0) (.cons (.var 1) (.cons (.var 2) .nil))))))
def ir_images : Fd := .df 3 3 b_images
/-- in_piece(grid, mirrors, place); slots grid mirrors place -/
def b_in_piece : S :=
  (.seq (.expr (.call 16 (.cons (.var 0) (.cons (.var 1) (.cons (.var 2) .nil))))) (.ret (.call 9 (.cons (.var 0) (.cons (.var 1) (.cons (.var 2) .nil))))))
def ir_in_piece : Fd := .df 3 3 b_in_piece
/-- main_image(grid, mirrors, place); slots grid mirrors place one -/
def b_main_image : S :=
  (.seq (.expr (.call 16 (.cons (.var 0) (.cons (.var 1) (.cons (.var 2) .nil))))) (.ret (.sub (.lc [3] (.one 3) (.call 8 (.cons (.var 0) (.cons (.var 1) (.cons (.var 2) .nil)))) (.call 9 (.cons (.var 0) (.cons (.var 1) (.cons (.var 3) .nil)))) (.var 3)) (.lit (.int (.ofNat 0))))))
def ir_main_image : Fd := .df 3 4 b_main_image
/-- depth(grid, mirrors, place); slots grid mirrors place -/
def b_depth : S :=
  (.seq (.expr (.call 16 (.cons (.var 0) (.cons (.var 1) (.cons (.var 2) .nil))))) (.ret (.call 10 (.cons (.var 0) (.cons (.var 1) (.cons (.var 2) .nil))))))
def ir_depth : Fd := .df 3 3 b_depth
/-- way(grid, mirrors, place); slots grid mirrors place found wall after -/
def b_way : S :=
  (.seq (.expr (.call 16 (.cons (.var 0) (.cons (.var 1) (.cons (.var 2) .nil))))) (.seq (.set 3 (.lstM .nil)) (.seq (.whl (.cmp .gt (.call 10 (.cons (.var 0) (.cons (.var 1) (.cons (.var 2) .nil)))) (.lit (.int (.ofNat 0)))) (.for (.one 4) (.bi .sorted (.cons (.call 7 (.cons (.var 0) (.cons (.var 1) .nil))) .nil)) (.seq (.set 5 (.call 0 (.cons (.var 0) (.cons (.var 4) (.cons (.var 2) .nil))))) (.ite (.cmp .lt (.call 10 (.cons (.var 0) (.cons (.var 1) (.cons (.var 5) .nil)))) (.call 10 (.cons (.var 0) (.cons (.var 1) (.cons (.var 2) .nil))))) (.seq (.expr (.meth .append (.var 3) (.cons (.var 4) .nil))) (.seq (.set 2 (.var 5)) .brk)) .skip)))) (.ret (.var 3)))))
def ir_way : Fd := .df 3 6 b_way
/-- is_picture(value); slots value one other -/
def b_is_picture : S :=
  (.seq (.ite (.or (.not (.bi (.isi .tuple) (.cons (.var 0) .nil))) (.or (.cmp .gt (.bi .len (.cons (.var 0) .nil)) (.lit (.int (.ofNat 40)))) (.not (.bi .all (.cons (.lc [1] (.one 1) (.var 0) (.lit (.bl true)) (.call 12 (.cons (.var 1) .nil))) .nil))))) (.ret (.lit (.bl false))) .skip) (.ret (.bi .all (.cons (.lc [1, 2] (.many [1, 2]) (.zip (.var 0) (.slc (.var 0) (.lit (.int (.ofNat 1))) (.lit .non))) (.lit (.bl true)) (.cmp .lt (.var 1) (.var 2))) .nil))))
def ir_is_picture : Fd := .df 1 3 b_is_picture
/-- check_picture(picture); slots picture -/
def b_check_picture : S :=
  (.ite (.not (.call 31 (.cons (.var 0) .nil))) (.raise 5) .skip)
def ir_check_picture : Fd := .df 1 1 b_check_picture
/-- together(grid, mirrors, picture); slots grid mirrors picture found place image -/
def b_together : S :=
  (.seq (.set 3 (.dnew true)) (.seq (.for (.one 4) (.var 2) (.for (.one 5) (.call 8 (.cons (.var 0) (.cons (.var 1) (.cons (.var 4) .nil)))) (.put (.lit (.bl true)) (.var 3) (.var 5)))) (.ret (.bi .tuple (.cons (.bi .sorted (.cons (.var 3) .nil)) .nil)))))
def ir_together : Fd := .df 3 6 b_together
/-- completed(grid, mirrors, picture); slots grid mirrors picture -/
def b_completed : S :=
  (.seq (.expr (.call 15 (.cons (.var 0) (.cons (.var 1) .nil)))) (.seq (.expr (.call 32 (.cons (.var 2) .nil))) (.ret (.call 33 (.cons (.var 0) (.cons (.var 1) (.cons (.var 2) .nil)))))))
def ir_completed : Fd := .df 3 3 b_completed
/-- is_complete(grid, mirrors, picture); slots grid mirrors picture -/
def b_is_complete : S :=
  (.seq (.expr (.call 15 (.cons (.var 0) (.cons (.var 1) .nil)))) (.seq (.expr (.call 32 (.cons (.var 2) .nil))) (.ret (.cmp .eq (.call 33 (.cons (.var 0) (.cons (.var 1) (.cons (.var 2) .nil)))) (.var 2)))))
def ir_is_complete : Fd := .df 3 3 b_is_complete
/-- window(grid, size); slots grid size found x y -/
def b_window : S :=
  (.seq (.set 2 (.lstM .nil)) (.seq (.for (.one 3) (.rng (.cons (.bin .sub (.lit (.int (.ofNat 0))) (.var 1)) (.cons (.bin .add (.var 1) (.lit (.int (.ofNat 1)))) .nil))) (.for (.one 4) (.rng (.cons (.bin .sub (.lit (.int (.ofNat 0))) (.var 1)) (.cons (.bin .add (.var 1) (.lit (.int (.ofNat 1)))) .nil))) (.ite (.or (.cmp .eq (.var 0) (.lit (.str [115, 113, 117, 97, 114, 101]))) (.chain .le .le (.neg (.var 1)) (.bin .add (.var 3) (.var 4)) (.var 1))) (.expr (.meth .append (.var 2) (.cons (.cons (.var 3) (.cons (.var 4) .nil)) .nil))) .skip))) (.ret (.var 2))))
def ir_window : Fd := .df 2 5 b_window
/-- power(count); slots count result again -/
def b_power : S :=
  (.seq (.set 1 (.lit (.int (.ofNat 1)))) (.seq (.for (.one 2) (.rng (.cons (.var 0) .nil)) (.aug 1 .mul (.lit (.int (.ofNat 2))))) (.ret (.var 1))))
def ir_power : Fd := .df 1 3 b_power
/-- count_complete(grid, mirrors, size); slots grid mirrors size groups place -/
def b_count_complete : S :=
  (.seq (.expr (.call 15 (.cons (.var 0) (.cons (.var 1) .nil)))) (.seq (.expr (.call 19 (.cons (.var 2) (.cons (.lit (.int (.ofNat 1))) (.cons (.lit (.int (.ofNat 2))) .nil))))) (.seq (.set 3 .dnewN) (.seq (.for (.one 4) (.call 36 (.cons (.var 0) (.cons (.var 2) .nil))) (.putN (.lit (.bl true)) (.var 3) (.bi .tuple (.cons (.call 8 (.cons (.var 0) (.cons (.var 1) (.cons (.var 4) .nil)))) .nil)))) (.ret (.call 37 (.cons (.bi .lenN (.cons (.var 3) .nil)) .nil)))))))
def ir_count_complete : Fd := .df 3 5 b_count_complete
/-- groups_of(places, leads); slots places leads place count seen -/
def b_groups_of : S :=
  (.seq (.par 3 4 (.cons (.lit (.int (.ofNat 0))) (.cons (.dnew true) .nil))) (.seq (.for (.one 2) (.var 0) (.ite (.cmp .notIn (.var 2) (.var 4)) (.seq (.aug 3 .add (.lit (.int (.ofNat 1)))) (.whl (.cmp .notIn (.var 2) (.var 4)) (.seq (.put (.lit (.bl true)) (.var 4) (.var 2)) (.set 2 (.sub (.var 1) (.var 2)))))) .skip)) (.ret (.var 3))))
def ir_groups_of : Fd := .df 2 5 b_groups_of
/-- count_different(grid, mirrors, size); slots grid mirrors size mirror k places total some place -/
def b_count_different : S :=
  (.seq (.expr (.call 15 (.cons (.var 0) (.cons (.var 1) .nil)))) (.seq (.expr (.call 19 (.cons (.var 2) (.cons (.lit (.int (.ofNat 1))) (.cons (.lit (.int (.ofNat 2))) .nil))))) (.seq (.par3 5 6 7 (.cons (.call 36 (.cons (.var 0) (.cons (.var 2) .nil))) (.cons (.lit (.int (.ofNat 0))) (.cons (.call 6 (.cons (.var 0) (.cons (.var 1) .nil))) .nil)))) (.seq (.for (.one 3) (.var 7) (.aug 6 .add (.call 37 (.cons (.call 39 (.cons (.var 5) (.cons (.bi .dictP (.cons (.lc [8] (.one 8) (.var 5) (.lit (.bl true)) (.cons (.var 8) (.cons (.call 0 (.cons (.var 0) (.cons (.var 3) (.cons (.var 8) .nil)))) .nil))) .nil)) .nil))) .nil)))) (.seq (.for (.one 4) (.rng (.cons (.lit (.int (.ofNat 0))) (.cons (.call 3 (.cons (.var 0) .nil)) (.cons (.call 5 (.cons (.var 0) (.cons (.var 1) .nil))) .nil)))) (.aug 6 .add (.call 37 (.cons (.call 39 (.cons (.var 5) (.cons (.bi .dictP (.cons (.lc [8] (.one 8) (.var 5) (.lit (.bl true)) (.cons (.var 8) (.cons (.call 18 (.cons (.var 0) (.cons (.var 4) (.cons (.var 8) .nil)))) .nil))) .nil)) .nil))) .nil)))) (.ret (.bin .fdiv (.var 6) (.bin .mul (.lit (.int (.ofNat 2))) (.bi .len (.cons (.var 7) .nil))))))))))
def ir_count_different : Fd := .df 3 9 b_count_different
/-- check_line(a, b, some); slots a b some one -/
def b_check_line : S :=
  (.seq (.for (.one 3) (.bin .add (.cons (.var 0) (.cons (.var 1) .nil)) (.var 2)) (.expr (.call 19 (.cons (.var 3) (.cons (.neg (.lit (.int (.ofNat 99)))) (.cons (.lit (.int (.ofNat 99))) .nil)))))) (.ite (.cmp .ge (.var 0) (.var 1)) (.raise 4) .skip))
def ir_check_line : Fd := .df 3 4 b_check_line
/-- line_images(a, b, x, low, high); slots a b x low high apart one -/
def b_line_images : S :=
  (.seq (.expr (.call 41 (.cons (.var 0) (.cons (.var 1) (.cons (.cons (.var 2) (.cons (.var 3) (.cons (.var 4) .nil))) .nil))))) (.seq (.set 5 (.bin .mul (.lit (.int (.ofNat 2))) (.bin .sub (.var 1) (.var 0)))) (.ret (.lc [6] (.one 6) (.rng (.cons (.var 3) (.cons (.bin .add (.var 4) (.lit (.int (.ofNat 1)))) .nil))) (.or (.cmp .eq (.bin .mod (.bin .sub (.var 6) (.var 2)) (.var 5)) (.lit (.int (.ofNat 0)))) (.cmp .eq (.bin .mod (.bin .sub (.bin .add (.var 6) (.var 2)) (.bin .mul (.lit (.int (.ofNat 2))) (.var 0))) (.var 5)) (.lit (.int (.ofNat 0))))) (.var 6)))))
def ir_line_images : Fd := .df 5 7 b_line_images
/-- inner_image(a, b, x); slots a b x rest -/
def b_inner_image : S :=
  (.seq (.expr (.call 41 (.cons (.var 0) (.cons (.var 1) (.cons (.cons (.var 2) .nil) .nil))))) (.seq (.set 3 (.bin .mod (.bin .sub (.var 2) (.var 0)) (.bin .mul (.lit (.int (.ofNat 2))) (.bin .sub (.var 1) (.var 0))))) (.ret (.bin .add (.var 0) (.bi .min2 (.cons (.var 3) (.cons (.bin .sub (.bin .mul (.lit (.int (.ofNat 2))) (.bin .sub (.var 1) (.var 0))) (.var 3)) .nil)))))))
def ir_inner_image : Fd := .df 3 4 b_inner_image
/-- line_depth(a, b, x); slots a b x -/
def b_line_depth : S :=
  (.seq (.expr (.call 41 (.cons (.var 0) (.cons (.var 1) (.cons (.cons (.var 2) .nil) .nil))))) (.seq (.ite (.cmp .gt (.var 2) (.var 1)) (.ret (.bin .fdiv (.bin .sub (.bin .sub (.bin .add (.bin .sub (.var 2) (.var 1)) (.var 1)) (.var 0)) (.lit (.int (.ofNat 1)))) (.bin .sub (.var 1) (.var 0)))) .skip) (.ret (.ifx (.cmp .lt (.var 2) (.var 0)) (.bin .fdiv (.bin .sub (.bin .sub (.bin .add (.bin .sub (.var 0) (.var 2)) (.var 1)) (.var 0)) (.lit (.int (.ofNat 1)))) (.bin .sub (.var 1) (.var 0))) (.lit (.int (.ofNat 0)))))))
def ir_line_depth : Fd := .df 3 3 b_line_depth
/-- place_text(place); slots place -/
def b_place_text : S :=
  (.ret (.bin .add (.bin .add (.bi .strI (.cons (.sub (.var 0) (.lit (.int (.ofNat 0)))) .nil)) (.lit (.str [44]))) (.bi .strI (.cons (.sub (.var 0) (.lit (.int (.ofNat 1)))) .nil))))
def ir_place_text : Fd := .df 1 1 b_place_text
/-- format_picture(picture); slots picture place -/
def b_format_picture : S :=
  (.seq (.expr (.call 32 (.cons (.var 0) .nil))) (.ret (.ifx (.cmp .ne (.var 0) .nil) (.meth .join (.lit (.str [32])) (.cons (.lc [1] (.one 1) (.var 0) (.lit (.bl true)) (.call 45 (.cons (.var 1) .nil))) .nil)) (.lit (.str [110, 111, 110, 101])))))
def ir_format_picture : Fd := .df 1 2 b_format_picture
/-- parse_picture(text); slots text places word parts part -/
def b_parse_picture : S :=
  (.seq (.ite (.not (.bi (.isi .str) (.cons (.var 0) .nil))) (.raise 7) .skip) (.seq (.ite (.cmp .eq (.var 0) (.lit (.str [110, 111, 110, 101]))) (.ret .nil) .skip) (.seq (.set 1 (.lstM .nil)) (.seq (.for (.one 2) (.meth .split (.var 0) (.cons (.lit (.str [32])) .nil)) (.seq (.set 3 (.meth .split (.var 2) (.cons (.lit (.str [44])) .nil))) (.seq (.ite (.or (.cmp .ne (.bi .len (.cons (.var 3) .nil)) (.lit (.int (.ofNat 2)))) (.not (.bi .all (.cons (.lc [4] (.one 4) (.var 3) (.lit (.bl true)) (.call 48 (.cons (.var 4) .nil))) .nil)))) (.raise 7) .skip) (.expr (.meth .append (.var 1) (.cons (.cons (.bi .intS (.cons (.sub (.var 3) (.lit (.int (.ofNat 0)))) .nil)) (.cons (.bi .intS (.cons (.sub (.var 3) (.lit (.int (.ofNat 1)))) .nil)) .nil)) .nil)))))) (.seq (.ite (.not (.call 31 (.cons (.bi .tuple (.cons (.var 1) .nil)) .nil))) (.raise 7) .skip) (.ret (.bi .tuple (.cons (.var 1) .nil))))))))
def ir_parse_picture : Fd := .df 1 5 b_parse_picture
/-- is_number(word); slots word -/
def b_is_number : S :=
  (.seq (.ite (.cmp .eq (.bi .len (.cons (.var 0) .nil)) (.lit (.int (.ofNat 1)))) (.ret (.cmp .isIn (.var 0) (.lit (.str [48, 49, 50, 51, 52, 53, 54, 55, 56, 57])))) .skip) (.ret (.and (.cmp .eq (.bi .len (.cons (.var 0) .nil)) (.lit (.int (.ofNat 2)))) (.and (.cmp .eq (.sub (.var 0) (.lit (.int (.ofNat 0)))) (.lit (.str [45]))) (.cmp .isIn (.sub (.var 0) (.lit (.int (.ofNat 1)))) (.slc (.lit (.str [48, 49, 50, 51, 52, 53, 54, 55, 56, 57])) (.lit (.int (.ofNat 1))) (.lit .non)))))))
def ir_is_number : Fd := .df 1 1 b_is_number
def ir__law_draw : Fd := .draw
/-- _law_pick(script, town, some); slots script town some -/
def b__law_pick : S :=
  (.ret (.sub (.var 2) (.call 49 (.cons (.var 0) (.cons (.var 1) (.cons (.bi .len (.cons (.var 2) .nil)) .nil))))))
def ir__law_pick : Fd := .df 3 3 b__law_pick
/-- _law_some_grid(script, town); slots script town -/
def b__law_some_grid : S :=
  (.ret (.call 50 (.cons (.var 0) (.cons (.var 1) (.cons (.lst (.cons (.lit (.str [115, 113, 117, 97, 114, 101])) (.cons (.lit (.str [116, 114, 105, 97, 110, 103, 108, 101])) .nil))) .nil)))))
def ir__law_some_grid : Fd := .df 2 2 b__law_some_grid
/-- _law_some_set(script, town, grid); slots script town grid many again -/
def b__law_some_set : S :=
  (.seq (.set 3 (.sub (.dlit (.cons (.lit (.str [115, 113, 117, 97, 114, 101])) (.cons (.lit (.str [116, 114, 105, 97, 110, 103, 108, 101])) .nil)) (.cons (.lit (.int (.ofNat 4))) (.cons (.lit (.int (.ofNat 6))) .nil))) (.var 2))) (.ret (.bi .tuple (.cons (.bi .sortedSet (.cons (.lc [4] (.one 4) (.rng (.cons (.bin .add (.lit (.int (.ofNat 1))) (.call 49 (.cons (.var 0) (.cons (.var 1) (.cons (.lit (.int (.ofNat 3))) .nil))))) .nil)) (.lit (.bl true)) (.call 49 (.cons (.var 0) (.cons (.var 1) (.cons (.var 3) .nil))))) .nil)) .nil))))
def ir__law_some_set : Fd := .df 3 5 b__law_some_set
/-- _law_some_spot(script, town, most); slots script town most -/
def b__law_some_spot : S :=
  (.ret (.cons (.bin .sub (.call 49 (.cons (.var 0) (.cons (.var 1) (.cons (.bin .add (.bin .mul (.lit (.int (.ofNat 2))) (.var 2)) (.lit (.int (.ofNat 1)))) .nil)))) (.var 2)) (.cons (.bin .sub (.call 49 (.cons (.var 0) (.cons (.var 1) (.cons (.bin .add (.bin .mul (.lit (.int (.ofNat 2))) (.var 2)) (.lit (.int (.ofNat 1)))) .nil)))) (.var 2)) .nil)))
def ir__law_some_spot : Fd := .df 3 3 b__law_some_spot
/-- _law_seen_in(grid, mirror, spot); slots grid mirror spot again x y -/
def b__law_seen_in : S :=
  (.seq (.setT (.many [4, 5]) (.var 2)) (.seq (.ite (.cmp .eq (.var 0) (.lit (.str [115, 113, 117, 97, 114, 101]))) (.seq (.for (.one 3) (.rng (.cons (.bin .fdiv (.var 1) (.lit (.int (.ofNat 2)))) .nil)) (.par 4 5 (.cons (.var 5) (.cons (.bin .sub (.lit (.int (.ofNat 0))) (.var 4)) .nil)))) (.seq (.ite (.cmp .eq (.bin .mod (.var 1) (.lit (.int (.ofNat 2)))) (.lit (.int (.ofNat 0)))) (.par 4 5 (.cons (.var 4) (.cons (.bin .sub (.lit (.int (.ofNat 0))) (.var 5)) .nil))) (.par 4 5 (.cons (.var 5) (.cons (.var 4) .nil)))) (.seq (.for (.one 3) (.rng (.cons (.bin .fdiv (.var 1) (.lit (.int (.ofNat 2)))) .nil)) (.par 4 5 (.cons (.bin .sub (.lit (.int (.ofNat 0))) (.var 5)) (.cons (.var 4) .nil)))) (.ret (.cons (.var 4) (.cons (.var 5) .nil)))))) .skip) (.seq (.for (.one 3) (.rng (.cons (.bin .fdiv (.var 1) (.lit (.int (.ofNat 2)))) .nil)) (.par 4 5 (.cons (.bin .add (.var 4) (.var 5)) (.cons (.bin .sub (.lit (.int (.ofNat 0))) (.var 4)) .nil)))) (.seq (.ite (.cmp .eq (.bin .mod (.var 1) (.lit (.int (.ofNat 2)))) (.lit (.int (.ofNat 0)))) (.par 4 5 (.cons (.bin .add (.var 4) (.var 5)) (.cons (.bin .sub (.lit (.int (.ofNat 0))) (.var 5)) .nil))) (.par 4 5 (.cons (.var 5) (.cons (.var 4) .nil)))) (.seq (.for (.one 3) (.rng (.cons (.bin .fdiv (.var 1) (.lit (.int (.ofNat 2)))) .nil)) (.par 4 5 (.cons (.bin .sub (.lit (.int (.ofNat 0))) (.var 5)) (.cons (.bin .add (.var 4) (.var 5)) .nil)))) (.ret (.cons (.var 4) (.cons (.var 5) .nil))))))))
def ir__law_seen_in : Fd := .df 3 6 b__law_seen_in
/-- _law_all_seen(grid, mirrors, spot); slots grid mirrors spot found line count later here mirror after -/
def b__law_all_seen : S :=
  (.seq (.par3 3 4 5 (.cons (.dput1 true (.var 2) (.lit (.int (.ofNat 0)))) (.cons (.lstM (.cons (.var 2) .nil)) (.cons (.lit (.int (.ofNat 0))) .nil)))) (.seq (.whl (.cmp .ne (.var 4) (.lst .nil)) (.seq (.aug 5 .add (.lit (.int (.ofNat 1)))) (.seq (.set 6 (.lstM .nil)) (.seq (.for (.one 7) (.var 4) (.for (.one 8) (.var 1) (.seq (.set 9 (.call 54 (.cons (.var 0) (.cons (.var 8) (.cons (.var 7) .nil))))) (.ite (.cmp .notIn (.var 9) (.var 3)) (.seq (.put (.var 5) (.var 3) (.var 9)) (.expr (.meth .append (.var 6) (.cons (.var 9) .nil)))) .skip)))) (.set 4 (.var 6)))))) (.ret (.var 3))))
def ir__law_all_seen : Fd := .df 3 10 b__law_all_seen
/-- _law_common(grid, mirrors); slots grid mirrors many some one mirror -/
def b__law_common : S :=
  (.seq (.set 2 (.sub (.dlit (.cons (.lit (.str [115, 113, 117, 97, 114, 101])) (.cons (.lit (.str [116, 114, 105, 97, 110, 103, 108, 101])) .nil)) (.cons (.lit (.int (.ofNat 4))) (.cons (.lit (.int (.ofNat 6))) .nil))) (.var 0))) (.seq (.set 3 (.lc [4] (.one 4) (.rng (.cons (.lit (.int (.ofNat 1))) (.cons (.bin .add (.var 2) (.lit (.int (.ofNat 1)))) .nil))) (.cmp .eq (.bin .mod (.var 2) (.var 4)) (.lit (.int (.ofNat 0)))) (.var 4))) (.ret (.bi .maxL (.cons (.lc [4] (.one 4) (.var 3) (.cmp .eq (.lc [5] (.one 5) (.var 1) (.cmp .ne (.bin .mod (.bin .sub (.var 5) (.sub (.var 1) (.lit (.int (.ofNat 0))))) (.var 4)) (.lit (.int (.ofNat 0)))) (.lit (.int (.ofNat 1)))) (.lst .nil)) (.var 4)) .nil)))))
def ir__law_common : Fd := .df 2 6 b__law_common
/-- _law_same_number(got, due); slots got due -/
def b__law_same_number : S :=
  (.ret (.and (.bi (.isi .int) (.cons (.var 0) .nil)) (.and (.not (.bi (.isi .bool) (.cons (.var 0) .nil))) (.cmp .eq (.var 0) (.var 1)))))
def ir__law_same_number : Fd := .df 2 2 b__law_same_number
/-- _law_same_truth(got, due); slots got due -/
def b__law_same_truth : S :=
  (.ret (.and (.bi (.isi .bool) (.cons (.var 0) .nil)) (.cmp .eq (.var 0) (.var 1))))
def ir__law_same_truth : Fd := .df 2 2 b__law_same_truth
/-- _law_moved(script, town, viewer, grid, begun); slots script town viewer grid begun many again trail odd_one here mirror k -/
def b__law_moved : S :=
  (.seq (.par 7 8 (.cons (.bi .listM (.cons (.sub (.var 4) (.lit (.int (.ofNat 0)))) .nil)) (.cons (.sub (.var 4) (.lit (.int (.ofNat 1)))) .nil))) (.seq (.set 5 (.sub (.dlit (.cons (.lit (.str [115, 113, 117, 97, 114, 101])) (.cons (.lit (.str [116, 114, 105, 97, 110, 103, 108, 101])) .nil)) (.cons (.lit (.int (.ofNat 4))) (.cons (.lit (.int (.ofNat 6))) .nil))) (.var 3))) (.seq (.for (.one 6) (.rng (.cons (.call 49 (.cons (.var 0) (.cons (.var 1) (.cons (.lit (.int (.ofNat 6))) .nil)))) .nil)) (.seq (.set 9 (.sub (.var 7) (.neg (.lit (.int (.ofNat 1)))))) (.ite (.cmp .eq (.call 49 (.cons (.var 0) (.cons (.var 1) (.cons (.lit (.int (.ofNat 2))) .nil)))) (.lit (.int (.ofNat 0)))) (.seq (.set 10 (.call 49 (.cons (.var 0) (.cons (.var 1) (.cons (.var 5) .nil))))) (.seq (.expr (.meth .append (.var 7) (.cons (.call 54 (.cons (.var 3) (.cons (.var 10) (.cons (.var 9) .nil)))) .nil))) (.seq (.set 8 (.not (.var 8))) (.ite (.cmp .ne (.vmeth 61 (.var 2) (.cons (.var 10) .nil)) (.sub (.var 7) (.neg (.lit (.int (.ofNat 1)))))) (.ret (.lit .non)) .skip)))) (.seq (.set 11 (.bin .sub (.call 49 (.cons (.var 0) (.cons (.var 1) (.cons (.lit (.int (.ofNat 21))) .nil)))) (.lit (.int (.ofNat 10))))) (.seq (.expr (.meth .append (.var 7) (.cons (.call 54 (.cons (.var 3) (.cons (.bin .mod (.var 11) (.var 5)) (.cons (.call 54 (.cons (.var 3) (.cons (.lit (.int (.ofNat 0))) (.cons (.var 9) .nil)))) .nil)))) .nil))) (.ite (.cmp .ne (.vmeth 62 (.var 2) (.cons (.var 11) .nil)) (.sub (.var 7) (.neg (.lit (.int (.ofNat 1)))))) (.ret (.lit .non)) .skip)))))) (.ret (.cons (.var 7) (.cons (.var 8) .nil))))))
def ir__law_moved : Fd := .df 5 12 b__law_moved
/-- Viewer.__init__(self, grid, place); slots self grid place -/
def b_Viewer___init__ : S :=
  (.seq (.expr (.call 13 (.cons (.var 1) .nil))) (.seq (.expr (.call 14 (.cons (.var 2) .nil))) (.seq (.fset 0 (.var 0) (.var 1)) (.seq (.fset 1 (.var 0) (.lstM (.cons (.var 2) .nil))) (.seq (.fset 2 (.var 0) (.lstM .nil)) (.fset 3 (.var 0) (.lit (.int (.ofNat 1)))))))))
def ir_Viewer___init__ : Fd := .df 3 3 b_Viewer___init__
/-- Viewer.reflect(self, mirror); slots self mirror -/
def b_Viewer_reflect : S :=
  (.seq (.expr (.call 17 (.cons (.fld 0 (.var 0)) (.cons (.var 1) .nil)))) (.seq (.expr (.meth .append (.fld 1 (.var 0)) (.cons (.call 0 (.cons (.fld 0 (.var 0)) (.cons (.var 1) (.cons (.sub (.fld 1 (.var 0)) (.neg (.lit (.int (.ofNat 1))))) .nil)))) .nil))) (.seq (.expr (.meth .append (.fld 2 (.var 0)) (.cons (.lit (.int (.ofNat 1))) .nil))) (.ret (.sub (.fld 1 (.var 0)) (.neg (.lit (.int (.ofNat 1)))))))))
def ir_Viewer_reflect : Fd := .df 2 2 b_Viewer_reflect
/-- Viewer.turn(self, k); slots self k -/
def b_Viewer_turn : S :=
  (.seq (.expr (.call 19 (.cons (.var 1) (.cons (.neg (.lit (.int (.ofNat 99)))) (.cons (.lit (.int (.ofNat 99))) .nil))))) (.seq (.expr (.meth .append (.fld 1 (.var 0)) (.cons (.call 18 (.cons (.fld 0 (.var 0)) (.cons (.var 1) (.cons (.sub (.fld 1 (.var 0)) (.neg (.lit (.int (.ofNat 1))))) .nil)))) .nil))) (.seq (.expr (.meth .append (.fld 2 (.var 0)) (.cons (.lit (.int (.ofNat 0))) .nil))) (.ret (.sub (.fld 1 (.var 0)) (.neg (.lit (.int (.ofNat 1)))))))))
def ir_Viewer_turn : Fd := .df 2 2 b_Viewer_turn
/-- Viewer.place(self); slots self -/
def b_Viewer_place : S :=
  (.ret (.sub (.fld 1 (.var 0)) (.neg (.lit (.int (.ofNat 1))))))
def ir_Viewer_place : Fd := .df 1 1 b_Viewer_place
/-- Viewer.path(self); slots self -/
def b_Viewer_path : S :=
  (.ret (.bi .listM (.cons (.fld 1 (.var 0)) .nil)))
def ir_Viewer_path : Fd := .df 1 1 b_Viewer_path
/-- Viewer.is_mirrored(self); slots self -/
def b_Viewer_is_mirrored : S :=
  (.ret (.cmp .eq (.bin .mod (.bi .sum (.cons (.fld 2 (.var 0)) .nil)) (.lit (.int (.ofNat 2)))) (.lit (.int (.ofNat 1)))))
def ir_Viewer_is_mirrored : Fd := .df 1 1 b_Viewer_is_mirrored
/-- Viewer.undo(self); slots self -/
def b_Viewer_undo : S :=
  (.seq (.ite (.cmp .eq (.bi .len (.cons (.fld 1 (.var 0)) .nil)) (.fld 3 (.var 0))) (.raise 6) .skip) (.seq (.fset 1 (.var 0) (.slc (.fld 1 (.var 0)) (.lit .non) (.neg (.lit (.int (.ofNat 1)))))) (.seq (.fset 2 (.var 0) (.slc (.fld 2 (.var 0)) (.lit .non) (.neg (.lit (.int (.ofNat 1)))))) (.ret (.sub (.fld 1 (.var 0)) (.neg (.lit (.int (.ofNat 1)))))))))
def ir_Viewer_undo : Fd := .df 1 1 b_Viewer_undo
/-- Viewer.duplicate(self); slots self other -/
def b_Viewer_duplicate : S :=
  (.seq (.set 1 (.mk 60 (.cons (.fld 0 (.var 0)) (.cons (.sub (.fld 1 (.var 0)) (.lit (.int (.ofNat 0)))) .nil)))) (.seq (.fset 1 (.var 1) (.bi .listM (.cons (.fld 1 (.var 0)) .nil))) (.seq (.fset 2 (.var 1) (.bi .listM (.cons (.fld 2 (.var 0)) .nil))) (.seq (.fset 3 (.var 1) (.bi .len (.cons (.fld 1 (.var 0)) .nil))) (.ret (.var 1))))))
def ir_Viewer_duplicate : Fd := .df 1 2 b_Viewer_duplicate
/-- Viewer.__eq__(self, other); slots self other -/
def b_Viewer___eq__ : S :=
  (.ret (.and (.isV (.var 1)) (.and (.cmp .eq (.fld 0 (.var 0)) (.fld 0 (.var 1))) (.cmp .eq (.fld 1 (.var 0)) (.fld 1 (.var 1))))))
def ir_Viewer___eq__ : Fd := .df 2 2 b_Viewer___eq__
/-- Viewer.__len__(self); slots self -/
def b_Viewer___len__ : S :=
  (.ret (.bi .len (.cons (.fld 2 (.var 0)) .nil)))
def ir_Viewer___len__ : Fd := .df 1 1 b_Viewer___len__
/-- Viewer.__str__(self); slots self -/
def b_Viewer___str__ : S :=
  (.ret (.bi .strI (.cons (.call 45 (.cons (.sub (.fld 1 (.var 0)) (.neg (.lit (.int (.ofNat 1))))) .nil)) .nil)))
def ir_Viewer___str__ : Fd := .df 1 1 b_Viewer___str__
end L


end

namespace L
open G
/-- _law_ask(what, a, b, x); slots what a b x e -/
def b__law_ask : S :=
  (.try 4 (.ret (.callv (.sub (.lst (.cons (.lit (.fn 43)) (.cons (.lit (.fn 44)) .nil))) (.var 0)) (.cons (.var 1) (.cons (.var 2) (.cons (.var 3) .nil))))))
def ir__law_ask : Fd := .df 4 5 b__law_ask
/-- _law_list(a, b, x, low, high); slots a b x low high e -/
def b__law_list : S :=
  (.try 5 (.ret (.call 42 (.cons (.var 0) (.cons (.var 1) (.cons (.var 2) (.cons (.var 3) (.cons (.var 4) .nil))))))))
def ir__law_list : Fd := .df 5 6 b__law_list
/-- _law_refused(a, b, x, low, high); slots a b x low high off what -/
def b__law_refused : S :=
  (.seq (.for (.one 5) (.lst (.cons (.lit .non) (.cons (.lit (.int (.ofNat 100))) (.cons (.bin .sub (.lit (.int (.ofNat 0))) (.lit (.int (.ofNat 100)))) (.cons (.lit (.str [49])) (.cons (.lit (.bl true)) (.cons (.cons (.lit (.int (.ofNat 1))) .nil) .nil))))))) (.seq (.ite (.cmp .ne (.lc [6] (.one 6) (.cons (.lit (.int (.ofNat 0))) (.cons (.lit (.int (.ofNat 1))) .nil)) (.lit (.bl true)) (.call 71 (.cons (.var 6) (.cons (.var 5) (.cons (.lit .non) (.cons (.lit .non) .nil)))))) (.bin .mul (.lst (.cons (.cons (.lit (.str [114, 97, 105, 115, 101, 100])) (.cons (.lit (.int (.ofNat 4))) .nil)) .nil)) (.lit (.int (.ofNat 2))))) (.ret (.lit (.bl false))) .skip) (.seq (.ite (.cmp .ne (.lc [6] (.one 6) (.cons (.lit (.int (.ofNat 0))) (.cons (.lit (.int (.ofNat 1))) .nil)) (.lit (.bl true)) (.call 71 (.cons (.var 6) (.cons (.var 0) (.cons (.var 5) (.cons (.var 2) .nil)))))) (.bin .mul (.lst (.cons (.cons (.lit (.str [114, 97, 105, 115, 101, 100])) (.cons (.lit (.int (.ofNat 4))) .nil)) .nil)) (.lit (.int (.ofNat 2))))) (.ret (.lit (.bl false))) .skip) (.seq (.ite (.cmp .ne (.lc [6] (.one 6) (.cons (.lit (.int (.ofNat 0))) (.cons (.lit (.int (.ofNat 1))) .nil)) (.lit (.bl true)) (.call 71 (.cons (.var 6) (.cons (.var 0) (.cons (.var 1) (.cons (.var 5) .nil)))))) (.bin .mul (.lst (.cons (.cons (.lit (.str [114, 97, 105, 115, 101, 100])) (.cons (.lit (.int (.ofNat 4))) .nil)) .nil)) (.lit (.int (.ofNat 2))))) (.ret (.lit (.bl false))) .skip) (.ite (.cmp .ne (.lst (.cons (.call 72 (.cons (.var 0) (.cons (.var 1) (.cons (.var 2) (.cons (.var 5) (.cons (.var 4) .nil)))))) (.cons (.call 72 (.cons (.var 0) (.cons (.var 1) (.cons (.var 2) (.cons (.var 3) (.cons (.var 5) .nil)))))) .nil))) (.bin .mul (.lst (.cons (.cons (.lit (.str [114, 97, 105, 115, 101, 100])) (.cons (.lit (.int (.ofNat 4))) .nil)) .nil)) (.lit (.int (.ofNat 2))))) (.ret (.lit (.bl false))) .skip))))) (.ret (.cmp .eq (.lst (.cons (.call 71 (.cons (.lit (.int (.ofNat 0))) (.cons (.var 1) (.cons (.var 0) (.cons (.var 2) .nil))))) (.cons (.call 71 (.cons (.lit (.int (.ofNat 1))) (.cons (.var 0) (.cons (.var 0) (.cons (.var 2) .nil))))) (.cons (.call 72 (.cons (.var 1) (.cons (.var 0) (.cons (.var 2) (.cons (.lit (.int (.ofNat 0))) (.cons (.lit (.int (.ofNat 1))) .nil)))))) .nil)))) (.bin .mul (.lst (.cons (.cons (.lit (.str [114, 97, 105, 115, 101, 100])) (.cons (.lit (.int (.ofNat 4))) .nil)) .nil)) (.lit (.int (.ofNat 3)))))))
def ir__law_refused : Fd := .df 5 7 b__law_refused
/-- law(script); slots script town a b x low high inner passed between_them found line count later here after one -/
def b_law : S :=
  (.seq (.set 1 (.lstM .nil)) (.seq (.set 2 (.bin .sub (.call 49 (.cons (.var 0) (.cons (.var 1) (.cons (.lit (.int (.ofNat 21))) .nil)))) (.lit (.int (.ofNat 10))))) (.seq (.set 3 (.bin .add (.bin .add (.var 2) (.lit (.int (.ofNat 1)))) (.call 49 (.cons (.var 0) (.cons (.var 1) (.cons (.lit (.int (.ofNat 8))) .nil)))))) (.seq (.set 4 (.bin .sub (.call 49 (.cons (.var 0) (.cons (.var 1) (.cons (.lit (.int (.ofNat 61))) .nil)))) (.lit (.int (.ofNat 30))))) (.seq (.par3 10 11 12 (.cons (.dput1 false (.var 4) (.lit (.int (.ofNat 0)))) (.cons (.lstM (.cons (.var 4) .nil)) (.cons (.lit (.int (.ofNat 0))) .nil)))) (.seq (.whl (.cmp .ne (.var 11) (.lst .nil)) (.seq (.aug 12 .add (.lit (.int (.ofNat 1)))) (.seq (.set 13 (.lstM .nil)) (.seq (.for (.one 14) (.var 11) (.for (.one 15) (.cons (.bin .sub (.bin .mul (.lit (.int (.ofNat 2))) (.var 2)) (.var 14)) (.cons (.bin .sub (.bin .mul (.lit (.int (.ofNat 2))) (.var 3)) (.var 14)) .nil)) (.ite (.and (.cmp .notIn (.var 15) (.var 10)) (.chain .le .le (.bin .sub (.lit (.int (.ofNat 0))) (.lit (.int (.ofNat 99)))) (.var 15) (.lit (.int (.ofNat 99))))) (.seq (.put (.var 12) (.var 10) (.var 15)) (.expr (.meth .append (.var 13) (.cons (.var 15) .nil)))) .skip))) (.set 11 (.var 13)))))) (.seq (.frz 10) (.seq (.set 5 (.bin .sub (.call 49 (.cons (.var 0) (.cons (.var 1) (.cons (.lit (.int (.ofNat 61))) .nil)))) (.lit (.int (.ofNat 40))))) (.seq (.set 6 (.bin .add (.var 5) (.call 49 (.cons (.var 0) (.cons (.var 1) (.cons (.lit (.int (.ofNat 30))) .nil)))))) (.seq (.ite (.cmp .ne (.call 72 (.cons (.var 2) (.cons (.var 3) (.cons (.var 4) (.cons (.var 5) (.cons (.var 6) .nil)))))) (.bi .sorted (.cons (.lc [16] (.one 16) (.keysI (.var 10)) (.chain .le .le (.var 5) (.var 16) (.var 6)) (.var 16)) .nil))) (.ret (.lit (.bl false))) .skip) (.seq (.set 7 (.lc [16] (.one 16) (.keysI (.var 10)) (.chain .le .le (.var 2) (.var 16) (.var 3)) (.var 16))) (.seq (.ite (.or (.cmp .ne (.bi .len (.cons (.var 7) .nil)) (.lit (.int (.ofNat 1)))) (.not (.call 57 (.cons (.call 71 (.cons (.lit (.int (.ofNat 0))) (.cons (.var 2) (.cons (.var 3) (.cons (.var 4) .nil))))) (.cons (.sub (.var 7) (.lit (.int (.ofNat 0)))) .nil))))) (.ret (.lit (.bl false))) .skip) (.seq (.ite (.not (.call 57 (.cons (.call 71 (.cons (.lit (.int (.ofNat 1))) (.cons (.var 2) (.cons (.var 3) (.cons (.var 4) .nil))))) (.cons (.sub (.var 10) (.sub (.var 7) (.lit (.int (.ofNat 0))))) .nil)))) (.ret (.lit (.bl false))) .skip) (.seq (.set 8 (.lc [16] (.one 16) (.rng (.cons (.bin .sub (.lit (.int (.ofNat 0))) (.lit (.int (.ofNat 60)))) (.cons (.lit (.int (.ofNat 60))) .nil))) (.cmp .eq (.bin .mod (.bin .sub (.var 16) (.var 2)) (.bin .sub (.var 3) (.var 2))) (.lit (.int (.ofNat 0)))) (.var 16))) (.seq (.set 9 (.lc [16] (.one 16) (.var 8) (.chain .lt .lt (.bi .min2 (.cons (.bin .mul (.lit (.int (.ofNat 2))) (.var 4)) (.cons (.bin .add (.var 2) (.var 3)) .nil))) (.bin .mul (.lit (.int (.ofNat 2))) (.var 16)) (.bi .max2 (.cons (.bin .mul (.lit (.int (.ofNat 2))) (.var 4)) (.cons (.bin .add (.var 2) (.var 3)) .nil)))) (.var 16))) (.seq (.ite (.cmp .ne (.bi .len (.cons (.var 9) .nil)) (.sub (.var 10) (.sub (.var 7) (.lit (.int (.ofNat 0)))))) (.ret (.lit (.bl false))) .skip) (.ret (.call 73 (.cons (.var 2) (.cons (.var 3) (.cons (.var 4) (.cons (.var 5) (.cons (.var 6) .nil)))))))))))))))))))))))
def ir_law : Fd := .df 1 17 b_law
def tab : List Fd := [.gap, .gap, .gap, .gap, .gap, .gap, .gap, .gap, .gap, .gap, .gap, ir_is_integer, .gap, .gap, .gap, .gap, .gap, .gap, .gap, ir_check_number, .gap, .gap, .gap, .gap, .gap, .gap, .gap, .gap, .gap, .gap, .gap, .gap, .gap, .gap, .gap, .gap, .gap, .gap, .gap, .gap, .gap, ir_check_line, ir_line_images, ir_inner_image, ir_line_depth, .gap, .gap, .gap, .gap, ir__law_draw, .gap, .gap, .gap, .gap, .gap, .gap, .gap, ir__law_same_number, .gap, .gap, .gap, .gap, .gap, .gap, .gap, .gap, .gap, .gap, .gap, .gap, .gap, ir__law_ask, ir__law_list, ir__law_refused, ir_law]
end L

namespace L
open PySem PySem.Spec PyProof.Rows L2 G L2H HotX
def topS (i : Nat) : Stmt := PySem.Challenge.pw_gridmirrors_k07_whole_parallel.main.body.getD i (.Pass ⟨0, 0, 0, 0⟩)
/-- what the top has left -/
structure Tx (K : PySem.W.Frag) (mg : Str → Option Value) (W : Wd) : Prop where
  ValueError : mg "ValueError" = none
  bool : mg "bool" = none
  int : mg "int" = none
  isinstance : mg "isinstance" = none
  len : mg "len" = none
  max : mg "max" = none
  min : mg "min" = none
  range : mg "range" = none
  sorted : mg "sorted" = none
  f__law_ask : mg "_law_ask" = some (.ref (W.fa 71))
  f__law_draw : mg "_law_draw" = some (.ref (W.fa 49))
  f__law_list : mg "_law_list" = some (.ref (W.fa 72))
  f__law_refused : mg "_law_refused" = some (.ref (W.fa 73))
  f__law_same_number : mg "_law_same_number" = some (.ref (W.fa 57))
  f_check_line : mg "check_line" = some (.ref (W.fa 41))
  f_check_number : mg "check_number" = some (.ref (W.fa 19))
  f_inner_image : mg "inner_image" = some (.ref (W.fa 43))
  f_is_integer : mg "is_integer" = some (.ref (W.fa 11))
  f_line_depth : mg "line_depth" = some (.ref (W.fa 44))
  f_line_images : mg "line_images" = some (.ref (W.fa 42))
  x_0 : Exc K mg "InvalidGrid" (W.xa 0)
  x_1 : Exc K mg "InvalidMirror" (W.xa 1)
  x_2 : Exc K mg "InvalidSet" (W.xa 2)
  x_3 : Exc K mg "InvalidPlace" (W.xa 3)
  x_4 : Exc K mg "InvalidNumber" (W.xa 4)
  x_5 : Exc K mg "InvalidPicture" (W.xa 5)
  x_6 : Exc K mg "NothingToUndo" (W.xa 6)
  x_7 : Exc K mg "ParseError" (W.xa 7)
section
variable {P : Program} {w : World} {K : PySem.W.Frag} {mg : Str → Option Value} {base : Heap} {W : Wd} {dr : Nat → Int → Int}
theorem sc_is_integer : FnScope ["value", "low", "high"] ["value", "low", "high"] (defScope (topS 11)) := ⟨rfl, rfl, rfl, by decide +kernel, rfl, by decide +kernel, by decide +kernel⟩
theorem ok_is_integer {k d : Nat} {fd : FuncData} (F : Fun K "is_integer" "is_integer" (topS 11) (W.fa 11) fd) (t : Tx K mg W) (hP : W.P = P) (hw : W.w = w) (T : Tabs P w K mg base W (run tab dr d) k) : FnOk P w K mg base (L2N.CX P w) (k + 2) (W.fa 11) fd ["value", "low", "high"] (spG W (run tab dr (d + 1)) 11 3) :=
  fn_ok (k := k + 1) (b := b_is_integer) F sc_is_integer rfl rfl rfl fun cdv A outer s H E hr1 => have hr := hr1.mono (Nat.le_succ k); have nd := sc_is_integer.nd; have tk := takes_fn (P := P) (w := w) (K := K) (mg := mg) (base := base) (N := ["value", "low", "high"]) (x := "is_integer") (sc := defScope (topS 11)) (f := W.fa 11) (cdv := cdv) (A := A) (outer := outer) (s := s) (H := H) (E := E); have pw := passes_fn (P := P) (w := w) (K := K) (mg := mg) (base := base) (N := ["value", "low", "high"]) (x := "is_integer") (sc := defScope (topS 11)) (f := W.fa 11) (cdv := cdv) (A := A) (outer := outer) (s := s) (H := H) (E := E);
    (s_one (s_ret (e_and (e_isi (fun z => nomatch z) rfl t.isinstance (xv 0) rfl t.int (by decide +kernel)) (e_and (e_not (e_isi (fun z => nomatch z) rfl t.isinstance (xv 0) rfl t.bool (by decide +kernel))) (e_one (e_chain o_le o_le (xv 1) (xv 0) (xv 2)))))))
theorem sc_check_number : FnScope ["k", "low", "high"] ["k", "low", "high"] (defScope (topS 12)) := ⟨rfl, rfl, rfl, by decide +kernel, rfl, by decide +kernel, by decide +kernel⟩
theorem ok_check_number {k d : Nat} {fd : FuncData} (F : Fun K "check_number" "check_number" (topS 12) (W.fa 19) fd) (t : Tx K mg W) (hP : W.P = P) (hw : W.w = w) (T : Tabs P w K mg base W (run tab dr d) k) : FnOk P w K mg base (L2N.CX P w) (k + 2) (W.fa 19) fd ["k", "low", "high"] (spG W (run tab dr (d + 1)) 19 3) :=
  fn_ok (k := k + 1) (b := b_check_number) F sc_check_number rfl rfl rfl fun cdv A outer s H E hr1 => have hr := hr1.mono (Nat.le_succ k); have nd := sc_check_number.nd; have tk := takes_fn (P := P) (w := w) (K := K) (mg := mg) (base := base) (N := ["k", "low", "high"]) (x := "check_number") (sc := defScope (topS 12)) (f := W.fa 19) (cdv := cdv) (A := A) (outer := outer) (s := s) (H := H) (E := E); have pw := passes_fn (P := P) (w := w) (K := K) (mg := mg) (base := base) (N := ["k", "low", "high"]) (x := "check_number") (sc := defScope (topS 12)) (f := W.fa 19) (cdv := cdv) (A := A) (outer := outer) (s := s) (H := H) (E := E);
    (s_one (s_if (t_not (t_val (e_call T hr tk rfl t.f_is_integer (a_cons (xv 0) (a_cons (xv 1) (a_cons (xv 2) a_nil)))))) (s_one (s_raise rfl tk t.x_4 rfl)) s_nil))
theorem sc_check_line : FnScope ["a", "b", "some", "one"] ["a", "b", "some"] (defScope (topS 14)) := ⟨rfl, rfl, rfl, by decide +kernel, rfl, by decide +kernel, by decide +kernel⟩
theorem ok_check_line {k d : Nat} {fd : FuncData} (F : Fun K "check_line" "check_line" (topS 14) (W.fa 41) fd) (t : Tx K mg W) (hP : W.P = P) (hw : W.w = w) (T : Tabs P w K mg base W (run tab dr d) k) : FnOk P w K mg base (L2N.CX P w) (k + 2) (W.fa 41) fd ["a", "b", "some"] (spG W (run tab dr (d + 1)) 41 3) :=
  fn_ok (k := k + 1) (b := b_check_line) F sc_check_line rfl rfl rfl fun cdv A outer s H E hr1 => have hr := hr1.mono (Nat.le_succ k); have nd := sc_check_line.nd; have tk := takes_fn (P := P) (w := w) (K := K) (mg := mg) (base := base) (N := ["a", "b", "some", "one"]) (x := "check_line") (sc := defScope (topS 14)) (f := W.fa 41) (cdv := cdv) (A := A) (outer := outer) (s := s) (H := H) (E := E); have pw := passes_fn (P := P) (w := w) (K := K) (mg := mg) (base := base) (N := ["a", "b", "some", "one"]) (x := "check_line") (sc := defScope (topS 14)) (f := W.fa 41) (cdv := cdv) (A := A) (outer := outer) (s := s) (H := H) (E := E);
    (s_cons (s_for pw rfl (i_seq (e_bin o_add (e_tup (a_cons (xv 0) (a_cons (xv 1) a_nil))) (xv 2))) (xg 3 nd) (s_one (s_expr (e_call T hr tk rfl t.f_check_number (a_cons (xv 3) (a_cons (e_neg e_int) (a_cons e_int a_nil)))))))
    (s_one (s_if (t_cmp o_ge (xv 0) (xv 1) (nomark _)) (s_one (s_raise rfl tk t.x_4 rfl)) s_nil)))
theorem sc_line_images : FnScope ["a", "b", "x", "low", "high", "apart", "one"] ["a", "b", "x", "low", "high"] (defScope (topS 15)) := ⟨rfl, rfl, rfl, by decide +kernel, rfl, by decide +kernel, by decide +kernel⟩
theorem ok_line_images {k d : Nat} {fd : FuncData} (F : Fun K "line_images" "line_images" (topS 15) (W.fa 42) fd) (t : Tx K mg W) (hP : W.P = P) (hw : W.w = w) (T : Tabs P w K mg base W (run tab dr d) k) : FnOk P w K mg base (L2N.CX P w) (k + 2) (W.fa 42) fd ["a", "b", "x", "low", "high"] (spG W (run tab dr (d + 1)) 42 5) :=
  fn_ok (k := k + 1) (b := b_line_images) F sc_line_images rfl rfl rfl fun cdv A outer s H E hr1 => have hr := hr1.mono (Nat.le_succ k); have nd := sc_line_images.nd; have tk := takes_fn (P := P) (w := w) (K := K) (mg := mg) (base := base) (N := ["a", "b", "x", "low", "high", "apart", "one"]) (x := "line_images") (sc := defScope (topS 15)) (f := W.fa 42) (cdv := cdv) (A := A) (outer := outer) (s := s) (H := H) (E := E); have pw := passes_fn (P := P) (w := w) (K := K) (mg := mg) (base := base) (N := ["a", "b", "x", "low", "high", "apart", "one"]) (x := "line_images") (sc := defScope (topS 15)) (f := W.fa 42) (cdv := cdv) (A := A) (outer := outer) (s := s) (H := H) (E := E);
    (s_cons (s_expr (e_call T hr tk rfl t.f_check_line (a_cons (xv 0) (a_cons (xv 1) (a_cons (e_tup (a_cons (xv 2) (a_cons (xv 3) (a_cons (xv 4) a_nil)))) a_nil)))))
    (s_cons (xset 5 nd (e_bin o_mul e_int (e_bin o_sub (xv 1) (xv 0))))
    (s_one (s_ret (e_lc rfl nd (i_rng2 rfl t.range (a_cons (xv 3) (a_cons (e_bin o_add (xv 4) e_int) a_nil))) (blkOk_by (show blkC ["a", "b", "x", "low", "high", "apart", "one"] (defScope (topS 15)) _ [("one", 6)] = true by decide +kernel)) rfl (fun _ _ _ _ _ => (xg 6 nd)) (fun _ _ _ _ _ => (t_one (t_w (w_or (t_cmp (o_eq hr.units) (e_bin o_mod (e_bin o_sub (xv 6) (xv 2)) (xv 5)) e_int (nomark _)) (w_or1 (t_cmp (o_eq hr.units) (e_bin o_mod (e_bin o_sub (e_bin o_add (xv 6) (xv 2)) (e_bin o_mul e_int (xv 0))) (xv 5)) e_int (nomark _))))))) (fun _ _ _ _ _ => (xv 6)))))))
theorem sc_inner_image : FnScope ["a", "b", "x", "rest"] ["a", "b", "x"] (defScope (topS 16)) := ⟨rfl, rfl, rfl, by decide +kernel, rfl, by decide +kernel, by decide +kernel⟩
theorem ok_inner_image {k d : Nat} {fd : FuncData} (F : Fun K "inner_image" "inner_image" (topS 16) (W.fa 43) fd) (t : Tx K mg W) (hP : W.P = P) (hw : W.w = w) (T : Tabs P w K mg base W (run tab dr d) k) : FnOk P w K mg base (L2N.CX P w) (k + 2) (W.fa 43) fd ["a", "b", "x"] (spG W (run tab dr (d + 1)) 43 3) :=
  fn_ok (k := k + 1) (b := b_inner_image) F sc_inner_image rfl rfl rfl fun cdv A outer s H E hr1 => have hr := hr1.mono (Nat.le_succ k); have nd := sc_inner_image.nd; have tk := takes_fn (P := P) (w := w) (K := K) (mg := mg) (base := base) (N := ["a", "b", "x", "rest"]) (x := "inner_image") (sc := defScope (topS 16)) (f := W.fa 43) (cdv := cdv) (A := A) (outer := outer) (s := s) (H := H) (E := E); have pw := passes_fn (P := P) (w := w) (K := K) (mg := mg) (base := base) (N := ["a", "b", "x", "rest"]) (x := "inner_image") (sc := defScope (topS 16)) (f := W.fa 43) (cdv := cdv) (A := A) (outer := outer) (s := s) (H := H) (E := E);
    (s_cons (s_expr (e_call T hr tk rfl t.f_check_line (a_cons (xv 0) (a_cons (xv 1) (a_cons (e_tup (a_cons (xv 2) a_nil)) a_nil)))))
    (s_cons (xset 3 nd (e_bin o_mod (e_bin o_sub (xv 2) (xv 0)) (e_bin o_mul e_int (e_bin o_sub (xv 1) (xv 0)))))
    (s_one (s_ret (e_bin o_add (xv 0) (e_biB (b_min2 rfl) rfl t.min (by decide +kernel) (a_cons (xv 3) (a_cons (e_bin o_sub (e_bin o_mul e_int (e_bin o_sub (xv 1) (xv 0))) (xv 3)) a_nil))))))))
theorem sc_line_depth : FnScope ["a", "b", "x"] ["a", "b", "x"] (defScope (topS 17)) := ⟨rfl, rfl, rfl, by decide +kernel, rfl, by decide +kernel, by decide +kernel⟩
theorem ok_line_depth {k d : Nat} {fd : FuncData} (F : Fun K "line_depth" "line_depth" (topS 17) (W.fa 44) fd) (t : Tx K mg W) (hP : W.P = P) (hw : W.w = w) (T : Tabs P w K mg base W (run tab dr d) k) : FnOk P w K mg base (L2N.CX P w) (k + 2) (W.fa 44) fd ["a", "b", "x"] (spG W (run tab dr (d + 1)) 44 3) :=
  fn_ok (k := k + 1) (b := b_line_depth) F sc_line_depth rfl rfl rfl fun cdv A outer s H E hr1 => have hr := hr1.mono (Nat.le_succ k); have nd := sc_line_depth.nd; have tk := takes_fn (P := P) (w := w) (K := K) (mg := mg) (base := base) (N := ["a", "b", "x"]) (x := "line_depth") (sc := defScope (topS 17)) (f := W.fa 44) (cdv := cdv) (A := A) (outer := outer) (s := s) (H := H) (E := E); have pw := passes_fn (P := P) (w := w) (K := K) (mg := mg) (base := base) (N := ["a", "b", "x"]) (x := "line_depth") (sc := defScope (topS 17)) (f := W.fa 44) (cdv := cdv) (A := A) (outer := outer) (s := s) (H := H) (E := E);
    (s_cons (s_expr (e_call T hr tk rfl t.f_check_line (a_cons (xv 0) (a_cons (xv 1) (a_cons (e_tup (a_cons (xv 2) a_nil)) a_nil)))))
    (s_cons (s_if (t_cmp o_gt (xv 2) (xv 1) (nomark _)) (s_one (s_ret (e_bin o_fdiv (e_bin o_sub (e_bin o_sub (e_bin o_add (e_bin o_sub (xv 2) (xv 1)) (xv 1)) (xv 0)) e_int) (e_bin o_sub (xv 1) (xv 0))))) s_nil)
    (s_one (s_ret (e_ifx (t_cmp (o_lt hr.units0) (xv 2) (xv 0) (nomark _)) (e_bin o_fdiv (e_bin o_sub (e_bin o_sub (e_bin o_add (e_bin o_sub (xv 0) (xv 2)) (xv 1)) (xv 0)) e_int) (e_bin o_sub (xv 1) (xv 0))) e_int)))))
theorem sc__law_same_number : FnScope ["got", "due"] ["got", "due"] (defScope (topS 22)) := ⟨rfl, rfl, rfl, by decide +kernel, rfl, by decide +kernel, by decide +kernel⟩
theorem ok__law_same_number {k d : Nat} {fd : FuncData} (F : Fun K "_law_same_number" "_law_same_number" (topS 22) (W.fa 57) fd) (t : Tx K mg W) (hP : W.P = P) (hw : W.w = w) (T : Tabs P w K mg base W (run tab dr d) k) : FnOk P w K mg base (L2N.CX P w) (k + 2) (W.fa 57) fd ["got", "due"] (spG W (run tab dr (d + 1)) 57 2) :=
  fn_ok (k := k + 1) (b := b__law_same_number) F sc__law_same_number rfl rfl rfl fun cdv A outer s H E hr1 => have hr := hr1.mono (Nat.le_succ k); have nd := sc__law_same_number.nd; have tk := takes_fn (P := P) (w := w) (K := K) (mg := mg) (base := base) (N := ["got", "due"]) (x := "_law_same_number") (sc := defScope (topS 22)) (f := W.fa 57) (cdv := cdv) (A := A) (outer := outer) (s := s) (H := H) (E := E); have pw := passes_fn (P := P) (w := w) (K := K) (mg := mg) (base := base) (N := ["got", "due"]) (x := "_law_same_number") (sc := defScope (topS 22)) (f := W.fa 57) (cdv := cdv) (A := A) (outer := outer) (s := s) (H := H) (E := E);
    (s_one (s_ret (e_and (e_isi (fun z => nomatch z) rfl t.isinstance (xv 0) rfl t.int (by decide +kernel)) (e_and (e_not (e_isi (fun z => nomatch z) rfl t.isinstance (xv 0) rfl t.bool (by decide +kernel))) (e_one (e_cmp (o_eq hr.units) (xv 0) (xv 1) (nomark _)))))))
theorem sc__law_ask : FnScope ["what", "a", "b", "x", "e"] ["what", "a", "b", "x"] (defScope (topS 24)) := ⟨rfl, rfl, rfl, by decide +kernel, rfl, by decide +kernel, by decide +kernel⟩
theorem ok__law_ask {k d : Nat} {fd : FuncData} (F : Fun K "_law_ask" "_law_ask" (topS 24) (W.fa 71) fd) (t : Tx K mg W) (hP : W.P = P) (hw : W.w = w) (tw : TryOk P w K mg base W) (T : Tabs P w K mg base W (run tab dr d) k) : FnOk P w K mg base (L2N.CX P w) (k + 2) (W.fa 71) fd ["what", "a", "b", "x"] (spG W (run tab dr (d + 1)) 71 4) :=
  fn_ok (k := k + 1) (b := b__law_ask) F sc__law_ask rfl rfl rfl fun cdv A outer s H E hr1 => have hr := hr1.mono (Nat.le_succ k); have nd := sc__law_ask.nd; have tk := takes_fn (P := P) (w := w) (K := K) (mg := mg) (base := base) (N := ["what", "a", "b", "x", "e"]) (x := "_law_ask") (sc := defScope (topS 24)) (f := W.fa 71) (cdv := cdv) (A := A) (outer := outer) (s := s) (H := H) (E := E); have pw := passes_fn (P := P) (w := w) (K := K) (mg := mg) (base := base) (N := ["what", "a", "b", "x", "e"]) (x := "_law_ask") (sc := defScope (topS 24)) (f := W.fa 71) (cdv := cdv) (A := A) (outer := outer) (s := s) (H := H) (E := E);
    (s_one (x_try 4 tw nd hr1 tk (fun Wx' pn xe tk pw => (s_one (s_ret (e_callv T hr tk (e_sub (hu1 hr) (e_lst (a_cons (e_fn rfl t.f_inner_image) (a_cons (e_fn rfl t.f_line_depth) a_nil))) (xv 0) (fun _ _ => rfl)) (a_cons (xv 1) (a_cons (xv 2) (a_cons (xv 3) a_nil))))))) (fun _ _ _ => pv 4)))
theorem sc__law_list : FnScope ["a", "b", "x", "low", "high", "e"] ["a", "b", "x", "low", "high"] (defScope (topS 25)) := ⟨rfl, rfl, rfl, by decide +kernel, rfl, by decide +kernel, by decide +kernel⟩
theorem ok__law_list {k d : Nat} {fd : FuncData} (F : Fun K "_law_list" "_law_list" (topS 25) (W.fa 72) fd) (t : Tx K mg W) (hP : W.P = P) (hw : W.w = w) (tw : TryOk P w K mg base W) (T : Tabs P w K mg base W (run tab dr d) k) : FnOk P w K mg base (L2N.CX P w) (k + 2) (W.fa 72) fd ["a", "b", "x", "low", "high"] (spG W (run tab dr (d + 1)) 72 5) :=
  fn_ok (k := k + 1) (b := b__law_list) F sc__law_list rfl rfl rfl fun cdv A outer s H E hr1 => have hr := hr1.mono (Nat.le_succ k); have nd := sc__law_list.nd; have tk := takes_fn (P := P) (w := w) (K := K) (mg := mg) (base := base) (N := ["a", "b", "x", "low", "high", "e"]) (x := "_law_list") (sc := defScope (topS 25)) (f := W.fa 72) (cdv := cdv) (A := A) (outer := outer) (s := s) (H := H) (E := E); have pw := passes_fn (P := P) (w := w) (K := K) (mg := mg) (base := base) (N := ["a", "b", "x", "low", "high", "e"]) (x := "_law_list") (sc := defScope (topS 25)) (f := W.fa 72) (cdv := cdv) (A := A) (outer := outer) (s := s) (H := H) (E := E);
    (s_one (x_try 5 tw nd hr1 tk (fun Wx' pn xe tk pw => (s_one (s_ret (e_call T hr tk rfl t.f_line_images (a_cons (xv 0) (a_cons (xv 1) (a_cons (xv 2) (a_cons (xv 3) (a_cons (xv 4) a_nil))))))))) (fun _ _ _ => pv 5)))
theorem sc__law_refused : FnScope ["a", "b", "x", "low", "high", "off", "what"] ["a", "b", "x", "low", "high"] (defScope (topS 26)) := ⟨rfl, rfl, rfl, by decide +kernel, rfl, by decide +kernel, by decide +kernel⟩
theorem ok__law_refused {k d : Nat} {fd : FuncData} (F : Fun K "_law_refused" "_law_refused" (topS 26) (W.fa 73) fd) (t : Tx K mg W) (hP : W.P = P) (hw : W.w = w) (T : Tabs P w K mg base W (run tab dr d) k) : FnOk P w K mg base (L2N.CX P w) (k + 2) (W.fa 73) fd ["a", "b", "x", "low", "high"] (spG W (run tab dr (d + 1)) 73 5) :=
  fn_ok (k := k + 1) (b := b__law_refused) F sc__law_refused rfl rfl rfl fun cdv A outer s H E hr1 => have hr := hr1.mono (Nat.le_succ k); have nd := sc__law_refused.nd; have tk := takes_fn (P := P) (w := w) (K := K) (mg := mg) (base := base) (N := ["a", "b", "x", "low", "high", "off", "what"]) (x := "_law_refused") (sc := defScope (topS 26)) (f := W.fa 73) (cdv := cdv) (A := A) (outer := outer) (s := s) (H := H) (E := E); have pw := passes_fn (P := P) (w := w) (K := K) (mg := mg) (base := base) (N := ["a", "b", "x", "low", "high", "off", "what"]) (x := "_law_refused") (sc := defScope (topS 26)) (f := W.fa 73) (cdv := cdv) (A := A) (outer := outer) (s := s) (H := H) (E := E);
    (s_cons (s_for pw rfl (i_seq (e_lst (a_cons e_non (a_cons e_int (a_cons (e_bin o_sub e_int e_int) (a_cons (e_str (by decide +kernel) ⟨by decide, by decide⟩) (a_cons e_bl (a_cons (e_tup (a_cons e_int a_nil)) a_nil)))))))) (xg 5 nd) (s_cons (s_if (t_cmp (o_ne hr.units) (e_lc rfl nd (i_seq (e_tup (a_cons e_int (a_cons e_int a_nil)))) (blkOk_by (show blkC ["a", "b", "x", "low", "high", "off", "what"] (defScope (topS 26)) _ [("what", 6)] = true by decide +kernel)) rfl (fun _ _ _ _ _ => (xg 6 nd)) (fun _ _ _ _ _ => t_nil) (fun _ _ _ _ _ => (e_call T hr takesN0 rfl t.f__law_ask (a_cons (xv 6) (a_cons (xv 5) (a_cons e_non (a_cons e_non a_nil))))))) (e_bin o_mul (e_lst (a_cons (e_tup (a_cons (e_str (by decide +kernel) ⟨by decide, by decide⟩) (a_cons e_int a_nil))) a_nil)) e_int) (nomark _)) (s_one (s_ret e_bl)) s_nil)
    (s_cons (s_if (t_cmp (o_ne hr.units) (e_lc rfl nd (i_seq (e_tup (a_cons e_int (a_cons e_int a_nil)))) (blkOk_by (show blkC ["a", "b", "x", "low", "high", "off", "what"] (defScope (topS 26)) _ [("what", 6)] = true by decide +kernel)) rfl (fun _ _ _ _ _ => (xg 6 nd)) (fun _ _ _ _ _ => t_nil) (fun _ _ _ _ _ => (e_call T hr takesN0 rfl t.f__law_ask (a_cons (xv 6) (a_cons (xv 0) (a_cons (xv 5) (a_cons (xv 2) a_nil))))))) (e_bin o_mul (e_lst (a_cons (e_tup (a_cons (e_str (by decide +kernel) ⟨by decide, by decide⟩) (a_cons e_int a_nil))) a_nil)) e_int) (nomark _)) (s_one (s_ret e_bl)) s_nil)
    (s_cons (s_if (t_cmp (o_ne hr.units) (e_lc rfl nd (i_seq (e_tup (a_cons e_int (a_cons e_int a_nil)))) (blkOk_by (show blkC ["a", "b", "x", "low", "high", "off", "what"] (defScope (topS 26)) _ [("what", 6)] = true by decide +kernel)) rfl (fun _ _ _ _ _ => (xg 6 nd)) (fun _ _ _ _ _ => t_nil) (fun _ _ _ _ _ => (e_call T hr takesN0 rfl t.f__law_ask (a_cons (xv 6) (a_cons (xv 0) (a_cons (xv 1) (a_cons (xv 5) a_nil))))))) (e_bin o_mul (e_lst (a_cons (e_tup (a_cons (e_str (by decide +kernel) ⟨by decide, by decide⟩) (a_cons e_int a_nil))) a_nil)) e_int) (nomark _)) (s_one (s_ret e_bl)) s_nil)
    (s_one (s_if (t_cmp (o_ne hr.units) (e_lst (a_cons (e_call T hr tk rfl t.f__law_list (a_cons (xv 0) (a_cons (xv 1) (a_cons (xv 2) (a_cons (xv 5) (a_cons (xv 4) a_nil)))))) (a_cons (e_call T hr tk rfl t.f__law_list (a_cons (xv 0) (a_cons (xv 1) (a_cons (xv 2) (a_cons (xv 3) (a_cons (xv 5) a_nil)))))) a_nil))) (e_bin o_mul (e_lst (a_cons (e_tup (a_cons (e_str (by decide +kernel) ⟨by decide, by decide⟩) (a_cons e_int a_nil))) a_nil)) e_int) (nomark _)) (s_one (s_ret e_bl)) s_nil))))))
    (s_one (s_ret (e_cmp (o_eq hr.units) (e_lst (a_cons (e_call T hr tk rfl t.f__law_ask (a_cons e_int (a_cons (xv 1) (a_cons (xv 0) (a_cons (xv 2) a_nil))))) (a_cons (e_call T hr tk rfl t.f__law_ask (a_cons e_int (a_cons (xv 0) (a_cons (xv 0) (a_cons (xv 2) a_nil))))) (a_cons (e_call T hr tk rfl t.f__law_list (a_cons (xv 1) (a_cons (xv 0) (a_cons (xv 2) (a_cons e_int (a_cons e_int a_nil)))))) a_nil)))) (e_bin o_mul (e_lst (a_cons (e_tup (a_cons (e_str (by decide +kernel) ⟨by decide, by decide⟩) (a_cons e_int a_nil))) a_nil)) e_int) (nomark _)))))
theorem sc_law : FnScope ["script", "town", "a", "b", "x", "low", "high", "inner", "passed", "between_them", "found", "line", "count", "later", "here", "after", "one"] ["script"] (defScope (topS 27)) := ⟨rfl, rfl, rfl, by decide +kernel, rfl, by decide +kernel, by decide +kernel⟩
theorem ok_law {k d : Nat} {fd : FuncData} (F : Fun K "law" "law" (topS 27) (W.fa 74) fd) (t : Tx K mg W) (hP : W.P = P) (hw : W.w = w) (T : Tabs P w K mg base W (run tab dr d) k) : FnOk P w K mg base (L2N.CX P w) (k + 2) (W.fa 74) fd ["script"] (spG W (run tab dr (d + 1)) 74 1) :=
  fn_ok (k := k + 1) (b := b_law) F sc_law rfl rfl rfl fun cdv A outer s H E hr1 => have hr := hr1.mono (Nat.le_succ k); have nd := sc_law.nd; have tk := takes_fn (P := P) (w := w) (K := K) (mg := mg) (base := base) (N := ["script", "town", "a", "b", "x", "low", "high", "inner", "passed", "between_them", "found", "line", "count", "later", "here", "after", "one"]) (x := "law") (sc := defScope (topS 27)) (f := W.fa 74) (cdv := cdv) (A := A) (outer := outer) (s := s) (H := H) (E := E); have pw := passes_fn (P := P) (w := w) (K := K) (mg := mg) (base := base) (N := ["script", "town", "a", "b", "x", "low", "high", "inner", "passed", "between_them", "found", "line", "count", "later", "here", "after", "one"]) (x := "law") (sc := defScope (topS 27)) (f := W.fa 74) (cdv := cdv) (A := A) (outer := outer) (s := s) (H := H) (E := E);
    (s_cons (xset 1 nd (e_lstM a_nil))
    (s_cons (xset 2 nd (e_bin o_sub (e_call T hr tk rfl t.f__law_draw (a_cons (xv 0) (a_cons (xv 1) (a_cons e_int a_nil)))) e_int))
    (s_cons (xset 3 nd (e_bin o_add (e_bin o_add (xv 2) e_int) (e_call T hr tk rfl t.f__law_draw (a_cons (xv 0) (a_cons (xv 1) (a_cons e_int a_nil))))))
    (s_cons (xset 4 nd (e_bin o_sub (e_call T hr tk rfl t.f__law_draw (a_cons (xv 0) (a_cons (xv 1) (a_cons e_int a_nil)))) e_int))
    (s_cons (xpar3 10 11 12 rfl nd (a_cons (e_dputK 4 pe_int (fun _ _ => rfl)) (a_cons (e_lstM (a_cons (xv 4) a_nil)) (a_cons e_int a_nil))))
    (s_cons (s_while pw (t_cmp (o_ne hr.units) (xv 11) (e_lst a_nil) (nomark _)) (s_cons (xaug_add 12 nd e_int)
    (s_cons (xset 13 nd (e_lstM a_nil))
    (s_cons (s_for pw rfl (i_seq (xv 11)) (xg 14 nd) (s_one (s_for pw rfl (i_seq (e_tup (a_cons (e_bin o_sub (e_bin o_mul e_int (xv 2)) (xv 14)) (a_cons (e_bin o_sub (e_bin o_mul e_int (xv 3)) (xv 14)) a_nil)))) (xg 15 nd) (s_one (s_if (t_w (w_and (t_cmp (o_notIn (hu65 hr)) (xv 15) (xv 10) rfl) (w_and1 (t_chain o_le o_le (e_bin o_sub e_int e_int) (xv 15) e_int)))) (s_cons (s_put (hu1 hr) (xv 12) (xv 10) (xv 15) rfl)
    (s_one (s_expr (e_append (xv 13) (xv 15))))) s_nil)))))
    (s_one (xset 11 nd (xv 13)))))))
    (s_frz (s_cons (xset 5 nd (e_bin o_sub (e_call T hr tk rfl t.f__law_draw (a_cons (xv 0) (a_cons (xv 1) (a_cons e_int a_nil)))) e_int))
    (s_cons (xset 6 nd (e_bin o_add (xv 5) (e_call T hr tk rfl t.f__law_draw (a_cons (xv 0) (a_cons (xv 1) (a_cons e_int a_nil))))))
    (s_cons (s_if (t_cmp (o_ne hr.units) (e_call T hr tk rfl t.f__law_list (a_cons (xv 2) (a_cons (xv 3) (a_cons (xv 4) (a_cons (xv 5) (a_cons (xv 6) a_nil)))))) (e_biB (b_sorted rfl) rfl t.sorted (by decide +kernel) (a_cons (e_lc rfl nd (i_keysI (xv 10)) (blkOk_by (show blkC ["script", "town", "a", "b", "x", "low", "high", "inner", "passed", "between_them", "found", "line", "count", "later", "here", "after", "one"] (defScope (topS 27)) _ [("one", 16)] = true by decide +kernel)) rfl (fun _ _ _ _ _ => (xg 16 nd)) (fun _ _ _ _ _ => (t_one (t_chain o_le o_le (xv 5) (xv 16) (xv 6)))) (fun _ _ _ _ _ => (xv 16))) a_nil)) (nomark _)) (s_one (s_ret e_bl)) s_nil)
    (s_cons (s_setLc (i := 7) rfl nd rfl rfl (sw_true rfl rfl rfl (by decide +kernel)) (i_keysI (xv 10)) (blkOk_by (show blkC ["script", "town", "a", "b", "x", "low", "high", "inner", "passed", "between_them", "found", "line", "count", "later", "here", "after", "one"] (defScope (topS 27)) _ [("one", 16)] = true by decide +kernel)) rfl (fun _ _ _ _ _ => (xg 16 nd)) (fun _ _ _ _ _ => (t_one (t_chain o_le o_le (xv 2) (xv 16) (xv 3)))) (fun _ _ _ _ _ => (xv 16)))
    (s_cons (s_if (t_w (w_or (t_cmp (o_ne hr.units) (e_biB b_len rfl t.len (by decide +kernel) (a_cons (xv 7) a_nil)) e_int (nomark _)) (w_or1 (t_not (t_val (e_call T hr tk rfl t.f__law_same_number (a_cons (e_call T hr tk rfl t.f__law_ask (a_cons e_int (a_cons (xv 2) (a_cons (xv 3) (a_cons (xv 4) a_nil))))) (a_cons (e_sub (hu1 hr) (xv 7) e_int (fun _ _ => rfl)) a_nil)))))))) (s_one (s_ret e_bl)) s_nil)
    (s_cons (s_if (t_not (t_val (e_call T hr tk rfl t.f__law_same_number (a_cons (e_call T hr tk rfl t.f__law_ask (a_cons e_int (a_cons (xv 2) (a_cons (xv 3) (a_cons (xv 4) a_nil))))) (a_cons (e_sub (hu1 hr) (xv 10) (e_sub (hu1 hr) (xv 7) e_int (fun _ _ => rfl)) (fun _ _ => rfl)) a_nil))))) (s_one (s_ret e_bl)) s_nil)
    (s_cons (s_setLc (i := 8) rfl nd rfl rfl (sw_true rfl rfl rfl (by decide +kernel)) (i_rng2 rfl t.range (a_cons (e_bin o_sub e_int e_int) (a_cons e_int a_nil))) (blkOk_by (show blkC ["script", "town", "a", "b", "x", "low", "high", "inner", "passed", "between_them", "found", "line", "count", "later", "here", "after", "one"] (defScope (topS 27)) _ [("one", 16)] = true by decide +kernel)) rfl (fun _ _ _ _ _ => (xg 16 nd)) (fun _ _ _ _ _ => (t_one (t_cmp (o_eq hr.units) (e_bin o_mod (e_bin o_sub (xv 16) (xv 2)) (e_bin o_sub (xv 3) (xv 2))) e_int (nomark _)))) (fun _ _ _ _ _ => (xv 16)))
    (s_cons (s_setLc (i := 9) rfl nd rfl rfl (sw_true rfl rfl rfl (by decide +kernel)) (i_seq (xv 8)) (blkOk_by (show blkC ["script", "town", "a", "b", "x", "low", "high", "inner", "passed", "between_them", "found", "line", "count", "later", "here", "after", "one"] (defScope (topS 27)) _ [("one", 16)] = true by decide +kernel)) rfl (fun _ _ _ _ _ => (xg 16 nd)) (fun _ _ _ _ _ => (t_one (t_chain (o_lt hr.units0) (o_lt hr.units0) (e_biB (b_min2 rfl) rfl t.min (by decide +kernel) (a_cons (e_bin o_mul e_int (xv 4)) (a_cons (e_bin o_add (xv 2) (xv 3)) a_nil))) (e_bin o_mul e_int (xv 16)) (e_biB (b_max2 rfl) rfl t.max (by decide +kernel) (a_cons (e_bin o_mul e_int (xv 4)) (a_cons (e_bin o_add (xv 2) (xv 3)) a_nil)))))) (fun _ _ _ _ _ => (xv 16)))
    (s_cons (s_if (t_cmp (o_ne hr.units) (e_biB b_len rfl t.len (by decide +kernel) (a_cons (xv 9) a_nil)) (e_sub (hu1 hr) (xv 10) (e_sub (hu1 hr) (xv 7) e_int (fun _ _ => rfl)) (fun _ _ => rfl)) (nomark _)) (s_one (s_ret e_bl)) s_nil)
    (s_one (s_ret (e_call T hr tk rfl t.f__law_refused (a_cons (xv 2) (a_cons (xv 3) (a_cons (xv 4) (a_cons (xv 5) (a_cons (xv 6) a_nil))))))))))))))))))))))))
end

/-! the draws, by hand -/
section
variable {P : Program} {w : World} {K : PySem.W.Frag} {mg : Str → Option Value} {base : Heap} {W : Wd}
theorem sc_cell_at : FnScope ["script", "k", "spare", "again"] ["script", "k"] (defScope (topS 19)) := ⟨rfl, rfl, rfl, by decide +kernel, rfl, by decide +kernel, by decide +kernel⟩
theorem sc_mixed : FnScope ["script", "k", "many", "spun"] ["script", "k", "many"] (defScope (topS 20)) := ⟨rfl, rfl, rfl, by decide +kernel, rfl, by decide +kernel, by decide +kernel⟩
theorem sc_draw : FnScope ["script", "town", "many"] ["script", "town", "many"] (defScope (topS 21)) := ⟨rfl, rfl, rfl, by decide +kernel, rfl, by decide +kernel, by decide +kernel⟩
theorem ok_cell_at {d : Nat} {f : Addr} {fd : FuncData} (F : Fun K "_law_cell_at" "_law_cell_at" (topS 19) f fd) (ml : mg "len" = none) (mr : mg "range" = none) (mm : mg "min" = none) : FnOk P w K mg base (L2N.CX P w) (d + 1) f fd ["script", "k"] (spCellAt K W) := by
  obtain ⟨oc, od, kV, doc, pm, an, cdv, ct, osl, rfl, lk, hcd⟩ := F.ex
  refine fn_of lk hcd sc_cell_at (fun vs H Q E h => ?_) fun A outer s H vs Q E hr hsp => ?_
  · obtain ⟨k, rfl, _⟩ := h
    rfl
  · obtain ⟨k, rfl, hk, hq, q⟩ := hsp
    refine ⟨_, pss_cons (ps_if (pt_cmpR op_lt (pv 1) (pe_callB call_len (by rfl) ml boot_len (pa_cons (pv 0) pa_nil)) (nomark _)) (pss_one (ps_ret (pe_ix ix_list (pv 0) (pv 1) (fun _ _ => rfl)))) pss_nil)
      (pss_cons (ps_if (pt_cmpR (op_eqD hr.units) (pv 0) (pe_lst pa_nil) (nomark _)) (pss_one (ps_ret pe_int)) pss_nil)
      (pss_cons (ps_set (i := 2) sc_cell_at.nd rfl (.inl rfl) (pe_ix ix_list (pv 0) (pe_op op_mod (pv 1) (pe_callB call_len (by rfl) ml boot_len (pa_cons (pv 0) pa_nil))) (fun _ _ => rfl)))
      (pss_cons (ps_for passes_fn rfl (pi_range1 (by rfl) mr (pa_cons (pe_callB (call_min2 rfl) (by rfl) mm (by decide +kernel) (pa_cons (pe_op op_fdiv (pv 1) (pe_callB call_len (by rfl) ml boot_len (pa_cons (pv 0) pa_nil))) (pa_cons pe_int pa_nil))) pa_nil))
          (pg_name (i := 3) sc_cell_at.nd rfl (.inl rfl)) (pss_one (ps_set (i := 2) sc_cell_at.nd rfl (.inl rfl) (pe_op op_fdiv (pv 2) pe_int))))
      (pss_one (ps_ret (pe_op op_add (pe_op op_add (pe_op op_mul (pe_ix ix_list (pv 0) (pe_op op_mod (pv 1) (pe_callB call_len (by rfl) ml boot_len (pa_cons (pv 0) pa_nil))) (fun _ _ => rfl)) pe_int) (pv 1)) (pe_op op_mul (pv 2) pe_int))))))), ?_⟩
    have elen : (W.ns.map V.int).length = W.ns.length := List.length_map ..
    refine ⟨.int k, rfl, .ref W.sa, rfl, .ref W.sa, W.ns.length, rfl, .inl ⟨_, hq, elen.symm⟩, k, W.ns.length, rfl, rfl, _, rfl, ?_⟩
    by_cases h1 : k < W.ns.length
    · refine iT (decide_eq_true (by omega)) ?_
      refine ⟨.ref W.sa, rfl, .int k, rfl, W.sa, _, k, _, rfl, rfl, hq, at_getD h1, ?_⟩
      have e : cellV W.ns k = W.ns.getD k 0 := by unfold cellV; rw [if_pos h1]
      rw [← e]
      exact q H fun _ _ z => z
    · refine iF (decide_eq_false (by omega)) ?_
      refine ⟨.ref W.sa, rfl, Nat.zero_le _, fun p hp => ?_⟩
      have k1 : ∀ a o, H a = some o → upd H p (.lst []) a = some o := fun a o e => by rw [upd_ne (ne_of_none e hp)]; exact e
      have hq1 := sql_more hq k1
      refine ⟨.list (W.ns.map PyData.int), .list [], .lst hq1 (dpAll_ints W.ns), .lst (.of upd_same) .nil, ints_shaped W.ns, rfl, _, rfl, ?_⟩
      by_cases h2 : W.ns.length = 0
      · have en : W.ns = [] := List.eq_nil_of_length_eq_zero h2
        refine iT (by rw [en]; rfl) ?_
        have e : cellV W.ns k = 0 := by unfold cellV; rw [if_neg h1, if_pos h2]
        rw [e] at q
        exact q _ k1
      · refine iF (by cases hn : W.ns with | nil => rw [hn] at h2; exact absurd rfl h2 | cons a r => rfl) ?_
        have hm : k % W.ns.length < W.ns.length := Nat.mod_lt _ (by omega)
        have em : (k : Int) % (W.ns.length : Int) = ((k % W.ns.length : Nat) : Int) := by omega
        have ed : (k : Int) / (W.ns.length : Int) = ((k / W.ns.length : Nat) : Int) := by omega
        have le1 : (1 : Nat) ≤ W.ns.length := by omega
        have lenB : (W.ns.length : Int) < 1073741824 := by omega
        have dle : k / W.ns.length ≤ k := Nat.div_le_self _ _
        refine ⟨.ref W.sa, rfl, .int k, rfl, .ref W.sa, rfl, .ref W.sa, W.ns.length, rfl, .inl ⟨_, hq1, elen.symm⟩, k, W.ns.length, rfl, rfl, (by omega), W.sa, _, _, _, rfl, rfl, hq1, (by rw [em]; exact at_getD hm), ?_⟩
        refine ⟨.int k, rfl, .ref W.sa, rfl, .ref W.sa, W.ns.length, rfl, .inl ⟨_, hq1, elen.symm⟩, k, W.ns.length, rfl, rfl, ⟨by omega, lenB⟩, _, _, rfl, ?_⟩
        rw [ed]
        have emin : (if (60 : Int) < ((k / W.ns.length : Nat) : Int) then (60 : Int) else ((k / W.ns.length : Nat) : Int)) = ((min (k / W.ns.length) 60 : Nat) : Int) := by
          by_cases hc : (60 : Int) < ((k / W.ns.length : Nat) : Int)
          · rw [if_pos hc]; omega
          · rw [if_neg hc]; omega
        rw [emin]
        have mle : min (k / W.ns.length) 60 ≤ 60 := Nat.min_le_right _ _
        have m0 : (0 : Int) ≤ ((min (k / W.ns.length) 60 : Nat) : Int) := Int.natCast_nonneg _
        have m1 : ((min (k / W.ns.length) 60 : Nat) : Int) ≤ 60 := Int.ofNat_le.mpr mle
        refine ⟨_, rfl, Int.le_trans (by decide) m0, Int.le_trans (Int.add_le_add_right m1 1) (by decide), ?_⟩
        rw [Int.toNat_natCast]
        refine for_range (lo := 0) (n := min (k / W.ns.length) 60) (fun i σ H' => H' = upd H p (.lst []) ∧ ∃ y, σ = [some (.ref W.sa), some (.int k), some (.int (divs (W.ns.getD (k % W.ns.length) 0) i)), y]) ⟨rfl, none, rfl⟩ ?_ ?_
        · rintro i σ H' hi ⟨rfl, y, rfl⟩
          exact ⟨_, rfl, _, _, rfl, rfl, ⟨by decide, by decide⟩, rfl, _, rfl⟩
        · rintro σ H' ⟨rfl, y, rfl⟩
          refine ⟨.ref W.sa, rfl, .int k, rfl, .ref W.sa, rfl, .ref W.sa, W.ns.length, rfl, .inl ⟨_, hq1, elen.symm⟩, k, W.ns.length, rfl, rfl, (by omega), W.sa, _, _, _, rfl, rfl, hq1, (by rw [em]; exact at_getD hm), _, _, rfl, rfl, .inr ⟨by decide, by decide⟩, _, rfl, _, _, rfl, rfl, _, rfl, _, _, rfl, rfl, .inr ⟨by decide, by decide⟩, _, _, rfl, rfl, ?_⟩
          have e : cellV W.ns k = W.ns.getD (k % W.ns.length) 0 * 31 + k + divs (W.ns.getD (k % W.ns.length) 0) (min (k / W.ns.length) 60) * 101 := by unfold cellV; rw [if_neg h1, if_neg h2]
          show Q (.int (W.ns.getD (k % W.ns.length) 0 * 31 + k + divs (W.ns.getD (k % W.ns.length) 0) (min (k / W.ns.length) 60) * 101)) _
          rw [← e]
          exact q _ k1
theorem ok_mixed {d : Nat} {f fc : Addr} {fd fdc : FuncData} (F : Fun K "_law_mixed" "_law_mixed" (topS 20) f fd) (G : FnOk P w K mg base (L2N.CX P w) d fc fdc ["script", "k"] (spCellAt K W)) (gc : mg "_law_cell_at" = some (.ref fc)) (kc : PySem.W.keepIn K (.ref fc) = true) (bc : Binds K fdc ["script", "k"] []) :
    FnOk P w K mg base (L2N.CX P w) (d + 1) f fd ["script", "k", "many"] (spMixed K W) := by
  obtain ⟨oc, od, kV, doc, pm, an, cdv, ct, osl, rfl, lk, hcd⟩ := F.ex
  refine fn_of lk hcd sc_mixed (fun vs H Q E h => ?_) fun A outer s H vs Q E hr hsp => ?_
  · obtain ⟨k, m, rfl, _⟩ := h
    rfl
  · obtain ⟨k, m, rfl, hk, hm, hS, q⟩ := hsp
    refine ⟨_, pss_cons (ps_set (i := 3) sc_mixed.nd rfl (.inl rfl) (pe_op op_mod (pe_op op_add (pe_op op_add (pe_op op_mul (pe_callS (E := WE W0) G hr rfl gc kc bc (fun σ => L2N.passAt takesN0 σ) (pa_cons (pv 0) (pa_cons (pv 1) pa_nil))) pe_int) (pe_op op_mul pe_int (pv 1))) pe_int) pe_int))
      (pss_one (ps_ret (pe_op op_mod (pe_op op_mod (pe_op op_mod (pe_op op_pow (pv 3) pe_int) pe_int) pe_int) (pv 2)))), ?_⟩
    refine ⟨.ref W.sa, rfl, .int k, rfl, k, rfl, hk, hS, fun H1 k1 => ?_⟩
    have h0 : (0 : Int) ≤ (cellV W.ns k * 1103515245 + 7919 * k + 12345) % 2147483647 := Int.emod_nonneg _ (by decide)
    have h1 : (cellV W.ns k * 1103515245 + 7919 * k + 12345) % 2147483647 < 2147483647 := Int.emod_lt_of_pos _ (by decide)
    refine ⟨_, _, rfl, rfl, .inr ⟨by decide, by decide⟩, .int k, rfl, _, _, rfl, rfl, .inl ⟨by decide, by decide⟩, _, _, rfl, rfl, _, _, rfl, rfl, _, _, rfl, rfl, (by show (0 : Int) < 2147483647; decide), ?_⟩
    refine ⟨_, rfl, _, _, rfl, rfl, ⟨by decide, by decide, by omega⟩, _, _, rfl, rfl, (by show (0 : Int) < 2147483647; decide), _, _, rfl, rfl, (by show (0 : Int) < 999983; decide), .int m, rfl, _, _, rfl, rfl, hm, ?_⟩
    exact q H1 k1
theorem ok_draw {k d : Nat} {f fm : Addr} {fd fdm : FuncData} (F : Fun K "_law_draw" "_law_draw" (topS 21) f fd) (G : FnOk P w K mg base (L2N.CX P w) k fm fdm ["script", "k", "many"] (spMixed K W)) (gm : mg "_law_mixed" = some (.ref fm)) (km : PySem.W.keepIn K (.ref fm) = true) (bm : Binds K fdm ["script", "k", "many"] [])
    (ml : mg "len" = none) (hK : W.K = K) {T : List Fd} {i : Nat} (hT : T[i]? = some .draw) : FnOk P w K mg base (L2N.CX P w) (k + 1) f fd ["script", "town", "many"] (spG W (run T (mixV W.ns) (d + 1)) i 3) := by
  obtain ⟨oc, od, kV, doc, pm, an, cdv, ct, osl, rfl, lk, hcd⟩ := F.ex
  refine fn_of lk hcd sc_draw (fun vs H Q E h => h.1) fun A outer s H vs Q E hr hsp => ?_
  · obtain ⟨hl, r, st, as, p, l, g⟩ := hsp
    obtain ⟨n, m, a, xs, ys, rfl, rfl, ho, hr1, hn, hm, hA, lx, hS, g⟩ := draw_in p l (show Good W (run T (mixV W.ns) (d + 1) i as st) r H Q _ from g) hT
    refine ⟨_, pss_cons (ps_expr (pe_bm PySem.F.plainAttrs_list PySem.F.slot_list_append PySem.F.type_list_append mt_append (pv 1) (pa_cons pe_int pa_nil)))
      (pss_one (ps_ret (pe_callS (E := WE W0) G hr rfl gm km bm (fun σ => L2N.passAt takesN0 σ) (pa_cons (pv 0) (pa_cons (pe_callB call_len (by rfl) ml boot_len (pa_cons (pv 1) pa_nil)) (pa_cons (pv 2) pa_nil)))))), ?_⟩
    refine ⟨.ref a, rfl, .inl ⟨rfl, _, SqL.of hA⟩, a, _, _, rfl, rfl, hA, line_lt (by rw [← lx.len]; omega), ?_⟩
    subst hK
    refine ⟨.ref W.sa, rfl, .ref a, rfl, .ref a, (ys ++ [V.int 0]).length, rfl, .inl ⟨_, SqL.of upd_same, rfl⟩, .int m, rfl, (ys ++ [V.int 0]).length, m, rfl, by rw [List.length_append, ← lx.len]; show xs.length + 1 ≤ 100000; omega, hm, hS _, fun H' k' => ?_⟩
    have en : (ys ++ [V.int 0]).length = xs.length + 1 := by rw [List.length_append, ← lx.len]; rfl
    rw [en]
    refine g r H' _ ?_ ?_ rfl
    · exact ext_more (Ext.put p hr1) k'
    · exact rep_more (p.put hr1 ⟨ys ++ [V.int 0], upd_same, (lx.app (.one (show Rel W r H (.int 0) (.int 0) from rfl))).ext (Ext.put p hr1)⟩) k'
end


section
variable {P : Program} {w : World} {K : PySem.W.Frag} {mg : Str → Option Value} {base : Heap} {W : Wd} {me : Addr}
theorem sc_which : FnScope ["e", "own"] ["e"] (defScope (topS 23)) := ⟨rfl, rfl, rfl, by decide +kernel, rfl, by decide +kernel, by decide +kernel⟩
theorem which_body (wh : Wh K mg W me) {k : Nat} (hk : k < 8) {f : Addr} {cdv : Value} {A : Around} {outer : List PySem.Env} {s : Shared} {H : Hp} {E : XK} {Q : VK} {p : Addr × Obj} (hu : A.units + 200 < cLine) (hz : Zc (.ref (W.xa k)) none p.2) (hf : ∃ vs, p.2.data = .fields vs)
    (hQ : ∀ q H', (∀ b o, H b = some o → H' b = some o) → H' q = some (.tup [.str "raised", .int (k : Nat)]) → Q (.ref q) H') :
    ∃ t, PSs (cxH (L2N.CX P w) P w K mg base ["e", "own"] "_law_which" (defScope (topS 23)) f cdv A outer s H E p) (defBody (topS 23)) t ∧ t { nx := fun _ H' => Q .non H', rt := Q } (L2.start ["e", "own"] [.ref p.1]) H := by
  have nd := sc_which.nd
  have cis := is_pin (X := cxH (L2N.CX P w) P w K mg base ["e", "own"] "_law_which" (defScope (topS 23)) f cdv A outer s H E p) (p := p) (D := W.xa k) (List.mem_singleton.mpr rfl) (wh.ex k hk) hz hf
  refine ⟨_, pss_cons (ps_set (i := 1) nd rfl (.inl rfl) (pe_lst (pa_cons (pe_callB cis (by rfl) wh.isi boot_isinstance (pa_cons (pv 0) (pa_cons (pe_glob (by rfl) wh.g0 (show RelV (.ref (W.xa 0)) _ from rfl)) pa_nil))) (pa_cons (pe_callB cis (by rfl) wh.isi boot_isinstance (pa_cons (pv 0) (pa_cons (pe_glob (by rfl) wh.g1 (show RelV (.ref (W.xa 1)) _ from rfl)) pa_nil))) (pa_cons (pe_callB cis (by rfl) wh.isi boot_isinstance (pa_cons (pv 0) (pa_cons (pe_glob (by rfl) wh.g2 (show RelV (.ref (W.xa 2)) _ from rfl)) pa_nil))) pa_nil)))))
    (pss_cons (ps_expr (pe_bm PySem.F.plainAttrs_list PySem.F.slot_list_extend PySem.F.type_list_extend mt_extend (pv 1) (pa_cons (pe_lst (pa_cons (pe_callB cis (by rfl) wh.isi boot_isinstance (pa_cons (pv 0) (pa_cons (pe_glob (by rfl) wh.g3 (show RelV (.ref (W.xa 3)) _ from rfl)) pa_nil))) (pa_cons (pe_callB cis (by rfl) wh.isi boot_isinstance (pa_cons (pv 0) (pa_cons (pe_glob (by rfl) wh.g4 (show RelV (.ref (W.xa 4)) _ from rfl)) pa_nil))) (pa_cons (pe_callB cis (by rfl) wh.isi boot_isinstance (pa_cons (pv 0) (pa_cons (pe_glob (by rfl) wh.g5 (show RelV (.ref (W.xa 5)) _ from rfl)) pa_nil))) pa_nil)))) pa_nil)))
    (pss_cons (ps_expr (pe_bm PySem.F.plainAttrs_list PySem.F.slot_list_extend PySem.F.type_list_extend mt_extend (pv 1) (pa_cons (pe_lst (pa_cons (pe_callB cis (by rfl) wh.isi boot_isinstance (pa_cons (pv 0) (pa_cons (pe_glob (by rfl) wh.g6 (show RelV (.ref (W.xa 6)) _ from rfl)) pa_nil))) (pa_cons (pe_callB cis (by rfl) wh.isi boot_isinstance (pa_cons (pv 0) (pa_cons (pe_glob (by rfl) wh.g7 (show RelV (.ref (W.xa 7)) _ from rfl)) pa_nil))) pa_nil))) pa_nil)))
    (pss_cons (ps_if (PW.pt (pw_or (pt_cmpR op_ne (pe_bm PySem.F.plainAttrs_list PySem.F.slot_list_count PySem.F.type_list_count m_bcount (pv 1) (pa_cons pe_bl pa_nil)) pe_int (nomark _)) (pw_or1 (pt_not (pt_val (pe_callB cis (by rfl) wh.isi boot_isinstance (pa_cons (pv 0) (pa_cons (pe_bltn (by rfl) wh.ve (by decide +kernel) (show RelV (.ty "ValueError") _ from rfl)) pa_nil)))))))) (pss_one (ps_ret (pe_tup (pa_cons pe_str (pa_cons (pe_un un_neg pe_int) pa_nil))))) pss_nil)
    (pss_one (ps_ret (pe_tup (pa_cons pe_str (pa_cons (pe_bm PySem.F.plainAttrs_list PySem.F.slot_list_index PySem.F.type_list_index (mt_indexD (by show A.units + 3 + 65 < cLine; omega)) (pv 1) (pa_cons pe_bl pa_nil)) pa_nil)))))))), ?_⟩
  refine ⟨.ref p.1, rfl, .ref (W.xa 0), .ref (W.xa 0), _, rfl, fun u h => h, wh.kit k hk 0 (by decide), .ref p.1, rfl, .ref (W.xa 1), .ref (W.xa 1), _, rfl, fun u h => h, wh.kit k hk 1 (by decide), .ref p.1, rfl, .ref (W.xa 2), .ref (W.xa 2), _, rfl, fun u h => h, wh.kit k hk 2 (by decide), small64 (by show (3 : Nat) < 64; decide), fun a ha => ?_⟩
  have k1 : ∀ b o, H b = some o → upd H a (.lst [V.bl (Nat.beq k 0), .bl (Nat.beq k 1), .bl (Nat.beq k 2)]) b = some o := fun b o e => by rw [upd_ne (ne_of_none e ha)]; exact e
  refine ⟨.ref a, rfl, .inl ⟨rfl, _, SqL.of upd_same⟩, .ref p.1, rfl, .ref (W.xa 3), .ref (W.xa 3), _, rfl, fun u h => h, wh.kit k hk 3 (by decide), .ref p.1, rfl, .ref (W.xa 4), .ref (W.xa 4), _, rfl, fun u h => h, wh.kit k hk 4 (by decide), .ref p.1, rfl, .ref (W.xa 5), .ref (W.xa 5), _, rfl, fun u h => h, wh.kit k hk 5 (by decide), small64 (by show (3 : Nat) < 64; decide), fun a2 ha2 => ?_⟩
  have n2 : a ≠ a2 := fun z => by rw [← z, upd_same] at ha2; cases ha2
  refine ⟨a, a2, _, _, rfl, rfl, by rw [upd_ne n2]; exact upd_same, upd_same, small64 (by show (6 : Nat) < 64; decide), ?_⟩
  refine ⟨.ref a, rfl, .inl ⟨rfl, _, SqL.of upd_same⟩, .ref p.1, rfl, .ref (W.xa 6), .ref (W.xa 6), _, rfl, fun u h => h, wh.kit k hk 6 (by decide), .ref p.1, rfl, .ref (W.xa 7), .ref (W.xa 7), _, rfl, fun u h => h, wh.kit k hk 7 (by decide), small64 (by show (2 : Nat) < 64; decide), fun a3 ha3 => ?_⟩
  have n3 : a ≠ a3 := fun z => by rw [← z, upd_same] at ha3; cases ha3
  refine ⟨a, a3, _, _, rfl, rfl, by rw [upd_ne n3]; exact upd_same, upd_same, small64 (by show (8 : Nat) < 64; decide), ?_⟩
  refine ⟨.ref a, rfl, .inl ⟨rfl, _, SqL.of upd_same⟩, a, oneT k, rfl, rfl, upd_same, ?_⟩
  rw [oneT_count k hk]
  refine ⟨rfl, false, rfl, iF rfl ⟨.ref p.1, rfl, .ty "ValueError", .type "ValueError", _, rfl, fun u h => h, wh.kv k hk, ?_⟩⟩
  refine ⟨true, rfl, iF rfl ⟨.ref a, rfl, .inl ⟨rfl, _, SqL.of upd_same⟩, a, .bl true, .bool true, (oneT k).map PyData.bool, k, .bool true, rfl, rfl, .lst (SqL.of upd_same) (dpAll_bools (oneT k)), .bl true, (oneT_ds hk).1, rfl, (oneT_ds hk).2, rfl, fun m z hm e => oneT_no hk hm e, ?_⟩⟩
  refine ⟨small64 (by show (2 : Nat) < 64; decide), fun q hq => hQ q _ (fun b o e => ?_) upd_same⟩
  have nb : b ≠ a := ne_of_none e ha
  have f2 := k1 b o e
  have f3 := (upd_ne (o := HO.lst [V.bl (Nat.beq k 3), .bl (Nat.beq k 4), .bl (Nat.beq k 5)]) (ne_of_none f2 ha2)).trans f2
  have f4 := (upd_ne (o := HO.lst ([V.bl (Nat.beq k 0), .bl (Nat.beq k 1), .bl (Nat.beq k 2)] ++ [V.bl (Nat.beq k 3), .bl (Nat.beq k 4), .bl (Nat.beq k 5)])) nb).trans f3
  have f5 := (upd_ne (o := HO.lst [V.bl (Nat.beq k 6), .bl (Nat.beq k 7)]) (ne_of_none f4 ha3)).trans f4
  have f6 := (upd_ne (o := HO.lst ([V.bl (Nat.beq k 0), .bl (Nat.beq k 1), .bl (Nat.beq k 2)] ++ [V.bl (Nat.beq k 3), .bl (Nat.beq k 4), .bl (Nat.beq k 5)] ++ [V.bl (Nat.beq k 6), .bl (Nat.beq k 7)])) nb).trans f5
  rw [upd_ne (ne_of_none f6 hq)]
  exact f6
theorem which_ok {f : Addr} {fd : FuncData} (F : Fun K "_law_which" "_law_which" (topS 23) f fd) (wh : Wh K mg W me) : WhichOk P w K mg base W f fd := by
  obtain ⟨oc, od, kV, doc, pm, an, cdv, ct, osl, rfl, lk, hcd⟩ := F.ex
  intro k A outer s H Q p args hk hr hot hpin e0 hb hz hf hQ
  obtain ⟨t, ht, hq⟩ := which_body (P := P) (w := w) (base := base) (A := A) (outer := outer) (s := s) (E := fun _ _ _ => False) (f := f) (cdv := cdv) wh hk (by have := hr.un; omega) hz hf hQ
  exact hot_fn (k := 0) (ps := ["e"]) (us := [.ref p.1]) (vs := [.ref p.1]) lk hcd sc_which rfl hr hpin e0 hb (.cons rfl .nil) ht hq
end

section
variable {P : Program} {w : World} {K : PySem.W.Frag} {mg : Str → Option Value} {base : Heap} {W : Wd}
theorem tabs (hK : W.K = K) (hP : W.P = P) (hw : W.w = w) (t : Tx K mg W) (tw : TryOk P w K mg base W) (F0 : ∃ fd, Fun K "is_integer" "is_integer" (topS 11) (W.fa 11) fd ∧ Binds K fd ["value", "low", "high"] []) (F1 : ∃ fd, Fun K "check_number" "check_number" (topS 12) (W.fa 19) fd ∧ Binds K fd ["k", "low", "high"] []) (F2 : ∃ fd, Fun K "check_line" "check_line" (topS 14) (W.fa 41) fd ∧ Binds K fd ["a", "b", "some"] []) (F3 : ∃ fd, Fun K "line_images" "line_images" (topS 15) (W.fa 42) fd ∧ Binds K fd ["a", "b", "x", "low", "high"] []) (F4 : ∃ fd, Fun K "inner_image" "inner_image" (topS 16) (W.fa 43) fd ∧ Binds K fd ["a", "b", "x"] []) (F5 : ∃ fd, Fun K "line_depth" "line_depth" (topS 17) (W.fa 44) fd ∧ Binds K fd ["a", "b", "x"] []) (F6 : ∃ fd, Fun K "_law_draw" "_law_draw" (topS 21) (W.fa 49) fd ∧ Binds K fd ["script", "town", "many"] []) (F7 : ∃ fd, Fun K "_law_same_number" "_law_same_number" (topS 22) (W.fa 57) fd ∧ Binds K fd ["got", "due"] []) (F8 : ∃ fd, Fun K "_law_ask" "_law_ask" (topS 24) (W.fa 71) fd ∧ Binds K fd ["what", "a", "b", "x"] []) (F9 : ∃ fd, Fun K "_law_list" "_law_list" (topS 25) (W.fa 72) fd ∧ Binds K fd ["a", "b", "x", "low", "high"] []) (F10 : ∃ fd, Fun K "_law_refused" "_law_refused" (topS 26) (W.fa 73) fd ∧ Binds K fd ["a", "b", "x", "low", "high"] []) (F11 : ∃ fd, Fun K "law" "law" (topS 27) (W.fa 74) fd ∧ Binds K fd ["script"] []) {fc fm : Addr} {fdc fdm : FuncData} (Fc : Fun K "_law_cell_at" "_law_cell_at" (topS 19) fc fdc) (bc : Binds K fdc ["script", "k"] []) (gc : mg "_law_cell_at" = some (.ref fc)) (kc : PySem.W.keepIn K (.ref fc) = true) (Fm : Fun K "_law_mixed" "_law_mixed" (topS 20) fm fdm) (bm : Binds K fdm ["script", "k", "many"] []) (gm : mg "_law_mixed" = some (.ref fm)) (km : PySem.W.keepIn K (.ref fm) = true) (kp : ∀ i, PySem.W.keepIn K (.ref (W.fa i)) = true) :
    ∀ d, Tabs P w K mg base W (run tab (mixV W.ns) d) (lev d)
  | 0 => ⟨fun i as st h => absurd rfl h, kp⟩
  | d + 1 => by
    have T := tabs hK hP hw t tw F0 F1 F2 F3 F4 F5 F6 F7 F8 F9 F10 F11 Fc bc gc kc Fm bm gm km kp d
    refine ⟨fun i as st h => ?_, kp⟩
    match i with
    | 0 => exact absurd rfl h
    | 1 => exact absurd rfl h
    | 2 => exact absurd rfl h
    | 3 => exact absurd rfl h
    | 4 => exact absurd rfl h
    | 5 => exact absurd rfl h
    | 6 => exact absurd rfl h
    | 7 => exact absurd rfl h
    | 8 => exact absurd rfl h
    | 9 => exact absurd rfl h
    | 10 => exact absurd rfl h
    | 11 =>
      obtain ⟨fd, F, b⟩ := F0
      exact ⟨fd, ["value", "low", "high"], df_len (T := tab) (i := 11) rfl h, ok_is_integer F t hP hw T, b⟩
    | 12 => exact absurd rfl h
    | 13 => exact absurd rfl h
    | 14 => exact absurd rfl h
    | 15 => exact absurd rfl h
    | 16 => exact absurd rfl h
    | 17 => exact absurd rfl h
    | 18 => exact absurd rfl h
    | 19 =>
      obtain ⟨fd, F, b⟩ := F1
      exact ⟨fd, ["k", "low", "high"], df_len (T := tab) (i := 19) rfl h, ok_check_number F t hP hw T, b⟩
    | 20 => exact absurd rfl h
    | 21 => exact absurd rfl h
    | 22 => exact absurd rfl h
    | 23 => exact absurd rfl h
    | 24 => exact absurd rfl h
    | 25 => exact absurd rfl h
    | 26 => exact absurd rfl h
    | 27 => exact absurd rfl h
    | 28 => exact absurd rfl h
    | 29 => exact absurd rfl h
    | 30 => exact absurd rfl h
    | 31 => exact absurd rfl h
    | 32 => exact absurd rfl h
    | 33 => exact absurd rfl h
    | 34 => exact absurd rfl h
    | 35 => exact absurd rfl h
    | 36 => exact absurd rfl h
    | 37 => exact absurd rfl h
    | 38 => exact absurd rfl h
    | 39 => exact absurd rfl h
    | 40 => exact absurd rfl h
    | 41 =>
      obtain ⟨fd, F, b⟩ := F2
      exact ⟨fd, ["a", "b", "some"], df_len (T := tab) (i := 41) rfl h, ok_check_line F t hP hw T, b⟩
    | 42 =>
      obtain ⟨fd, F, b⟩ := F3
      exact ⟨fd, ["a", "b", "x", "low", "high"], df_len (T := tab) (i := 42) rfl h, ok_line_images F t hP hw T, b⟩
    | 43 =>
      obtain ⟨fd, F, b⟩ := F4
      exact ⟨fd, ["a", "b", "x"], df_len (T := tab) (i := 43) rfl h, ok_inner_image F t hP hw T, b⟩
    | 44 =>
      obtain ⟨fd, F, b⟩ := F5
      exact ⟨fd, ["a", "b", "x"], df_len (T := tab) (i := 44) rfl h, ok_line_depth F t hP hw T, b⟩
    | 45 => exact absurd rfl h
    | 46 => exact absurd rfl h
    | 47 => exact absurd rfl h
    | 48 => exact absurd rfl h
    | 49 =>
      obtain ⟨fd, F, b⟩ := F6
      exact ⟨fd, ["script", "town", "many"], draw_len (T := tab) (i := 49) rfl h, (ok_draw (k := 2) F (ok_mixed (d := 1) Fm (ok_cell_at (d := 0) Fc t.len t.range t.min) gc kc bc) gm km bm t.len hK rfl).mono (show 3 ≤ lev d + 2 by have := lev_two d; omega), b⟩
    | 50 => exact absurd rfl h
    | 51 => exact absurd rfl h
    | 52 => exact absurd rfl h
    | 53 => exact absurd rfl h
    | 54 => exact absurd rfl h
    | 55 => exact absurd rfl h
    | 56 => exact absurd rfl h
    | 57 =>
      obtain ⟨fd, F, b⟩ := F7
      exact ⟨fd, ["got", "due"], df_len (T := tab) (i := 57) rfl h, ok__law_same_number F t hP hw T, b⟩
    | 58 => exact absurd rfl h
    | 59 => exact absurd rfl h
    | 60 => exact absurd rfl h
    | 61 => exact absurd rfl h
    | 62 => exact absurd rfl h
    | 63 => exact absurd rfl h
    | 64 => exact absurd rfl h
    | 65 => exact absurd rfl h
    | 66 => exact absurd rfl h
    | 67 => exact absurd rfl h
    | 68 => exact absurd rfl h
    | 69 => exact absurd rfl h
    | 70 => exact absurd rfl h
    | 71 =>
      obtain ⟨fd, F, b⟩ := F8
      exact ⟨fd, ["what", "a", "b", "x"], df_len (T := tab) (i := 71) rfl h, ok__law_ask F t hP hw tw T, b⟩
    | 72 =>
      obtain ⟨fd, F, b⟩ := F9
      exact ⟨fd, ["a", "b", "x", "low", "high"], df_len (T := tab) (i := 72) rfl h, ok__law_list F t hP hw tw T, b⟩
    | 73 =>
      obtain ⟨fd, F, b⟩ := F10
      exact ⟨fd, ["a", "b", "x", "low", "high"], df_len (T := tab) (i := 73) rfl h, ok__law_refused F t hP hw T, b⟩
    | 74 =>
      obtain ⟨fd, F, b⟩ := F11
      exact ⟨fd, ["script"], df_len (T := tab) (i := 74) rfl h, ok_law F t hP hw T, b⟩
    | n + 75 => exact absurd rfl h
end
theorem all_mk {l : PySem.W.OpenLaw} {w : World} {K : PySem.W.Frag} {h : Heap} {mg : Str → Option Value} {fa : Addr} {D : Nat} (hs : Sure tab 74 (D + 1)) (X : K.In h) (G : h.Ns mainGlobals mg) (hfa : mg "law" = some (.ref fa))
    {f0 f1 f2 f3 f4 f5 f6 f7 f8 f9 f10 f11 f12 f13 f14 x0 x1 x2 x3 x4 x5 x6 x7 me : Addr} {od0 an0 od1 an1 od2 an2 od3 an3 od4 an4 od5 an5 od6 an6 od7 an7 od8 an8 od9 an9 od10 an10 od11 an11 od12 an12 od13 an13 od14 an14 : Option Addr} {sl0 sl1 sl2 sl3 sl4 sl5 sl6 sl7 sl8 sl9 sl10 sl11 sl12 sl13 sl14 : Array (Option Value)} {oc0 kV0 dc0 pm0 cd0 ct0 oc1 kV1 dc1 pm1 cd1 ct1 oc2 kV2 dc2 pm2 cd2 ct2 oc3 kV3 dc3 pm3 cd3 ct3 oc4 kV4 dc4 pm4 cd4 ct4 oc5 kV5 dc5 pm5 cd5 ct5 oc6 kV6 dc6 pm6 cd6 ct6 oc7 kV7 dc7 pm7 cd7 ct7 oc8 kV8 dc8 pm8 cd8 ct8 oc9 kV9 dc9 pm9 cd9 ct9 oc10 kV10 dc10 pm10 cd10 ct10 oc11 kV11 dc11 pm11 cd11 ct11 oc12 kV12 dc12 pm12 cd12 ct12 oc13 kV13 dc13 pm13 cd13 ct13 oc14 kV14 dc14 pm14 cd14 ct14 : Value}
    (a0 : PySem.W.nsIn K mainGlobals "is_integer" = some (some (.ref f0)))
    (l0 : K.lookup f0 = some ⟨oc0, od0, .func (PySem.W.fnOf "is_integer" "is_integer" (defArgs (topS 11)) (defBody (topS 11)) (defScope (topS 11)) .none kV0 dc0 pm0 an0 cd0 ct0), sl0⟩) (c0 : PySem.W.codeIn K cd0 "is_integer" = true) (k0 : PySem.W.keepIn K (.ref f0) = true)
    (a1 : PySem.W.nsIn K mainGlobals "check_number" = some (some (.ref f1)))
    (l1 : K.lookup f1 = some ⟨oc1, od1, .func (PySem.W.fnOf "check_number" "check_number" (defArgs (topS 12)) (defBody (topS 12)) (defScope (topS 12)) .none kV1 dc1 pm1 an1 cd1 ct1), sl1⟩) (c1 : PySem.W.codeIn K cd1 "check_number" = true) (k1 : PySem.W.keepIn K (.ref f1) = true)
    (a2 : PySem.W.nsIn K mainGlobals "check_line" = some (some (.ref f2)))
    (l2 : K.lookup f2 = some ⟨oc2, od2, .func (PySem.W.fnOf "check_line" "check_line" (defArgs (topS 14)) (defBody (topS 14)) (defScope (topS 14)) .none kV2 dc2 pm2 an2 cd2 ct2), sl2⟩) (c2 : PySem.W.codeIn K cd2 "check_line" = true) (k2 : PySem.W.keepIn K (.ref f2) = true)
    (a3 : PySem.W.nsIn K mainGlobals "line_images" = some (some (.ref f3)))
    (l3 : K.lookup f3 = some ⟨oc3, od3, .func (PySem.W.fnOf "line_images" "line_images" (defArgs (topS 15)) (defBody (topS 15)) (defScope (topS 15)) .none kV3 dc3 pm3 an3 cd3 ct3), sl3⟩) (c3 : PySem.W.codeIn K cd3 "line_images" = true) (k3 : PySem.W.keepIn K (.ref f3) = true)
    (a4 : PySem.W.nsIn K mainGlobals "inner_image" = some (some (.ref f4)))
    (l4 : K.lookup f4 = some ⟨oc4, od4, .func (PySem.W.fnOf "inner_image" "inner_image" (defArgs (topS 16)) (defBody (topS 16)) (defScope (topS 16)) .none kV4 dc4 pm4 an4 cd4 ct4), sl4⟩) (c4 : PySem.W.codeIn K cd4 "inner_image" = true) (k4 : PySem.W.keepIn K (.ref f4) = true)
    (a5 : PySem.W.nsIn K mainGlobals "line_depth" = some (some (.ref f5)))
    (l5 : K.lookup f5 = some ⟨oc5, od5, .func (PySem.W.fnOf "line_depth" "line_depth" (defArgs (topS 17)) (defBody (topS 17)) (defScope (topS 17)) .none kV5 dc5 pm5 an5 cd5 ct5), sl5⟩) (c5 : PySem.W.codeIn K cd5 "line_depth" = true) (k5 : PySem.W.keepIn K (.ref f5) = true)
    (a6 : PySem.W.nsIn K mainGlobals "_law_draw" = some (some (.ref f6)))
    (l6 : K.lookup f6 = some ⟨oc6, od6, .func (PySem.W.fnOf "_law_draw" "_law_draw" (defArgs (topS 21)) (defBody (topS 21)) (defScope (topS 21)) .none kV6 dc6 pm6 an6 cd6 ct6), sl6⟩) (c6 : PySem.W.codeIn K cd6 "_law_draw" = true) (k6 : PySem.W.keepIn K (.ref f6) = true)
    (a7 : PySem.W.nsIn K mainGlobals "_law_same_number" = some (some (.ref f7)))
    (l7 : K.lookup f7 = some ⟨oc7, od7, .func (PySem.W.fnOf "_law_same_number" "_law_same_number" (defArgs (topS 22)) (defBody (topS 22)) (defScope (topS 22)) .none kV7 dc7 pm7 an7 cd7 ct7), sl7⟩) (c7 : PySem.W.codeIn K cd7 "_law_same_number" = true) (k7 : PySem.W.keepIn K (.ref f7) = true)
    (a8 : PySem.W.nsIn K mainGlobals "_law_ask" = some (some (.ref f8)))
    (l8 : K.lookup f8 = some ⟨oc8, od8, .func (PySem.W.fnOf "_law_ask" "_law_ask" (defArgs (topS 24)) (defBody (topS 24)) (defScope (topS 24)) .none kV8 dc8 pm8 an8 cd8 ct8), sl8⟩) (c8 : PySem.W.codeIn K cd8 "_law_ask" = true) (k8 : PySem.W.keepIn K (.ref f8) = true)
    (a9 : PySem.W.nsIn K mainGlobals "_law_list" = some (some (.ref f9)))
    (l9 : K.lookup f9 = some ⟨oc9, od9, .func (PySem.W.fnOf "_law_list" "_law_list" (defArgs (topS 25)) (defBody (topS 25)) (defScope (topS 25)) .none kV9 dc9 pm9 an9 cd9 ct9), sl9⟩) (c9 : PySem.W.codeIn K cd9 "_law_list" = true) (k9 : PySem.W.keepIn K (.ref f9) = true)
    (a10 : PySem.W.nsIn K mainGlobals "_law_refused" = some (some (.ref f10)))
    (l10 : K.lookup f10 = some ⟨oc10, od10, .func (PySem.W.fnOf "_law_refused" "_law_refused" (defArgs (topS 26)) (defBody (topS 26)) (defScope (topS 26)) .none kV10 dc10 pm10 an10 cd10 ct10), sl10⟩) (c10 : PySem.W.codeIn K cd10 "_law_refused" = true) (k10 : PySem.W.keepIn K (.ref f10) = true)
    (a11 : PySem.W.nsIn K mainGlobals "law" = some (some (.ref f11)))
    (l11 : K.lookup f11 = some ⟨oc11, od11, .func (PySem.W.fnOf "law" "law" (defArgs (topS 27)) (defBody (topS 27)) (defScope (topS 27)) .none kV11 dc11 pm11 an11 cd11 ct11), sl11⟩) (c11 : PySem.W.codeIn K cd11 "law" = true) (k11 : PySem.W.keepIn K (.ref f11) = true)
    (a12 : PySem.W.nsIn K mainGlobals "_law_cell_at" = some (some (.ref f12)))
    (l12 : K.lookup f12 = some ⟨oc12, od12, .func (PySem.W.fnOf "_law_cell_at" "_law_cell_at" (defArgs (topS 19)) (defBody (topS 19)) (defScope (topS 19)) .none kV12 dc12 pm12 an12 cd12 ct12), sl12⟩) (c12 : PySem.W.codeIn K cd12 "_law_cell_at" = true) (k12 : PySem.W.keepIn K (.ref f12) = true)
    (a13 : PySem.W.nsIn K mainGlobals "_law_mixed" = some (some (.ref f13)))
    (l13 : K.lookup f13 = some ⟨oc13, od13, .func (PySem.W.fnOf "_law_mixed" "_law_mixed" (defArgs (topS 20)) (defBody (topS 20)) (defScope (topS 20)) .none kV13 dc13 pm13 an13 cd13 ct13), sl13⟩) (c13 : PySem.W.codeIn K cd13 "_law_mixed" = true) (k13 : PySem.W.keepIn K (.ref f13) = true)
    (a14 : PySem.W.nsIn K mainGlobals "_law_which" = some (some (.ref f14)))
    (l14 : K.lookup f14 = some ⟨oc14, od14, .func (PySem.W.fnOf "_law_which" "_law_which" (defArgs (topS 23)) (defBody (topS 23)) (defScope (topS 23)) .none kV14 dc14 pm14 an14 cd14 ct14), sl14⟩) (c14 : PySem.W.codeIn K cd14 "_law_which" = true) (k14 : PySem.W.keepIn K (.ref f14) = true)
    (z_ValueError : PySem.W.nsIn K mainGlobals "ValueError" = some none)
    (z_bool : PySem.W.nsIn K mainGlobals "bool" = some none)
    (z_int : PySem.W.nsIn K mainGlobals "int" = some none)
    (z_isinstance : PySem.W.nsIn K mainGlobals "isinstance" = some none)
    (z_len : PySem.W.nsIn K mainGlobals "len" = some none)
    (z_max : PySem.W.nsIn K mainGlobals "max" = some none)
    (z_min : PySem.W.nsIn K mainGlobals "min" = some none)
    (z_range : PySem.W.nsIn K mainGlobals "range" = some none)
    (z_sorted : PySem.W.nsIn K mainGlobals "sorted" = some none)
    (xg0 : PySem.W.nsIn K mainGlobals "InvalidGrid" = some (some (.ref x0))) (xx0 : PySem.W.excIn K x0 [.type "ValueError", .type "Exception", .type "BaseException", .type "object"] "ValueError.__new__" = true) (xk0 : PySem.W.keepIn K (.ref x0) = true) (xb0 : PySem.W.subIn K (.ref x0) (.type "BaseException") = some true) (xt0 : PySem.W.typeIn K (.ref x0) = some (.type "type"))
    (xg1 : PySem.W.nsIn K mainGlobals "InvalidMirror" = some (some (.ref x1))) (xx1 : PySem.W.excIn K x1 [.type "ValueError", .type "Exception", .type "BaseException", .type "object"] "ValueError.__new__" = true) (xk1 : PySem.W.keepIn K (.ref x1) = true) (xb1 : PySem.W.subIn K (.ref x1) (.type "BaseException") = some true) (xt1 : PySem.W.typeIn K (.ref x1) = some (.type "type"))
    (xg2 : PySem.W.nsIn K mainGlobals "InvalidSet" = some (some (.ref x2))) (xx2 : PySem.W.excIn K x2 [.type "ValueError", .type "Exception", .type "BaseException", .type "object"] "ValueError.__new__" = true) (xk2 : PySem.W.keepIn K (.ref x2) = true) (xb2 : PySem.W.subIn K (.ref x2) (.type "BaseException") = some true) (xt2 : PySem.W.typeIn K (.ref x2) = some (.type "type"))
    (xg3 : PySem.W.nsIn K mainGlobals "InvalidPlace" = some (some (.ref x3))) (xx3 : PySem.W.excIn K x3 [.type "ValueError", .type "Exception", .type "BaseException", .type "object"] "ValueError.__new__" = true) (xk3 : PySem.W.keepIn K (.ref x3) = true) (xb3 : PySem.W.subIn K (.ref x3) (.type "BaseException") = some true) (xt3 : PySem.W.typeIn K (.ref x3) = some (.type "type"))
    (xg4 : PySem.W.nsIn K mainGlobals "InvalidNumber" = some (some (.ref x4))) (xx4 : PySem.W.excIn K x4 [.type "ValueError", .type "Exception", .type "BaseException", .type "object"] "ValueError.__new__" = true) (xk4 : PySem.W.keepIn K (.ref x4) = true) (xb4 : PySem.W.subIn K (.ref x4) (.type "BaseException") = some true) (xt4 : PySem.W.typeIn K (.ref x4) = some (.type "type"))
    (xg5 : PySem.W.nsIn K mainGlobals "InvalidPicture" = some (some (.ref x5))) (xx5 : PySem.W.excIn K x5 [.type "ValueError", .type "Exception", .type "BaseException", .type "object"] "ValueError.__new__" = true) (xk5 : PySem.W.keepIn K (.ref x5) = true) (xb5 : PySem.W.subIn K (.ref x5) (.type "BaseException") = some true) (xt5 : PySem.W.typeIn K (.ref x5) = some (.type "type"))
    (xg6 : PySem.W.nsIn K mainGlobals "NothingToUndo" = some (some (.ref x6))) (xx6 : PySem.W.excIn K x6 [.type "ValueError", .type "Exception", .type "BaseException", .type "object"] "ValueError.__new__" = true) (xk6 : PySem.W.keepIn K (.ref x6) = true) (xb6 : PySem.W.subIn K (.ref x6) (.type "BaseException") = some true) (xt6 : PySem.W.typeIn K (.ref x6) = some (.type "type"))
    (xg7 : PySem.W.nsIn K mainGlobals "ParseError" = some (some (.ref x7))) (xx7 : PySem.W.excIn K x7 [.type "ValueError", .type "Exception", .type "BaseException", .type "object"] "ValueError.__new__" = true) (xk7 : PySem.W.keepIn K (.ref x7) = true) (xb7 : PySem.W.subIn K (.ref x7) (.type "BaseException") = some true) (xt7 : PySem.W.typeIn K (.ref x7) = some (.type "type"))
    (gme : PySem.W.nsIn K mainGlobals "MirrorError" = some (some (.ref me)))
    (eB : ExB K me)
    (xnd : [x0, x1, x2, x3, x4, x5, x6, x7].Nodup)
    (e0 : ExF K me 0 x0 x0 x1 x2 x3 x4 x5 x6 x7)
    (e1 : ExF K me 1 x1 x0 x1 x2 x3 x4 x5 x6 x7)
    (e2 : ExF K me 2 x2 x0 x1 x2 x3 x4 x5 x6 x7)
    (e3 : ExF K me 3 x3 x0 x1 x2 x3 x4 x5 x6 x7)
    (e4 : ExF K me 4 x4 x0 x1 x2 x3 x4 x5 x6 x7)
    (e5 : ExF K me 5 x5 x0 x1 x2 x3 x4 x5 x6 x7)
    (e6 : ExF K me 6 x6 x0 x1 x2 x3 x4 x5 x6 x7)
    (e7 : ExF K me 7 x7 x0 x1 x2 x3 x4 x5 x6 x7) :
    ∃ fd : FuncData, (∀ (s : Shared) (v : Value), BindsTo s fd ⟨[v], []⟩ [("script", v)]) ∧ ∀ base : Heap, K.In base → base.Ns mainGlobals mg → FnOk l.prog w K mg base (L2N.CX l.prog w) (lev (D + 1)) fa fd ["script"] (spTop K) := by
  have e : f11 = fa := by
    have z := (PySem.W.mg_of X G a11).symm.trans hfa
    injection z with z
    injection z
  subst e
  have F0 := fun_mk (st := (topS 11)) l0 c0 k0
  have b0 := F0.binds (ps := ["value", "low", "high"]) fun _ _ _ _ _ _ us hl => match us, hl with | [_, _, _], _ => rfl
  have F1 := fun_mk (st := (topS 12)) l1 c1 k1
  have b1 := F1.binds (ps := ["k", "low", "high"]) fun _ _ _ _ _ _ us hl => match us, hl with | [_, _, _], _ => rfl
  have F2 := fun_mk (st := (topS 14)) l2 c2 k2
  have b2 := F2.binds (ps := ["a", "b", "some"]) fun _ _ _ _ _ _ us hl => match us, hl with | [_, _, _], _ => rfl
  have F3 := fun_mk (st := (topS 15)) l3 c3 k3
  have b3 := F3.binds (ps := ["a", "b", "x", "low", "high"]) fun _ _ _ _ _ _ us hl => match us, hl with | [_, _, _, _, _], _ => rfl
  have F4 := fun_mk (st := (topS 16)) l4 c4 k4
  have b4 := F4.binds (ps := ["a", "b", "x"]) fun _ _ _ _ _ _ us hl => match us, hl with | [_, _, _], _ => rfl
  have F5 := fun_mk (st := (topS 17)) l5 c5 k5
  have b5 := F5.binds (ps := ["a", "b", "x"]) fun _ _ _ _ _ _ us hl => match us, hl with | [_, _, _], _ => rfl
  have F6 := fun_mk (st := (topS 21)) l6 c6 k6
  have b6 := F6.binds (ps := ["script", "town", "many"]) fun _ _ _ _ _ _ us hl => match us, hl with | [_, _, _], _ => rfl
  have F7 := fun_mk (st := (topS 22)) l7 c7 k7
  have b7 := F7.binds (ps := ["got", "due"]) fun _ _ _ _ _ _ us hl => match us, hl with | [_, _], _ => rfl
  have F8 := fun_mk (st := (topS 24)) l8 c8 k8
  have b8 := F8.binds (ps := ["what", "a", "b", "x"]) fun _ _ _ _ _ _ us hl => match us, hl with | [_, _, _, _], _ => rfl
  have F9 := fun_mk (st := (topS 25)) l9 c9 k9
  have b9 := F9.binds (ps := ["a", "b", "x", "low", "high"]) fun _ _ _ _ _ _ us hl => match us, hl with | [_, _, _, _, _], _ => rfl
  have F10 := fun_mk (st := (topS 26)) l10 c10 k10
  have b10 := F10.binds (ps := ["a", "b", "x", "low", "high"]) fun _ _ _ _ _ _ us hl => match us, hl with | [_, _, _, _, _], _ => rfl
  have F11 := fun_mk (st := (topS 27)) l11 c11 k11
  have b11 := F11.binds (ps := ["script"]) fun _ _ _ _ _ _ us hl => match us, hl with | [_], _ => rfl
  have F12 := fun_mk (st := (topS 19)) l12 c12 k12
  have b12 := F12.binds (ps := ["script", "k"]) fun _ _ _ _ _ _ us hl => match us, hl with | [_, _], _ => rfl
  have F13 := fun_mk (st := (topS 20)) l13 c13 k13
  have b13 := F13.binds (ps := ["script", "k", "many"]) fun _ _ _ _ _ _ us hl => match us, hl with | [_, _, _], _ => rfl
  have F14 := fun_mk (st := (topS 23)) l14 c14 k14
  have b14 := F14.binds (ps := ["e"]) fun _ _ _ _ _ _ us hl => match us, hl with | [_], _ => rfl
  refine ⟨PySem.W.fnOf "law" "law" (defArgs (topS 27)) (defBody (topS 27)) (defScope (topS 27)) .none kV11 dc11 pm11 an11 cd11 ct11, fun s v => .of_eq rfl, fun base _ _ => top_ok (T := tab) (i := 74) (D := D + 1) (fa := fun i => [f11, f11, f11, f11, f11, f11, f11, f11, f11, f11, f11, f0, f11, f11, f11, f11, f11, f11, f11, f1, f11, f11, f11, f11, f11, f11, f11, f11, f11, f11, f11, f11, f11, f11, f11, f11, f11, f11, f11, f11, f11, f2, f3, f4, f5, f11, f11, f11, f11, f6, f11, f11, f11, f11, f11, f11, f11, f7, f11, f11, f11, f11, f11, f11, f11, f11, f11, f11, f11, f11, f11, f8, f9, f10, f11].getD i f11) (xa := fun i => [x0, x1, x2, x3, x4, x5, x6, x7].getD i f11) (va := f11) hs fun sa ns => ?_⟩
  have t : Tx K mg ⟨K, fun i => [f11, f11, f11, f11, f11, f11, f11, f11, f11, f11, f11, f0, f11, f11, f11, f11, f11, f11, f11, f1, f11, f11, f11, f11, f11, f11, f11, f11, f11, f11, f11, f11, f11, f11, f11, f11, f11, f11, f11, f11, f11, f2, f3, f4, f5, f11, f11, f11, f11, f6, f11, f11, f11, f11, f11, f11, f11, f7, f11, f11, f11, f11, f11, f11, f11, f11, f11, f11, f11, f11, f11, f8, f9, f10, f11].getD i f11, fun i => [x0, x1, x2, x3, x4, x5, x6, x7].getD i f11, sa, ns, f11, l.prog, w⟩ := { ValueError := PySem.W.mg_none_of X G z_ValueError, bool := PySem.W.mg_none_of X G z_bool, int := PySem.W.mg_none_of X G z_int, isinstance := PySem.W.mg_none_of X G z_isinstance, len := PySem.W.mg_none_of X G z_len, max := PySem.W.mg_none_of X G z_max, min := PySem.W.mg_none_of X G z_min, range := PySem.W.mg_none_of X G z_range, sorted := PySem.W.mg_none_of X G z_sorted, f__law_ask := PySem.W.mg_of X G a8, f__law_draw := PySem.W.mg_of X G a6, f__law_list := PySem.W.mg_of X G a9, f__law_refused := PySem.W.mg_of X G a10, f__law_same_number := PySem.W.mg_of X G a7, f_check_line := PySem.W.mg_of X G a2, f_check_number := PySem.W.mg_of X G a1, f_inner_image := PySem.W.mg_of X G a4, f_is_integer := PySem.W.mg_of X G a0, f_line_depth := PySem.W.mg_of X G a5, f_line_images := PySem.W.mg_of X G a3, x_0 := ⟨PySem.W.mg_of X G xg0, xx0, xk0, xb0, xt0⟩, x_1 := ⟨PySem.W.mg_of X G xg1, xx1, xk1, xb1, xt1⟩, x_2 := ⟨PySem.W.mg_of X G xg2, xx2, xk2, xb2, xt2⟩, x_3 := ⟨PySem.W.mg_of X G xg3, xx3, xk3, xb3, xt3⟩, x_4 := ⟨PySem.W.mg_of X G xg4, xx4, xk4, xb4, xt4⟩, x_5 := ⟨PySem.W.mg_of X G xg5, xx5, xk5, xb5, xt5⟩, x_6 := ⟨PySem.W.mg_of X G xg6, xx6, xk6, xb6, xt6⟩, x_7 := ⟨PySem.W.mg_of X G xg7, xx7, xk7, xb7, xt7⟩ }
  have wh : Wh K mg ⟨K, fun i => [f11, f11, f11, f11, f11, f11, f11, f11, f11, f11, f11, f0, f11, f11, f11, f11, f11, f11, f11, f1, f11, f11, f11, f11, f11, f11, f11, f11, f11, f11, f11, f11, f11, f11, f11, f11, f11, f11, f11, f11, f11, f2, f3, f4, f5, f11, f11, f11, f11, f6, f11, f11, f11, f11, f11, f11, f11, f7, f11, f11, f11, f11, f11, f11, f11, f11, f11, f11, f11, f11, f11, f8, f9, f10, f11].getD i f11, fun i => [x0, x1, x2, x3, x4, x5, x6, x7].getD i f11, sa, ns, f11, l.prog, w⟩ me := wh_mk (f := f11) rfl xnd (PySem.W.mg_of X G xg0) (PySem.W.mg_of X G xg1) (PySem.W.mg_of X G xg2) (PySem.W.mg_of X G xg3) (PySem.W.mg_of X G xg4) (PySem.W.mg_of X G xg5) (PySem.W.mg_of X G xg6) (PySem.W.mg_of X G xg7) (PySem.W.mg_of X G gme) (PySem.W.mg_none_of X G z_ValueError) (PySem.W.mg_none_of X G z_isinstance) eB xt0 xt1 xt2 xt3 xt4 xt5 xt6 xt7 xb0 xb1 xb2 xb3 xb4 xb5 xb6 xb7 e0 e1 e2 e3 e4 e5 e6 e7
  have tw : TryOk l.prog w K mg base ⟨K, fun i => [f11, f11, f11, f11, f11, f11, f11, f11, f11, f11, f11, f0, f11, f11, f11, f11, f11, f11, f11, f1, f11, f11, f11, f11, f11, f11, f11, f11, f11, f11, f11, f11, f11, f11, f11, f11, f11, f11, f11, f11, f11, f2, f3, f4, f5, f11, f11, f11, f11, f6, f11, f11, f11, f11, f11, f11, f11, f7, f11, f11, f11, f11, f11, f11, f11, f11, f11, f11, f11, f11, f11, f8, f9, f10, f11].getD i f11, fun i => [x0, x1, x2, x3, x4, x5, x6, x7].getD i f11, sa, ns, f11, l.prog, w⟩ := ⟨me, f14, _, wh, which_ok F14 wh, PySem.W.mg_of X G a14, k14, b14⟩
  have T := tabs (P := l.prog) (w := w) (K := K) (base := base) (W := ⟨K, fun i => [f11, f11, f11, f11, f11, f11, f11, f11, f11, f11, f11, f0, f11, f11, f11, f11, f11, f11, f11, f1, f11, f11, f11, f11, f11, f11, f11, f11, f11, f11, f11, f11, f11, f11, f11, f11, f11, f11, f11, f11, f11, f2, f3, f4, f5, f11, f11, f11, f11, f6, f11, f11, f11, f11, f11, f11, f11, f7, f11, f11, f11, f11, f11, f11, f11, f11, f11, f11, f11, f11, f11, f8, f9, f10, f11].getD i f11, fun i => [x0, x1, x2, x3, x4, x5, x6, x7].getD i f11, sa, ns, f11, l.prog, w⟩) rfl rfl rfl t tw ⟨_, F0, b0⟩ ⟨_, F1, b1⟩ ⟨_, F2, b2⟩ ⟨_, F3, b3⟩ ⟨_, F4, b4⟩ ⟨_, F5, b5⟩ ⟨_, F6, b6⟩ ⟨_, F7, b7⟩ ⟨_, F8, b8⟩ ⟨_, F9, b9⟩ ⟨_, F10, b10⟩ ⟨_, F11, b11⟩ F12 b12 (PySem.W.mg_of X G a12) k12 F13 b13 (PySem.W.mg_of X G a13) k13 (fun i => match i with | 0 => k11 | 1 => k11 | 2 => k11 | 3 => k11 | 4 => k11 | 5 => k11 | 6 => k11 | 7 => k11 | 8 => k11 | 9 => k11 | 10 => k11 | 11 => k0 | 12 => k11 | 13 => k11 | 14 => k11 | 15 => k11 | 16 => k11 | 17 => k11 | 18 => k11 | 19 => k1 | 20 => k11 | 21 => k11 | 22 => k11 | 23 => k11 | 24 => k11 | 25 => k11 | 26 => k11 | 27 => k11 | 28 => k11 | 29 => k11 | 30 => k11 | 31 => k11 | 32 => k11 | 33 => k11 | 34 => k11 | 35 => k11 | 36 => k11 | 37 => k11 | 38 => k11 | 39 => k11 | 40 => k11 | 41 => k2 | 42 => k3 | 43 => k4 | 44 => k5 | 45 => k11 | 46 => k11 | 47 => k11 | 48 => k11 | 49 => k6 | 50 => k11 | 51 => k11 | 52 => k11 | 53 => k11 | 54 => k11 | 55 => k11 | 56 => k11 | 57 => k7 | 58 => k11 | 59 => k11 | 60 => k11 | 61 => k11 | 62 => k11 | 63 => k11 | 64 => k11 | 65 => k11 | 66 => k11 | 67 => k11 | 68 => k11 | 69 => k11 | 70 => k11 | 71 => k8 | 72 => k9 | 73 => k10 | 74 => k11 | n + 75 => k11) D
  exact ok_law F11 t rfl rfl T
end L
section
namespace L
open G
variable {T : List Fd} {dr : Nat → Int → Int} {d : Nat} {st : Sto}
abbrev sq : Val := .str [115, 113, 117, 97, 114, 101]
abbrev tri : Val := .str [116, 114, 105, 97, 110, 103, 108, 101]
def gv (g : Bool) : Val := match g with | true => sq | false => tri
def mn (g : Bool) : Nat := match g with | true => 4 | false => 6
def pv (p : Int × Int) : Val := .tup [.int p.1, .int p.2]
/-- seen in mirror m -/
def led (g : Bool) (m : Nat) (p : Int × Int) : Int × Int := match g with
  | true => match m with
    | 0 => (p.1, -p.2)
    | 1 => (p.2, p.1)
    | 2 => (-p.1, p.2)
    | _ => (-p.2, -p.1)
  | false => match m with
    | 0 => (p.1 + p.2, -p.2)
    | 1 => (p.2, p.1)
    | 2 => (-p.1, p.1 + p.2)
    | 3 => (-p.1 - p.2, p.2)
    | 4 => (-p.2, -p.1)
    | _ => (p.1, -p.1 - p.2)
def one (g : Bool) (p : Int × Int) : Int × Int := match g with
  | true => (-p.2, p.1)
  | false => (-p.2, p.1 + p.2)
/-- turned n times -/
def tur (g : Bool) : Nat → Int × Int → Int × Int
  | 0, p => p
  | n + 1, p => one g (tur g n p)
def In9 (p : Int × Int) : Prop := -9 ≤ p.1 ∧ p.1 ≤ 9 ∧ -9 ≤ p.2 ∧ p.2 ≤ 9
theorem r_is_integer {v lo hi : Int} (h1 : lo ≤ v) (h2 : v ≤ hi) (h11 : T[11]? = some ir_is_integer := by first | assumption | rfl) : run T dr (d + 1) 11 [.int v, .int lo, .int hi] st = .ok (.bl true) st := by
  rw [run_df (by assumption) rfl]
  simp [b_is_integer, ex, ev, start, fin, Rs.bind, Rs.run, biV, isiV, ob, cmpV, ile_eq, h1, h2]
theorem r_is_place {p : Int × Int} (h : In9 p) (h12 : T[12]? = some ir_is_place := by first | assumption | rfl) (h11 : T[11]? = some ir_is_integer := by first | assumption | rfl) : run T dr (d + 2) 12 [pv p] st = .ok (.bl true) st := by
  rw [run_df (by assumption) rfl]
  obtain ⟨h1, h2, h3, h4⟩ := h
  have n1 := r_is_integer (T := T) (dr := dr) (d := d) (st := []) h1 h2
  have n2 := r_is_integer (T := T) (dr := dr) (d := d) (st := []) h3 h4
  simp [b_is_place, pv, ex, ev, start, fin, Rs.bind, Rs.run, biV, isiV, ob, cmpV, eqS_int, srcOf, wipeE, lcI, Src.get, asg, callV, pureL, pureV_int, frzD_bl, n1, n2, lineN, items, allB]
theorem pure_pv (p : Int × Int) : pureV (pv p) = true := rfl
theorem frzD_pv (p : Int × Int) : frzD st (pv p) = some (pv p) := rfl
theorem r_check_place {p : Int × Int} (h : In9 p) (h14 : T[14]? = some ir_check_place := by first | assumption | rfl) (h12 : T[12]? = some ir_is_place := by first | assumption | rfl) (h11 : T[11]? = some ir_is_integer := by first | assumption | rfl) : run T dr (d + 3) 14 [pv p] st = .ok .non st := by
  rw [run_df (by assumption) rfl]
  have n := r_is_place (T := T) (dr := dr) (d := d) (st := []) h
  simp [b_check_place, ex, ev, start, fin, Rs.bind, Rs.run, callV, pureL, pure_pv, frzD_bl, n]
theorem r_check_grid (g : Bool) (h13 : T[13]? = some ir_check_grid := by first | assumption | rfl) : run T dr (d + 1) 13 [gv g] st = .ok .non st := by
  rw [run_df (by assumption) rfl]
  cases g <;> rfl
theorem pure_gv (g : Bool) : pureV (gv g) = true := by cases g <;> rfl
theorem r_count (g : Bool) (h3 : T[3]? = some ir_count_mirrors := by first | assumption | rfl) : run T dr (d + 1) 3 [gv g] st = .ok (.int (mn g)) st := by
  rw [run_df (by assumption) rfl]
  cases g <;> rfl
theorem r_check_mirror (g : Bool) {m : Nat} (h : m < mn g) (h17 : T[17]? = some ir_check_mirror := by first | assumption | rfl) (h11 : T[11]? = some ir_is_integer := by first | assumption | rfl) (h3 : T[3]? = some ir_count_mirrors := by first | assumption | rfl) : run T dr (d + 2) 17 [gv g, .int m] st = .ok .non st := by
  rw [run_df (by assumption) rfl]
  have n1 := r_count (T := T) (dr := dr) (d := d) (st := []) g
  have n2 := r_is_integer (T := T) (dr := dr) (d := d) (st := []) (v := m) (lo := 0) (hi := mn g - 1) (by omega) (by omega)
  simp [b_check_mirror, ex, ev, start, fin, Rs.bind, Rs.run, callV, pureL, pure_gv, pureV_int, frzD_int, frzD_bl, binV, n1, n2]
theorem r_led (g : Bool) {m : Nat} (h : m < mn g) (p : Int × Int) (h0 : T[0]? = some ir_led_by := by first | assumption | rfl) : run T dr (d + 1) 0 [gv g, .int m, pv p] st = .ok (pv (led g m p)) st := by
  obtain ⟨x, y⟩ := p
  have z : ∀ a : Int, 0 - a = -a := fun a => by omega
  cases g with
  | true =>
    have : m = 0 ∨ m = 1 ∨ m = 2 ∨ m = 3 := by simp only [mn] at h; omega
    rcases this with rfl | rfl | rfl | rfl <;> simp only [led, ← z] <;> rw [run_df (by assumption) rfl] <;> rfl
  | false =>
    have : m = 0 ∨ m = 1 ∨ m = 2 ∨ m = 3 ∨ m = 4 ∨ m = 5 := by simp only [mn] at h; omega
    rcases this with rfl | rfl | rfl | rfl | rfl | rfl <;> simp only [led, ← z] <;> rw [run_df (by assumption) rfl] <;> rfl
theorem r_seen (g : Bool) {m : Nat} (h : m < mn g) (p : Int × Int) (h54 : T[54]? = some ir__law_seen_in := by first | assumption | rfl) : run T dr (d + 1) 54 [gv g, .int m, pv p] st = .ok (pv (led g m p)) st := by
  obtain ⟨x, y⟩ := p
  have e1 : ∀ st, eqS st sq sq = some true := fun _ => rfl
  have e2 : ∀ st, eqS st tri sq = some false := fun _ => rfl
  rw [run_df (by assumption) rfl]
  cases g with
  | true =>
    have : m = 0 ∨ m = 1 ∨ m = 2 ∨ m = 3 := by simp only [mn] at h; omega
    rcases this with rfl | rfl | rfl | rfl <;> simp [b__law_seen_in, gv, pv, led, ex, ev, start, fin, Rs.bind, Rs.run, cmpV, ob, e1, e2, asg, setL, binV, bigI, ilt_eq, rngV, smallI, upto, srcOf, forI, Src.get, eqS_int]
  | false =>
    have : m = 0 ∨ m = 1 ∨ m = 2 ∨ m = 3 ∨ m = 4 ∨ m = 5 := by simp only [mn] at h; omega
    rcases this with rfl | rfl | rfl | rfl | rfl | rfl <;> simp [b__law_seen_in, gv, pv, led, ex, ev, start, fin, Rs.bind, Rs.run, cmpV, ob, e1, e2, asg, setL, binV, bigI, ilt_eq, rngV, smallI, upto, srcOf, forI, Src.get, eqS_int] <;> omega
theorem r_reflect (g : Bool) {m : Nat} (h : m < mn g) {p : Int × Int} (hp : In9 p) (h20 : T[20]? = some ir_reflect := by first | assumption | rfl) (h13 : T[13]? = some ir_check_grid := by first | assumption | rfl) (h17 : T[17]? = some ir_check_mirror := by first | assumption | rfl) (h14 : T[14]? = some ir_check_place := by first | assumption | rfl) (h12 : T[12]? = some ir_is_place := by first | assumption | rfl) (h11 : T[11]? = some ir_is_integer := by first | assumption | rfl) (h3 : T[3]? = some ir_count_mirrors := by first | assumption | rfl) (h0 : T[0]? = some ir_led_by := by first | assumption | rfl) : run T dr (d + 4) 20 [gv g, .int m, pv p] st = .ok (pv (led g m p)) st := by
  rw [run_df (by assumption) rfl]
  have n1 := r_check_grid (T := T) (dr := dr) (d := d + 2) (st := []) g
  have n2 := r_check_mirror (T := T) (dr := dr) (d := d + 1) (st := []) g h
  have n3 := r_check_place (T := T) (dr := dr) (d := d) (st := []) hp
  have n4 := r_led (T := T) (dr := dr) (d := d + 2) (st := []) g h p
  simp [b_reflect, ex, ev, start, fin, Rs.bind, Rs.run, callV, pureL, pure_pv, pure_gv, pureV_int, frzD_non, frzD_pv, n1, n2, n3, n4]
theorem r_turned (g : Bool) {k : Int} {j : Nat} (hk : k % (mn g : Nat) = j) (p : Int × Int) (h18 : T[18]? = some ir_turned_by := by first | assumption | rfl) (h3 : T[3]? = some ir_count_mirrors := by first | assumption | rfl) : run T dr (d + 2) 18 [gv g, .int k, pv p] st = .ok (pv (tur g j p)) st := by
  obtain ⟨x, y⟩ := p
  have e1 : ∀ st, eqS st sq sq = some true := fun _ => rfl
  have e2 : ∀ st, eqS st tri sq = some false := fun _ => rfl
  have c := r_count (T := T) (dr := dr) (d := d) (st := []) g
  rw [run_df (by assumption) rfl]
  cases g with
  | true =>
    simp only [mn, gv] at hk c
    have hk : k % 4 = j := hk
    have : j = 0 ∨ j = 1 ∨ j = 2 ∨ j = 3 := by omega
    have pq := pure_gv true
    simp only [gv] at pq
    rcases this with rfl | rfl | rfl | rfl <;> simp [b_turned_by, gv, pv, tur, one, ex, ev, start, fin, Rs.bind, Rs.run, cmpV, ob, e1, e2, asg, setL, binV, bigI, ilt_eq, rngV, smallI, upto, srcOf, forI, Src.get, eqS_int, callV, pureL, pq, c, hk, frzD_int]
  | false =>
    simp only [mn, gv] at hk c
    have hk : k % 6 = j := hk
    have : j = 0 ∨ j = 1 ∨ j = 2 ∨ j = 3 ∨ j = 4 ∨ j = 5 := by omega
    have pq := pure_gv false
    simp only [gv] at pq
    rcases this with rfl | rfl | rfl | rfl | rfl | rfl <;> simp [b_turned_by, gv, pv, tur, one, ex, ev, start, fin, Rs.bind, Rs.run, cmpV, ob, e1, e2, asg, setL, binV, bigI, ilt_eq, rngV, smallI, upto, srcOf, forI, Src.get, eqS_int, callV, pureL, pq, c, hk, frzD_int]
theorem r_check_number {v lo hi : Int} (h1 : lo ≤ v) (h2 : v ≤ hi) (h19 : T[19]? = some ir_check_number := by first | assumption | rfl) (h11 : T[11]? = some ir_is_integer := by first | assumption | rfl) : run T dr (d + 2) 19 [.int v, .int lo, .int hi] st = .ok .non st := by
  rw [run_df (by assumption) rfl]
  simp [b_check_number, ex, ev, start, fin, Rs.bind, Rs.run, callV, pureL, pureV_int, frzD_bl, r_is_integer h1 h2]
theorem r_turn (g : Bool) {k : Int} (h1 : -99 ≤ k) (h2 : k ≤ 99) {j : Nat} (hk : k % (mn g : Nat) = j) {p : Int × Int} (hp : In9 p) (h21 : T[21]? = some ir_turn := by first | assumption | rfl) (h13 : T[13]? = some ir_check_grid := by first | assumption | rfl) (h19 : T[19]? = some ir_check_number := by first | assumption | rfl) (h14 : T[14]? = some ir_check_place := by first | assumption | rfl) (h12 : T[12]? = some ir_is_place := by first | assumption | rfl) (h11 : T[11]? = some ir_is_integer := by first | assumption | rfl) (h18 : T[18]? = some ir_turned_by := by first | assumption | rfl) (h3 : T[3]? = some ir_count_mirrors := by first | assumption | rfl) : run T dr (d + 4) 21 [gv g, .int k, pv p] st = .ok (pv (tur g j p)) st := by
  rw [run_df (by assumption) rfl]
  have n1 := r_check_grid (T := T) (dr := dr) (d := d + 2) (st := []) g
  have n2 := r_check_number (T := T) (dr := dr) (d := d + 1) (st := []) h1 h2
  have n3 := r_check_place (T := T) (dr := dr) (d := d) (st := []) hp
  have n4 := r_turned (T := T) (dr := dr) (d := d + 1) (st := []) g hk p
  simp [b_turn, ex, ev, start, fin, Rs.bind, Rs.run, callV, pureL, pure_pv, pure_gv, pureV_int, frzD_non, frzD_pv, n1, n2, n3, n4]
/-- the state of the loop: led or turned by n -/
def F (g o : Bool) (n : Nat) (p : Int × Int) : Int × Int := match o with | true => led g n p | false => tur g n p
theorem six {n : Nat} (h : n < 6) : n = 0 ∨ n = 1 ∨ n = 2 ∨ n = 3 ∨ n = 4 ∨ n = 5 := by omega
theorem F_led (g o : Bool) {m n : Nat} (hm : m < mn g) (hn : n < mn g) (p : Int × Int) : led g m (F g o n p) = F g (!o) ((m + mn g - n) % mn g) p := by
  obtain ⟨x, y⟩ := p
  have hm6 : m < 6 := by cases g <;> simp only [mn] at hm <;> omega
  have hn6 : n < 6 := by cases g <;> simp only [mn] at hn <;> omega
  rcases six hm6 with rfl | rfl | rfl | rfl | rfl | rfl <;> rcases six hn6 with rfl | rfl | rfl | rfl | rfl | rfl <;> cases g <;> first
    | (exact absurd hm (by decide))
    | (exact absurd hn (by decide))
    | (cases o <;> simp [F, led, tur, one, mn] <;> omega)
theorem F_tur (g o : Bool) {j n : Nat} (hj : j < mn g) (hn : n < mn g) (p : Int × Int) : tur g j (F g o n p) = F g o ((n + j) % mn g) p := by
  obtain ⟨x, y⟩ := p
  have hj6 : j < 6 := by cases g <;> simp only [mn] at hj <;> omega
  have hn6 : n < 6 := by cases g <;> simp only [mn] at hn <;> omega
  rcases six hj6 with rfl | rfl | rfl | rfl | rfl | rfl <;> rcases six hn6 with rfl | rfl | rfl | rfl | rfl | rfl <;> cases g <;> first
    | (exact absurd hj (by decide))
    | (exact absurd hn (by decide))
    | (cases o <;> simp [F, led, tur, one, mn] <;> omega)
theorem F_in (g o : Bool) {n : Nat} (hn : n < mn g) {p : Int × Int} (h1 : -3 ≤ p.1 ∧ p.1 ≤ 3) (h2 : -3 ≤ p.2 ∧ p.2 ≤ 3) : In9 (F g o n p) := by
  obtain ⟨x, y⟩ := p
  simp only at h1 h2
  have hn6 : n < 6 := by cases g <;> simp only [mn] at hn <;> omega
  rcases six hn6 with rfl | rfl | rfl | rfl | rfl | rfl <;> cases g <;> cases o <;> simp only [F, led, tur, one, In9] <;> omega
end L

end

section
/-! What is drawn. -/
namespace L
open G
variable {T : List Fd} {dr : Nat → Int → Int} {d n : Nat} {st : Sto}
theorem r_pick2 {a b : Val} (hf : Fair dr) (hn : n ≤ 900) (h49 : T[49]? = some .draw := by first | assumption | rfl) (h50 : T[50]? = some ir__law_pick := by first | assumption | rfl) :
    run T dr (d + 2) 50 [.scr, .ref 0, .tl [a, b]] (tw n) = .ok (if dr (n + 1) 2 = 0 then a else b) (tw (n + 1)) := by
  rw [run_df h50 rfl]
  have h := r_drw (dr := dr) (d := d) h49 (n := n) (m := 2) (by decide) (by decide) (by omega)
  obtain ⟨h0, h1⟩ := hf (n + 1) 2 (by decide)
  have : dr (n + 1) 2 = 0 ∨ dr (n + 1) 2 = 1 := by omega
  rcases this with e | e <;> rw [e] at h <;> simp [b__law_pick, ex, ev, start, fin, Rs.bind, Rs.run, callV_scr, biV, subV, itemV, ixn, h, e] <;> rfl
theorem r_grid (hf : Fair dr) (hn : n ≤ 900) (h49 : T[49]? = some .draw := by first | assumption | rfl) (h50 : T[50]? = some ir__law_pick := by first | assumption | rfl) (h51 : T[51]? = some ir__law_some_grid := by first | assumption | rfl) :
    ∃ g, run T dr (d + 3) 51 [.scr, .ref 0] (tw n) = .ok (gv g) (tw (n + 1)) := by
  refine ⟨decide (dr (n + 1) 2 = 0), ?_⟩
  rw [run_df h51 rfl]
  have h := r_pick2 (T := T) (dr := dr) (d := d) (n := n) (a := sq) (b := tri) hf hn
  have e : gv (decide (dr (n + 1) 2 = 0)) = (if dr (n + 1) 2 = 0 then sq else tri) := by
    by_cases c : dr (n + 1) 2 = 0 <;> simp [c, gv]
  rw [e]
  simp [b__law_some_grid, ex, ev, start, fin, Rs.bind, Rs.run, callV_scr, h]
/-- the sets of mirrors that may be drawn -/
def sets (m : Nat) : List (List Int) := (List.range m).flatMap fun (a : Nat) => [(a : Int)] :: (List.range m).flatMap fun (b : Nat) => match Nat.blt a b with
  | true => [(a : Int), (b : Int)] :: (List.range m).flatMap fun (c : Nat) => match Nat.blt b c with
    | true => [[(a : Int), (b : Int), (c : Int)]]
    | false => []
  | false => []
theorem sets1 : ∀ a : Nat, a < 6 → sortI [(a : Int)] ∈ sets 6 := by decide +kernel
theorem sets2 : ∀ a : Nat, a < 6 → ∀ b : Nat, b < 6 → sortI [(a : Int), (b : Int)] ∈ sets 6 := by decide +kernel
theorem sets3 : ∀ a : Nat, a < 6 → ∀ b : Nat, b < 6 → ∀ c : Nat, c < 6 → sortI [(a : Int), (b : Int), (c : Int)] ∈ sets 6 := by decide +kernel
theorem qets1 : ∀ a : Nat, a < 4 → sortI [(a : Int)] ∈ sets 4 := by decide +kernel
theorem qets2 : ∀ a : Nat, a < 4 → ∀ b : Nat, b < 4 → sortI [(a : Int), (b : Int)] ∈ sets 4 := by decide +kernel
theorem qets3 : ∀ a : Nat, a < 4 → ∀ b : Nat, b < 4 → ∀ c : Nat, c < 4 → sortI [(a : Int), (b : Int), (c : Int)] ∈ sets 4 := by decide +kernel
theorem in_sets (g : Bool) {l : List Int} (hl : l.length = 1 ∨ l.length = 2 ∨ l.length = 3) (h : ∀ x ∈ l, 0 ≤ x ∧ x < mn g) : sortI l ∈ sets (mn g) := by
  have nat : ∀ x ∈ l, ∃ k : Nat, x = k ∧ k < mn g := fun x hx => by
    obtain ⟨h0, h1⟩ := h x hx
    exact ⟨x.toNat, by omega, by omega⟩
  match l, hl, nat with
  | [x], _, nat =>
    obtain ⟨a, rfl, ha⟩ := nat x (by simp)
    cases g with
    | true => exact qets1 a ha
    | false => exact sets1 a ha
  | [x, y], _, nat =>
    obtain ⟨a, rfl, ha⟩ := nat x (by simp)
    obtain ⟨b, rfl, hb⟩ := nat y (by simp)
    cases g with
    | true => exact qets2 a ha b hb
    | false => exact sets2 a ha b hb
  | [x, y, z], _, nat =>
    obtain ⟨a, rfl, ha⟩ := nat x (by simp)
    obtain ⟨b, rfl, hb⟩ := nat y (by simp)
    obtain ⟨c, rfl, hc⟩ := nat z (by simp)
    cases g with
    | true => exact qets3 a ha b hb c hc
    | false => exact sets3 a ha b hb c hc
theorem many_at (g : Bool) : subV (.td false [sq, tri] [.int 4, .int 6]) (gv g) st = .ok (.int (mn g)) st := by cases g <;> rfl
theorem r_set (g : Bool) (hf : Fair dr) (hn : n ≤ 900) (h49 : T[49]? = some .draw := by first | assumption | rfl) (h52 : T[52]? = some ir__law_some_set := by first | assumption | rfl) :
    ∃ ms k, run T dr (d + 2) 52 [.scr, .ref 0, gv g] (tw n) = .ok (.tup (iL ms)) (tw k) ∧ k ≤ n + 4 ∧ ms ∈ sets (mn g) := by
  have hm : (0 : Int) < mn g := by cases g <;> decide
  have hm2 : (mn g : Int) < 1000 := by cases g <;> decide
  have h := r_drw (dr := dr) (d := d) h49 (n := n) (m := 3) (by decide) (by decide) (by omega)
  have D : ∀ k, k ≤ 1000 → run T dr (d + 1) 49 [.scr, .ref 0, .int (mn g)] (tw k) = .ok (.int (dr (k + 1) (mn g))) (tw (k + 1)) := fun k hk => r_drw h49 hm hm2 hk
  have F : ∀ k, 0 ≤ dr k (mn g) ∧ dr k (mn g) < mn g := fun k => hf k (mn g) hm
  have d1 := D (n + 1) (by omega)
  have d2 := D (n + 1 + 1) (by omega)
  have d3 := D (n + 1 + 1 + 1) (by omega)
  obtain ⟨h0, h1⟩ := hf (n + 1) 3 (by decide)
  have e : dr (n + 1) 3 = 0 ∨ dr (n + 1) 3 = 1 ∨ dr (n + 1) 3 = 2 := by omega
  have go : ∀ (l : List Int) (k : Nat), (l.length = 1 ∨ l.length = 2 ∨ l.length = 3) → (∀ x ∈ l, 0 ≤ x ∧ x < mn g) → k ≤ n + 4 → run T dr (d + 2) 52 [.scr, .ref 0, gv g] (tw n) = .ok (.tup (sortU (iL l))) (tw k) → ∃ ms k, run T dr (d + 2) 52 [.scr, .ref 0, gv g] (tw n) = .ok (.tup (iL ms)) (tw k) ∧ k ≤ n + 4 ∧ ms ∈ sets (mn g) := by
    intro l k hl hx hk hr
    rw [sortU_map] at hr
    exact ⟨_, k, hr, hk, in_sets g hl hx⟩
  rcases e with e | e | e
  · refine go [dr (n + 1 + 1) (mn g)] (n + 1 + 1) (.inl rfl) (by simp [F]) (by omega) ?_
    rw [run_df h52 rfl]
    rw [e] at h
    simp [b__law_some_set, ex, ev, start, fin, Rs.bind, Rs.run, callV_scr, many_at, binV, rngV, smallI, ilt_eq, upto, srcOf, wipeE, lcI, Src.get, asg, lineN, h, d1, biV, items, allInt, seqOf]
    rfl
  · refine go [dr (n + 1 + 1) (mn g), dr (n + 1 + 1 + 1) (mn g)] (n + 1 + 1 + 1) (.inr (.inl rfl)) (by simp [F]) (by omega) ?_
    rw [run_df h52 rfl]
    rw [e] at h
    simp [b__law_some_set, ex, ev, start, fin, Rs.bind, Rs.run, callV_scr, many_at, binV, rngV, smallI, ilt_eq, upto, srcOf, wipeE, lcI, Src.get, asg, lineN, h, d1, d2, biV, items, allInt, seqOf]
    rfl
  · refine go [dr (n + 1 + 1) (mn g), dr (n + 1 + 1 + 1) (mn g), dr (n + 1 + 1 + 1 + 1) (mn g)] (n + 1 + 1 + 1 + 1) (.inr (.inr rfl)) (by simp [F]) (by omega) ?_
    rw [run_df h52 rfl]
    rw [e] at h
    simp [b__law_some_set, ex, ev, start, fin, Rs.bind, Rs.run, callV_scr, many_at, binV, rngV, smallI, ilt_eq, upto, srcOf, wipeE, lcI, Src.get, asg, lineN, h, d1, d2, d3, biV, items, allInt, seqOf]
    rfl
theorem r_spot {m : Int} (hm : 0 < m) (hm2 : m < 400) (hf : Fair dr) (hn : n ≤ 900) (h49 : T[49]? = some .draw := by first | assumption | rfl) (h53 : T[53]? = some ir__law_some_spot := by first | assumption | rfl) :
    ∃ p : Int × Int, run T dr (d + 2) 53 [.scr, .ref 0, .int m] (tw n) = .ok (pv p) (tw (n + 2)) ∧ -m ≤ p.1 ∧ p.1 ≤ m ∧ -m ≤ p.2 ∧ p.2 ≤ m := by
  have d1 := r_drw (dr := dr) (d := d) h49 (n := n) (m := 2 * m + 1) (by omega) (by omega) (by omega)
  have d2 := r_drw (dr := dr) (d := d) h49 (n := n + 1) (m := 2 * m + 1) (by omega) (by omega) (by omega)
  obtain ⟨a0, a1⟩ := hf (n + 1) (2 * m + 1) (by omega)
  obtain ⟨b0, b1⟩ := hf (n + 1 + 1) (2 * m + 1) (by omega)
  refine ⟨(dr (n + 1) (2 * m + 1) - m, dr (n + 1 + 1) (2 * m + 1) - m), ?_, by simp only; omega, by simp only; omega, by simp only; omega, by simp only; omega⟩
  rw [run_df h53 rfl]
  simp [b__law_some_spot, ex, ev, start, fin, Rs.bind, Rs.run, callV_scr, binV, smallI, ilt_eq, pv, d1, d2]
section
variable {C : Calls} {env : G.Env} {b : S}
theorem ev_lc_tl {own : List Nat} {tg : Tg} {it c e : E} {xs : List Val} {st1 : Sto} (h : ev C it env st = .ok (.tl xs) st1) : ev C (.lc own tg it c e) env st = lcI tg (.fz xs) (ev C c) (ev C e) (wipeE env own) (xs.length + 1) 0 st1 [] := by
  simp only [ev, h, Rs.bind, srcOf]
theorem ev_lc_tup {own : List Nat} {tg : Tg} {it c e : E} {xs : List Val} {st1 : Sto} (h : ev C it env st = .ok (.tup xs) st1) : ev C (.lc own tg it c e) env st = lcI tg (.fz xs) (ev C c) (ev C e) (wipeE env own) (xs.length + 1) 0 st1 [] := by
  simp only [ev, h, Rs.bind, srcOf]
theorem expr_nx {e : E} {v : Val} {st1 : Sto} (h : ev C e env st = .ok v st1) : ex C (.seq (.expr e) b) env st = ex C b env st1 := by
  simp only [ex, h, Rs.run]
theorem par_nx {i j : Nat} {l : E} {x y : Val} {st1 : Sto} (h : ev C l env st = .ok (.tup [x, y]) st1) : ex C (.seq (.par i j l) b) env st = ex C b ((env.set i (some x)).set j (some y)) st1 := by
  simp only [ex, h, Rs.run]
theorem setT_nx {tg : Tg} {e : E} {v : Val} {env' : G.Env} {st1 : Sto} (h : ev C e env st = .ok v st1) (ha : asg tg v env = some env') : ex C (.seq (.setT tg e) b) env st = ex C b env' st1 := by
  simp only [ex, h, Rs.run, ha]
theorem ev_or_ff {a c : E} {st1 st2 : Sto} (h1 : ev C a env st = .ok (.bl false) st1) (h2 : ev C c env st1 = .ok (.bl false) st2) : ev C (.or a c) env st = .ok (.bl false) st2 := by
  simp only [ev, h1, Rs.bind, h2]
theorem ite_no {c : E} {a : S} {st1 : Sto} (h : ev C c env st = .ok (.bl false) st1) : ex C (.seq (.ite c a .skip) b) env st = ex C b env st1 := by
  simp only [ex, h, Rs.run]
theorem fin_ret {e : E} {v : Val} {st1 : Sto} (h : ev C e env st = .ok v st1) : fin (ex C (.ret e) env st) = .ok v st1 := by
  simp only [ex, h, Rs.run, fin]
end
/-- a run of statements, the first ones taken off -/
def dropS : Nat → S → S
  | n + 1, .seq _ b => dropS n b
  | _, s => s
def takeS : Nat → S → S
  | n + 1, .seq a b => .seq a (takeS n b)
  | 0, _ => .skip
  | _, s => s
def isNx (r : Ro) : Bool := match r with
  | .nx _ _ => true
  | _ => false
def nxE (r : Ro) : G.Env := match r with
  | .nx e _ => e
  | _ => []
def nxS (r : Ro) : Sto := match r with
  | .nx _ s => s
  | _ => []
theorem nx_of {r : Ro} (h : isNx r = true) : r = .nx (nxE r) (nxS r) := by
  cases r <;> first | rfl | cases h
/-- is it a row of n statements at least -/
def rows : Nat → S → Bool
  | n + 1, .seq _ b => rows n b
  | 0, _ => true
  | _, _ => false
theorem ex_split {C : Calls} : ∀ (n : Nat) (b : S) (env : G.Env) (st : Sto) {e1 : G.Env} {s1 : Sto}, rows n b = true → ex C (takeS n b) env st = .nx e1 s1 → ex C b env st = ex C (dropS n b) e1 s1
  | 0, b, env, st, e1, s1, _, h => by
    have h : Ro.nx env st = .nx e1 s1 := by cases b <;> exact h
    cases h
    cases b <;> rfl
  | n + 1, .seq a b, env, st, e1, s1, hr, h => by
    have h : (match ex C a env st with | .nx e' st' => ex C (takeS n b) e' st' | .ret v st' => .ret v st' | .bk e' st' => .bk e' st' | .exc x st' => .exc x st' | .no => .no) = Ro.nx e1 s1 := by
      rw [takeS, ex] at h
      exact h
    show ex C (.seq a b) env st = ex C (dropS n b) e1 s1
    rw [ex]
    cases ha : ex C a env st with
    | nx e' st' =>
      rw [ha] at h
      exact ex_split n b e' st' hr h
    | ret v st' => rw [ha] at h; cases h
    | bk e' st' => rw [ha] at h; cases h
    | exc x st' => rw [ha] at h; cases h
    | no => rw [ha] at h; cases h
theorem r_drw2 (h49 : T[49]? = some .draw) {m : Int} (hm : 0 < m) (hm2 : m < 1000) (hn : n ≤ 1000) (rest : Sto) : run T dr (d + 1) 49 [.scr, .ref 0, .int m] (.lst (List.replicate n (.int 0)) :: rest) = .ok (.int (dr (n + 1) m)) (.lst (List.replicate (n + 1) (.int 0)) :: rest) := by
  rw [run_draw h49]
  have h1 : ilt 0 m = true := by rw [ilt_eq]; exact decide_eq_true hm
  have h2 : ilt m 1000 = true := by rw [ilt_eq]; exact decide_eq_true hm2
  have h3 : Nat.ble n 1000 = true := by rw [Nat.ble_eq]; exact hn
  simp only [drawV, List.getElem?_cons_zero, h1, h2, List.length_replicate, h3, Bool.and_true, List.set_cons_zero]
  rw [List.replicate_succ']
theorem for2 {tg : Tg} {v1 v2 : Val} {env e1 e1' e2 e2' : G.Env} {body : G.Env → Sto → Ro} {st1 st2 : Sto} (h1 : asg tg v1 env = some e1) (b1 : body e1 st = .nx e1' st1) (h2 : asg tg v2 e1' = some e2) (b2 : body e2 st1 = .nx e2' st2) : forI tg (.fz [v1, v2]) body 3 0 env st = .nx e2' st2 := by
  simp [forI, Src.get, h1, b1, h2, b2]
def isRT (r : Ro) : Bool := match r with
  | .ret (.bl true) _ => true
  | _ => false
theorem fin_rt {r : Ro} (h : isRT r = true) : ∃ st, fin r = .ok (.bl true) st := by
  match r, h with
  | .ret (.bl true) st, _ => exact ⟨st, rfl⟩
end L

end

section
/-! Two mirrors on a line: plain numbers. The search, level by level. -/
namespace L
open G
def inn (a b x : Int) : Int := a + (if 2 * (b - a) - (x - a) % (2 * (b - a)) < (x - a) % (2 * (b - a)) then 2 * (b - a) - (x - a) % (2 * (b - a)) else (x - a) % (2 * (b - a)))
def dep (a b x : Int) : Int := if b < x then (x - b + b - a - 1) / (b - a) else if x < a then (a - x + b - a - 1) / (b - a) else 0
def hit (a b x n : Int) : Bool := decide ((n - x) % (2 * (b - a)) = 0) || decide ((n + x - 2 * a) % (2 * (b - a)) = 0)
theorem nine {j : Int} (h1 : 1 ≤ j) (h2 : j ≤ 8) : j = 1 ∨ j = 2 ∨ j = 3 ∨ j = 4 ∨ j = 5 ∨ j = 6 ∨ j = 7 ∨ j = 8 := by omega
theorem inn_facts {a b : Int} (x : Int) (h1 : a < b) (h2 : b ≤ a + 8) : (a ≤ inn a b x ∧ inn a b x ≤ b) ∧ hit a b x (inn a b x) = true := by
  unfold inn hit
  obtain ⟨j, hj⟩ : ∃ j, b = a + j := ⟨b - a, by omega⟩
  subst hj
  rcases nine (j := j) (by omega) (by omega) with rfl | rfl | rfl | rfl | rfl | rfl | rfl | rfl <;> (simp only [show ∀ k, a + k - a = k by intro k; omega, Bool.or_eq_true, decide_eq_true_eq]; refine ⟨by omega, by omega⟩)
theorem dep_facts {a b : Int} (y : Int) (h1 : a < b) (h2 : b ≤ a + 8) : 0 ≤ dep a b y ∧ dep a b y ≤ dep a b (2 * a - y) + 1 ∧ dep a b y ≤ dep a b (2 * b - y) + 1 ∧ (b < y → dep a b (2 * b - y) + 1 = dep a b y) ∧ (y < a → dep a b (2 * a - y) + 1 = dep a b y) := by
  unfold dep
  obtain ⟨j, hj⟩ : ∃ j, b = a + j := ⟨b - a, by omega⟩
  subst hj
  rcases nine (j := j) (by omega) (by omega) with rfl | rfl | rfl | rfl | rfl | rfl | rfl | rfl <;> (simp only [show ∀ k, a + k - a = k by intro k; omega]; refine ⟨by omega, by omega, by omega, fun h => by omega, fun h => by omega⟩)
theorem hit_ref {a b x y : Int} (h1 : a < b) (h2 : b ≤ a + 8) (h : hit a b x y = true) : hit a b x (2 * a - y) = true ∧ hit a b x (2 * b - y) = true := by
  unfold hit at h ⊢
  simp only [Bool.or_eq_true, decide_eq_true_eq] at h ⊢
  obtain ⟨j, hj⟩ : ∃ j, b = a + j := ⟨b - a, by omega⟩
  subst hj
  rcases nine (j := j) (by omega) (by omega) with rfl | rfl | rfl | rfl | rfl | rfl | rfl | rfl <;> (simp only [show ∀ k, a + k - a = k by intro k; omega] at h ⊢; refine ⟨by omega, by omega⟩)
theorem hit_self (a b x : Int) : hit a b x x = true := by
  unfold hit
  simp
theorem inn_fix {a b i : Int} (h1 : a ≤ i) (h2 : i ≤ b) (h : a < b) : inn a b i = i := by
  unfold inn
  have e : (i - a) % (2 * (b - a)) = i - a := Int.emod_eq_of_lt (by omega) (by omega)
  rw [e]
  omega
theorem dep_fix {a b i : Int} (h1 : a ≤ i) (h2 : i ≤ b) : dep a b i = 0 := by
  unfold dep
  rw [if_neg (by omega), if_neg (by omega)]
theorem hit_inn {a b x n : Int} (h1 : a < b) (h2 : b ≤ a + 8) (h : hit a b x n = true) : inn a b n = inn a b x := by
  unfold hit at h
  simp only [Bool.or_eq_true, decide_eq_true_eq] at h
  unfold inn
  obtain ⟨j, hj⟩ : ∃ j, b = a + j := ⟨b - a, by omega⟩
  subst hj
  rcases nine (j := j) (by omega) (by omega) with rfl | rfl | rfl | rfl | rfl | rfl | rfl | rfl <;> (simp only [show ∀ k, a + k - a = k by intro k; omega] at h ⊢; omega)
/-! the search -/
abbrev Fd7 := List (Int × Int)
def kys (F : Fd7) : List Int := F.map (·.1)
def tryY (c y : Int) (s : Fd7 × List Int) : Fd7 × List Int := if y ∉ kys s.1 ∧ -99 ≤ y ∧ y ≤ 99 then (s.1 ++ [(y, c)], s.2 ++ [y]) else s
def one7 (a b c h : Int) (s : Fd7 × List Int) : Fd7 × List Int := tryY c (2 * b - h) (tryY c (2 * a - h) s)
def lvl (a b c : Int) : List Int → Fd7 × List Int → Fd7 × List Int
  | [], s => s
  | h :: l, s => lvl a b c l (one7 a b c h s)
def bfs (a b : Int) : Nat → Int → Fd7 → List Int → Option Fd7
  | 0, _, F, l => match l with
    | [] => some F
    | _ => none
  | k + 1, c, F, l => match l with
    | [] => some F
    | h :: l => bfs a b k (c + 1) (lvl a b (c + 1) (h :: l) (F, [])).1 (lvl a b (c + 1) (h :: l) (F, [])).2
/-- keys: each once, in the window -/
structure KB (F : Fd7) : Prop where
  nd : (kys F).Nodup
  wn : ∀ y ∈ kys F, -99 ≤ y ∧ y ≤ 99
theorem len_sub : ∀ (a b : List Int), a.Nodup → (∀ x ∈ a, x ∈ b) → a.length ≤ b.length
  | [], b, _, _ => Nat.zero_le _
  | x :: a, b, h, k => by
    obtain ⟨h1, h2⟩ := List.nodup_cons.mp h
    obtain ⟨s, t, rfl⟩ := List.append_of_mem (k x (by simp))
    have ih := len_sub a (s ++ t) h2 fun y hy => by
      have := k y (by simp [hy])
      rcases List.mem_append.mp this with z | z
      · exact List.mem_append.mpr (.inl z)
      · rcases List.mem_cons.mp z with e | z
        · exact absurd (e ▸ hy) h1
        · exact List.mem_append.mpr (.inr z)
    simp only [List.length_append, List.length_cons] at ih ⊢
    omega
theorem KB.len {F : Fd7} (h : KB F) : F.length ≤ 199 := by
  have := len_sub (kys F) (span (-99) 199) h.nd fun x hx => by
    rw [span_mem]
    have := h.wn x hx
    omega
  rw [span_len] at this
  simpa [kys] using this
theorem KB.put {F : Fd7} (h : KB F) {y c : Int} (hy : y ∉ kys F) (h1 : -99 ≤ y) (h2 : y ≤ 99) : KB (F ++ [(y, c)]) := by
  have e : kys (F ++ [(y, c)]) = kys F ++ [y] := by simp [kys]
  refine ⟨?_, ?_⟩
  · rw [e]
    refine List.nodup_append.mpr ⟨h.nd, by simp, fun a ha b hb z => ?_⟩
    rw [List.mem_singleton.mp hb] at z
    exact hy (z ▸ ha)
  · rw [e]
    intro z hz
    rcases List.mem_append.mp hz with k | k
    · exact h.wn z k
    · rw [List.mem_singleton.mp k]; exact ⟨h1, h2⟩
/-- a place is behind us: where the mirrors lead it is known -/
def Clo (a b : Int) (F : Fd7) (y l : Int) : Prop := ∀ r, (r = 2 * a - y ∨ r = 2 * b - y) → -99 ≤ r → r ≤ 99 → ∃ l', (r, l') ∈ F ∧ l' ≤ l + 1
theorem Clo.mono {a b : Int} {F F' : Fd7} {y l : Int} (h : Clo a b F y l) (k : ∀ p ∈ F, p ∈ F') : Clo a b F' y l := fun r hr h1 h2 => by
  obtain ⟨l', m, n⟩ := h r hr h1 h2
  exact ⟨l', k _ m, n⟩
/-- within a level -/
structure Mid (a b x c : Int) (rest : List Int) (n0 : Nat) (s : Fd7 × List Int) : Prop where
  kb : KB s.1
  m0 : (x, 0) ∈ s.1
  sn : ∀ p ∈ s.1, hit a b x p.1 = true ∧ dep a b x ≤ dep a b p.1 + p.2 ∧ p.2 ≤ c + 1
  qs : ∀ y ∈ s.2, (y, c + 1) ∈ s.1
  rs : ∀ y ∈ rest, (y, c) ∈ s.1
  cl : ∀ p ∈ s.1, Clo a b s.1 p.1 p.2 ∨ (p.1 ∈ rest ∧ p.2 = c) ∨ (p.1 ∈ s.2 ∧ p.2 = c + 1)
  ln : s.1.length = n0 + s.2.length
section
variable {a b x c : Int} {rest : List Int} {n0 : Nat} {s : Fd7 × List Int}
theorem Mid.try_ (h1 : a < b) (h2 : b ≤ a + 8) (m : Mid a b x c rest n0 s) {h y : Int} (hh : (h, c) ∈ s.1) (hy : y = 2 * a - h ∨ y = 2 * b - h) : Mid a b x c rest n0 (tryY (c + 1) y s) ∧ (∀ p ∈ s.1, p ∈ (tryY (c + 1) y s).1) ∧ (-99 ≤ y → y ≤ 99 → ∃ l', (y, l') ∈ (tryY (c + 1) y s).1 ∧ l' ≤ c + 1) := by
  unfold tryY
  by_cases k : y ∉ kys s.1 ∧ -99 ≤ y ∧ y ≤ 99
  · rw [if_pos k]
    obtain ⟨k1, k2, k3⟩ := k
    obtain ⟨g1, g2, g3⟩ := m.sn _ hh
    have hr := hit_ref h1 h2 g1
    have df := dep_facts h h1 h2
    refine ⟨⟨m.kb.put k1 k2 k3, List.mem_append.mpr (.inl m.m0), ?_, ?_, ?_, ?_, ?_⟩, fun p hp => List.mem_append.mpr (.inl hp), fun _ _ => ⟨c + 1, by simp, Int.le_refl _⟩⟩
    · intro p hp
      rcases List.mem_append.mp hp with z | z
      · exact m.sn p z
      · rw [List.mem_singleton.mp z]
        dsimp only at g1 g2 g3 ⊢
        rcases hy with rfl | rfl
        · exact ⟨hr.1, by omega, by omega⟩
        · exact ⟨hr.2, by omega, by omega⟩
    · intro z hz
      rcases List.mem_append.mp hz with w | w
      · exact List.mem_append.mpr (.inl (m.qs z w))
      · rw [List.mem_singleton.mp w]; simp
    · exact fun z hz => List.mem_append.mpr (.inl (m.rs z hz))
    · intro p hp
      rcases List.mem_append.mp hp with z | z
      · rcases m.cl p z with w | w | w
        · exact .inl (w.mono fun q hq => List.mem_append.mpr (.inl hq))
        · exact .inr (.inl w)
        · exact .inr (.inr ⟨List.mem_append.mpr (.inl w.1), w.2⟩)
      · rw [List.mem_singleton.mp z]
        exact .inr (.inr ⟨by simp, rfl⟩)
    · simp only [List.length_append, List.length_cons, List.length_nil]
      have := m.ln
      omega
  · rw [if_neg k]
    refine ⟨m, fun p hp => hp, fun k1 k2 => ?_⟩
    have : y ∈ kys s.1 := Classical.byContradiction fun z => k ⟨z, k1, k2⟩
    obtain ⟨p, hp, e⟩ := List.mem_map.mp this
    obtain ⟨_, _, g3⟩ := m.sn p hp
    obtain ⟨p1, p2⟩ := p
    cases e
    exact ⟨p2, hp, g3⟩
theorem Mid.one {h : Int} (h1 : a < b) (h2 : b ≤ a + 8) (m : Mid a b x c (h :: rest) n0 s) : Mid a b x c rest n0 (one7 a b (c + 1) h s) := by
  obtain ⟨m1, i1, e1⟩ := m.try_ h1 h2 (m.rs h (by simp)) (.inl rfl)
  obtain ⟨m2, i2, e2⟩ := m1.try_ h1 h2 (m1.rs h (by simp)) (.inr rfl)
  have clo : Clo a b (one7 a b (c + 1) h s).1 h c := by
    intro r hr k1 k2
    rcases hr with rfl | rfl
    · obtain ⟨l', g1, g2⟩ := e1 k1 k2
      exact ⟨l', i2 _ g1, g2⟩
    · exact e2 k1 k2
  refine ⟨m2.kb, m2.m0, m2.sn, m2.qs, fun y hy => m2.rs y (by simp [hy]), fun p hp => ?_, m2.ln⟩
  rcases m2.cl p hp with w | w | w
  · exact .inl w
  · rcases List.mem_cons.mp w.1 with e | k
    · exact .inl (by rw [e, w.2]; exact clo)
    · exact .inr (.inl ⟨k, w.2⟩)
  · exact .inr (.inr w)
theorem Mid.all (h1 : a < b) (h2 : b ≤ a + 8) : ∀ (l : List Int) (s : Fd7 × List Int), Mid a b x c l n0 s → Mid a b x c [] n0 (lvl a b (c + 1) l s)
  | [], s, m => m
  | h :: l, s, m => Mid.all h1 h2 l (one7 a b (c + 1) h s) (m.one h1 h2)
end
/-- between two levels -/
structure Bet (a b x c : Int) (F : Fd7) (line : List Int) : Prop where
  kb : KB F
  m0 : (x, 0) ∈ F
  sn : ∀ p ∈ F, hit a b x p.1 = true ∧ dep a b x ≤ dep a b p.1 + p.2 ∧ p.2 ≤ c
  rs : ∀ y ∈ line, (y, c) ∈ F
  cl : ∀ p ∈ F, Clo a b F p.1 p.2 ∨ (p.1 ∈ line ∧ p.2 = c)
theorem Bet.mid {a b x c : Int} {F : Fd7} {line : List Int} (h : Bet a b x c F line) : Mid a b x c line F.length (F, []) := by
  refine ⟨h.kb, h.m0, fun p hp => ?_, fun y hy => (nomatch hy), h.rs, fun p hp => ?_, by simp⟩
  · obtain ⟨g1, g2, g3⟩ := h.sn p hp
    exact ⟨g1, g2, by omega⟩
  · rcases h.cl p hp with w | w
    · exact .inl w
    · exact .inr (.inl w)
theorem Mid.bet {a b x c : Int} {n0 : Nat} {s : Fd7 × List Int} (m : Mid a b x c [] n0 s) : Bet a b x (c + 1) s.1 s.2 := by
  refine ⟨m.kb, m.m0, m.sn, m.qs, fun p hp => ?_⟩
  rcases m.cl p hp with w | w | w
  · exact .inl w
  · exact (nomatch w.1)
  · exact .inr w
theorem bfs_ok {a b x : Int} (h1 : a < b) (h2 : b ≤ a + 8) : ∀ (k : Nat) (c : Int) (F : Fd7) (line : List Int), Bet a b x c F line → 201 ≤ k + F.length → ∃ F' c', bfs a b k c F line = some F' ∧ Bet a b x c' F' []
  | 0, c, F, line, h, hk => by
    have := h.kb.len
    omega
  | k + 1, c, F, [], h, hk => ⟨F, c, rfl, h⟩
  | k + 1, c, F, y :: line, h, hk => by
    have m := Mid.all h1 h2 (y :: line) (F, []) h.mid
    have bt := m.bet
    have ln := m.ln
    show ∃ F' c', bfs a b k (c + 1) (lvl a b (c + 1) (y :: line) (F, [])).1 (lvl a b (c + 1) (y :: line) (F, [])).2 = some F' ∧ _
    generalize lvl a b (c + 1) (y :: line) (F, []) = s at m bt ln
    cases hq : s.2 with
    | nil =>
      rw [hq] at bt
      refine ⟨s.1, c + 1, ?_, bt⟩
      cases k <;> rfl
    | cons z q =>
      rw [hq] at bt ln
      exact bfs_ok h1 h2 k (c + 1) s.1 (z :: q) bt (by rw [ln, List.length_cons]; omega)
theorem bet0 {a b x : Int} (hx : -99 ≤ x ∧ x ≤ 99) : Bet a b x 0 [(x, 0)] [x] := by
  refine ⟨⟨by simp [kys], by simpa [kys] using hx⟩, by simp, fun p hp => ?_, by simp, fun p hp => ?_⟩
  · rw [List.mem_singleton.mp hp]
    exact ⟨hit_self a b x, by simp, by simp⟩
  · rw [List.mem_singleton.mp hp]
    exact .inr ⟨by simp, rfl⟩
/-! what was found -/
section
variable {a b x c : Int} {F : Fd7}
theorem Bet.ref (h : Bet a b x c F []) {y : Int} (hy : y ∈ kys F) {r : Int} (hr : r = 2 * a - y ∨ r = 2 * b - y) (h1 : -99 ≤ r) (h2 : r ≤ 99) : r ∈ kys F := by
  obtain ⟨p, hp, e⟩ := List.mem_map.mp hy
  rcases h.cl p hp with w | w
  · obtain ⟨l', m, _⟩ := w r (by rw [← e] at hr; exact hr) h1 h2
    exact List.mem_map.mpr ⟨_, m, rfl⟩
  · exact (nomatch w.1)
theorem Bet.up (h : Bet a b x c F []) (h1 : a < b) (hx : -30 ≤ x ∧ x ≤ 30) (ha : -10 ≤ a ∧ a ≤ 10) : ∀ j : Nat, x + 2 * (b - a) * j ≤ 99 → (j = 0 ∨ -99 ≤ 2 * b - (x + 2 * (b - a) * j)) → x + 2 * (b - a) * j ∈ kys F
  | 0, _, _ => by
    rw [show x + 2 * (b - a) * ((0 : Nat) : Int) = x by simp]
    exact List.mem_map.mpr ⟨_, h.m0, rfl⟩
  | j + 1, k1, k2 => by
    have e : 2 * (b - a) * ((j + 1 : Nat) : Int) = 2 * (b - a) * (j : Int) + 2 * (b - a) := by
      rw [Int.natCast_succ, Int.mul_add, Int.mul_one]
    have p : 0 ≤ 2 * (b - a) * (j : Int) := Int.mul_nonneg (by omega) (by omega)
    rw [e] at k1 k2 ⊢
    generalize hw : 2 * (b - a) * (j : Int) = w at *
    have k2 : -99 ≤ 2 * b - (x + (w + 2 * (b - a))) := by
      rcases k2 with z | z
      · omega
      · exact z
    have i := h.up h1 hx ha j (by rw [hw]; omega) (by rw [hw]; omega)
    rw [hw] at i
    have i2 := h.ref i (r := 2 * a - (x + w)) (.inl rfl) (by omega) (by omega)
    exact h.ref i2 (.inr (by omega)) (by omega) (by omega)
theorem Bet.down (h : Bet a b x c F []) (h1 : a < b) (hx : -30 ≤ x ∧ x ≤ 30) (hb : -10 ≤ b ∧ b ≤ 20) : ∀ j : Nat, -99 ≤ x - 2 * (b - a) * j → (j = 0 ∨ 2 * a - (x - 2 * (b - a) * j) ≤ 99) → x - 2 * (b - a) * j ∈ kys F
  | 0, _, _ => by
    rw [show x - 2 * (b - a) * ((0 : Nat) : Int) = x by simp]
    exact List.mem_map.mpr ⟨_, h.m0, rfl⟩
  | j + 1, k1, k2 => by
    have e : 2 * (b - a) * ((j + 1 : Nat) : Int) = 2 * (b - a) * (j : Int) + 2 * (b - a) := by
      rw [Int.natCast_succ, Int.mul_add, Int.mul_one]
    have p : 0 ≤ 2 * (b - a) * (j : Int) := Int.mul_nonneg (by omega) (by omega)
    rw [e] at k1 k2 ⊢
    generalize hw : 2 * (b - a) * (j : Int) = w at *
    have k2 : 2 * a - (x - (w + 2 * (b - a))) ≤ 99 := by
      rcases k2 with z | z
      · omega
      · exact z
    have i := h.down h1 hx hb j (by rw [hw]; omega) (by rw [hw]; omega)
    rw [hw] at i
    have i2 := h.ref i (r := 2 * b - (x - w)) (.inr rfl) (by omega) (by omega)
    exact h.ref i2 (.inl (by omega)) (by omega) (by omega)
theorem Bet.same (h : Bet a b x c F []) (h1 : a < b) (h2 : b ≤ a + 8) (hx : -30 ≤ x ∧ x ≤ 30) (ha : -10 ≤ a ∧ a ≤ 10) {w : Int} (hw : (w - x) % (2 * (b - a)) = 0) (k1 : -99 ≤ w) (k2 : w ≤ 99) (k3 : -99 ≤ 2 * b - w) (k4 : 2 * a - w ≤ 99) : w ∈ kys F := by
  have e := Int.mul_ediv_add_emod (w - x) (2 * (b - a))
  rw [hw, Int.add_zero] at e
  generalize (w - x) / (2 * (b - a)) = t at e
  rcases Int.le_total 0 t with z | z
  · obtain ⟨j, rfl⟩ : ∃ j : Nat, t = j := ⟨t.toNat, by omega⟩
    have ew : x + 2 * (b - a) * (j : Int) = w := by omega
    have := h.up h1 hx ha j (by omega) (.inr (by omega))
    rw [ew] at this
    exact this
  · obtain ⟨j, rfl⟩ : ∃ j : Nat, t = -(j : Int) := ⟨(-t).toNat, by omega⟩
    have e2 : 2 * (b - a) * -(j : Int) = -(2 * (b - a) * (j : Int)) := Int.mul_neg _ _
    rw [e2] at e
    have ew : x - 2 * (b - a) * (j : Int) = w := by omega
    have := h.down h1 hx ⟨by omega, by omega⟩ j (by omega) (.inr (by omega))
    rw [ew] at this
    exact this
theorem Bet.mem (h : Bet a b x c F []) (h1 : a < b) (h2 : b ≤ a + 8) (hx : -30 ≤ x ∧ x ≤ 30) (ha : -10 ≤ a ∧ a ≤ 10) {v : Int} (hv : -40 ≤ v ∧ v ≤ 49) : v ∈ kys F ↔ hit a b x v = true := by
  constructor
  · intro z
    obtain ⟨p, hp, e⟩ := List.mem_map.mp z
    rw [← e]
    exact (h.sn p hp).1
  · intro z
    unfold hit at z
    simp only [Bool.or_eq_true, decide_eq_true_eq] at z
    rcases z with z | z
    · exact h.same h1 h2 hx ha z (by omega) (by omega) (by omega) (by omega)
    · have e : (2 * a - v - x) % (2 * (b - a)) = 0 := by
        have : 2 * a - v - x = -(v + x - 2 * a) := by omega
        rw [this]
        exact Int.emod_eq_zero_of_dvd (Int.dvd_neg.mpr (Int.dvd_of_emod_eq_zero z))
      have i := h.same h1 h2 hx ha e (by omega) (by omega) (by omega) (by omega)
      exact h.ref i (.inl (by omega)) (by omega) (by omega)
theorem Bet.lev (h : Bet a b x c F []) (h1 : a < b) (h2 : b ≤ a + 8) (ha : -10 ≤ a ∧ a ≤ 10) : ∀ (n : Nat) (y l : Int), (y, l) ∈ F → a - 45 ≤ y → y ≤ b + 45 → dep a b y = n → ∃ z l', (z, l') ∈ F ∧ a ≤ z ∧ z ≤ b ∧ l' ≤ l + n
  | n, y, l, hy, k1, k2, hn => by
    have df := dep_facts y h1 h2
    by_cases c1 : b < y
    · have d1 := df.2.2.2.1 c1
      cases n with
      | zero =>
        have := (dep_facts (2 * b - y) h1 h2).1
        omega
      | succ n =>
        rcases h.cl _ hy with w | w
        · obtain ⟨l', m, e⟩ := w (2 * b - y) (.inr rfl) (by omega) (by omega)
          obtain ⟨z, l2, m2, g1, g2, g3⟩ := h.lev h1 h2 ha n (2 * b - y) l' m (by omega) (by omega) (by omega)
          exact ⟨z, l2, m2, g1, g2, by omega⟩
        · exact (nomatch w.1)
    · by_cases c2 : y < a
      · have d1 := df.2.2.2.2 c2
        cases n with
        | zero =>
          have := (dep_facts (2 * a - y) h1 h2).1
          omega
        | succ n =>
          rcases h.cl _ hy with w | w
          · obtain ⟨l', m, e⟩ := w (2 * a - y) (.inl rfl) (by omega) (by omega)
            obtain ⟨z, l2, m2, g1, g2, g3⟩ := h.lev h1 h2 ha n (2 * a - y) l' m (by omega) (by omega) (by omega)
            exact ⟨z, l2, m2, g1, g2, by omega⟩
          · exact (nomatch w.1)
      · exact ⟨y, l, hy, by omega, by omega, by omega⟩
/-- the inner image, with its depth -/
theorem Bet.inner (h : Bet a b x c F []) (h1 : a < b) (h2 : b ≤ a + 8) (hx : -30 ≤ x ∧ x ≤ 30) (ha : -10 ≤ a ∧ a ≤ 10) : (inn a b x, dep a b x) ∈ F ∧ ∀ v ∈ kys F, a ≤ v → v ≤ b → v = inn a b x := by
  have un : ∀ v ∈ kys F, a ≤ v → v ≤ b → v = inn a b x := fun v hv k1 k2 => by
    have e := hit_inn h1 h2 ((h.mem h1 h2 hx ha ⟨by omega, by omega⟩).mp hv)
    rw [inn_fix k1 k2 h1] at e
    exact e
  refine ⟨?_, un⟩
  have d0 := (dep_facts x h1 h2).1
  obtain ⟨z, l', m, g1, g2, g3⟩ := h.lev h1 h2 ha (dep a b x).toNat x 0 h.m0 (by omega) (by omega) (by omega)
  have e := un z (List.mem_map.mpr ⟨_, m, rfl⟩) g1 g2
  obtain ⟨_, s2, _⟩ := h.sn _ m
  dsimp only at s2
  rw [dep_fix g1 g2] at s2
  have el : l' = dep a b x := by omega
  rw [← e, ← el]
  exact m
end
end L

end

section
/-! The law's search, level by level, as it runs. -/
namespace L
open G
variable {C : Calls} {a b x c : Int} {st : Sto} {o : Ob} {F : Fd7} {J K : Nat} {P Q : List Int}
def vls (F : Fd7) : List Int := F.map (·.2)
def dF (F : Fd7) : Ob := .dic false (iL (kys F)) (iL (vls F))
structure St7 (st : Sto) (o : Ob) (F : Fd7) (J : Nat) (P : List Int) (K : Nat) (Q : List Int) : Prop where
  h0 : st[0]? = some o
  h1 : st[1]? = some (dF F)
  hJ : st[J]? = some (.lst (iL P))
  hK : st[K]? = some (.lst (iL Q))
  j2 : 2 ≤ J
  k2 : 2 ≤ K
  jk : J ≠ K
abbrev eB (a b x c : Int) (J : Nat) (a13 a14 a15 : Option Val) : G.Env := [some .scr, some (.ref 0), some (.int a), some (.int b), some (.int x), none, none, none, none, none, some (.ref 1), some (.ref J), some (.int c), a13, a14, a15, none]
theorem keq (x y : Int) : keyEq (.int x) (.int y) = decide (x = y) := by
  show ieq x y = _
  exact ieq_eq x y
theorem hasK_i (y : Int) : ∀ l : List Int, hasK (.int y) (iL l) = decide (y ∈ l)
  | [] => rfl
  | z :: l => by
    show (match keyEq (.int z) (.int y) with | true => true | false => hasK (.int y) (iL l)) = _
    rw [keq, hasK_i y l]
    by_cases h : z = y
    · rw [decide_eq_true h, h]; simp
    · rw [decide_eq_false h]
      have : ¬ y = z := fun e => h e.symm
      simp [this]
theorem dget_i (y : Int) : ∀ F : Fd7, (dget (.int y) (iL (kys F)) (iL (vls F))).isSome = decide (y ∈ kys F)
  | [] => rfl
  | p :: F => by
    show (match keyEq (.int p.1) (.int y) with | true => some (Val.int p.2) | false => dget (.int y) (iL (kys F)) (iL (vls F))).isSome = _
    have ih := dget_i y F
    rw [keq]
    by_cases h : p.1 = y
    · rw [decide_eq_true h, ← h]; simp [kys]
    · rw [decide_eq_false h]
      have : ¬ y = p.1 := fun e => h e.symm
      show (dget (.int y) (iL (kys F)) (iL (vls F))).isSome = _
      rw [ih]
      refine decide_eq_decide.mpr ?_
      show y ∈ kys F ↔ y ∈ p.1 :: kys F
      rw [List.mem_cons]
      exact ⟨.inr, fun z => z.elim (fun e => absurd e this) id⟩
theorem dget_of : ∀ F : Fd7, (kys F).Nodup → ∀ y l, (y, l) ∈ F → dget (.int y) (iL (kys F)) (iL (vls F)) = some (.int l)
  | [], _, y, l, h => by cases h
  | p :: F, hn, y, l, h => by
    show (match keyEq (.int p.1) (.int y) with | true => some (Val.int p.2) | false => dget (.int y) (iL (kys F)) (iL (vls F))) = _
    obtain ⟨n1, n2⟩ := List.nodup_cons.mp (show (p.1 :: kys F).Nodup from hn)
    rw [keq]
    rcases List.mem_cons.mp h with e | e
    · rw [← e, decide_eq_true rfl]
    · have ne : ¬ p.1 = y := fun z => n1 (by rw [z]; exact List.mem_map.mpr ⟨_, e, rfl⟩)
      rw [decide_eq_false ne]
      exact dget_of F n2 y l e
abbrev tyB : S := .ite (.and (.cmp .notIn (.var 15) (.var 10)) (.chain .le .le (.bin .sub (.lit (.int (.ofNat 0))) (.lit (.int (.ofNat 99)))) (.var 15) (.lit (.int (.ofNat 99))))) (.seq (.put (.var 12) (.var 10) (.var 15)) (.expr (.meth .append (.var 13) (.cons (.var 15) .nil)))) .skip
theorem ty_ok (s : St7 st o F J P K Q) (hF : F.length ≤ 1000) (hQ : Q.length ≤ 1000) (y : Int) (a14 : Option Val) :
    ∃ st', ex C tyB (eB a b x c J (some (.ref K)) a14 (some (.int y))) st = .nx (eB a b x c J (some (.ref K)) a14 (some (.int y))) st' ∧ St7 st' o (tryY c y (F, Q)).1 J P K (tryY c y (F, Q)).2 ∧ st'.length = st.length := by
  have iv : inV (.int y) (.ref 1) st = some (decide (y ∈ kys F)) := by
    show (match st[1]? with | some (.lst xs) => inLst (.int y) xs st | some (.dic t ks vs) => (match keyOk t (.int y) with | true => some (dget (.int y) ks vs).isSome | false => none) | _ => none) = _
    rw [s.h1]
    show some (dget (.int y) (iL (kys F)) (iL (vls F))).isSome = _
    rw [dget_i]
  have e0 : ∀ (C : Calls) o a b env s, ev C (.cmp o a b) env s = (ev C a env s).bind fun x st1 => (ev C b env st1).bind fun y st2 => cmpV o x y st2 := fun _ _ _ _ _ _ => rfl
  have c1 : ev C (.cmp .notIn (.var 15) (.var 10)) (eB a b x c J (some (.ref K)) a14 (some (.int y))) st = .ok (.bl (!(decide (y ∈ kys F)))) st := by
    simp only [ev, Rs.bind, List.getElem?_cons_zero, List.getElem?_cons_succ, cmpV, iv, notO, ob]
  have c2 : ev C (.chain .le .le (.bin .sub (.lit (.int (.ofNat 0))) (.lit (.int (.ofNat 99)))) (.var 15) (.lit (.int (.ofNat 99)))) (eB a b x c J (some (.ref K)) a14 (some (.int y))) st = .ok (.bl (decide (-99 ≤ y ∧ y ≤ 99))) st := by
    have bs : binV .sub (.int (.ofNat 0)) (.int (.ofNat 99)) st = .ok (.int (-99)) st := rfl
    have l1 : ile (-99) y = decide (-99 ≤ y) := ile_eq _ _
    have l2 : ile y (Int.ofNat 99) = decide (y ≤ 99) := ile_eq _ _
    simp only [ev, Rs.bind, List.getElem?_cons_zero, List.getElem?_cons_succ, bs, cmpV, l1]
    by_cases h : -99 ≤ y
    · rw [decide_eq_true h]
      simp only [l2, h, true_and]
    · rw [decide_eq_false h]
      simp only [h, false_and, decide_false]
  have cc : ev C (.and (.cmp .notIn (.var 15) (.var 10)) (.chain .le .le (.bin .sub (.lit (.int (.ofNat 0))) (.lit (.int (.ofNat 99)))) (.var 15) (.lit (.int (.ofNat 99))))) (eB a b x c J (some (.ref K)) a14 (some (.int y))) st = .ok (.bl (decide (y ∉ kys F ∧ -99 ≤ y ∧ y ≤ 99))) st := by
    have ea : ∀ (C : Calls) a b env s, ev C (.and a b) env s = (ev C a env s).bind fun x st1 => match x with | .bl true => ev C b env st1 | .bl false => .ok (.bl false) st1 | _ => .no := fun _ _ _ _ _ => rfl
    rw [ea, c1]
    by_cases h : y ∈ kys F
    · rw [decide_eq_true h]
      simp [Rs.bind, h]
    · rw [decide_eq_false h]
      simp only [Rs.bind, Bool.not_false]
      rw [c2]
      simp [h]
  unfold tryY
  by_cases k : y ∉ kys F ∧ -99 ≤ y ∧ y ≤ 99
  · rw [decide_eq_true k] at cc
    rw [if_pos k]
    have l1 := (List.getElem?_eq_some_iff.mp s.h1).1
    have lk := (List.getElem?_eq_some_iff.mp s.hK).1
    have hd : dput (.int y) (.int c) (iL (kys F)) (iL (vls F)) = (iL (kys (F ++ [(y, c)])), iL (vls (F ++ [(y, c)]))) := by
      unfold dput
      rw [hasK_i, decide_eq_false k.1]
      simp [kys, vls, iL]
    have kb : (keyOk false (.int y) && Nat.ble (iL (kys F)).length lineN) = true := by
      rw [Bool.and_eq_true, Nat.ble_eq]
      refine ⟨rfl, ?_⟩
      simp only [List.length_map, kys, lineN]
      omega
    generalize hst1 : st.set 1 (dF (F ++ [(y, c)])) = st1
    have hK1 : st1[K]? = some (.lst (iL Q)) := by rw [← hst1, List.getElem?_set_ne (by have := s.k2; omega)]; exact s.hK
    have lk1 : K < st1.length := (List.getElem?_eq_some_iff.mp hK1).1
    have pe : ex C (.put (.var 12) (.var 10) (.var 15)) (eB a b x c J (some (.ref K)) a14 (some (.int y))) st = .nx (eB a b x c J (some (.ref K)) a14 (some (.int y))) st1 := by
      have v12 : ev C (.var 12) (eB a b x c J (some (.ref K)) a14 (some (.int y))) st = .ok (.int c) st := rfl
      have v10 : ev C (.var 10) (eB a b x c J (some (.ref K)) a14 (some (.int y))) st = .ok (.ref 1) st := rfl
      have v15 : ev C (.var 15) (eB a b x c J (some (.ref K)) a14 (some (.int y))) st = .ok (.int y) st := rfl
      rw [ex, v12]
      simp only [Rs.run, v10, v15, s.h1, dF, kb, hd]
      rw [← hst1]
      rfl
    have mk : mkd .append (.ref K) st1 = true := by simp only [mkd, hK1]
    have bl : Nat.ble (iL Q).length lineN = true := by rw [Nat.ble_eq, List.length_map]; simp only [lineN]; omega
    have ma : methV .append (.ref K) [.int y] st1 = .ok .non (st1.set K (.lst (iL Q ++ [.int y]))) := by simp only [methV, hK1, bl]
    have ap : ex C (.expr (.meth .append (.var 13) (.cons (.var 15) .nil))) (eB a b x c J (some (.ref K)) a14 (some (.int y))) st1 = .nx (eB a b x c J (some (.ref K)) a14 (some (.int y))) (st1.set K (.lst (iL Q ++ [.int y]))) := by
      have e2 : ev C (.meth .append (.var 13) (.cons (.var 15) .nil)) (eB a b x c J (some (.ref K)) a14 (some (.int y))) st1 = .ok .non (st1.set K (.lst (iL Q ++ [.int y]))) := by
        simp only [ev, Rs.bind, List.getElem?_cons_zero, List.getElem?_cons_succ, mk, ma]
      rw [ex, e2]
      rfl
    refine ⟨st1.set K (.lst (iL Q ++ [.int y])), ?_, ?_, ?_⟩
    · rw [ex, cc]
      simp only [Rs.run]
      rw [ex, pe]
      exact ap
    · have j2 := s.j2
      have k2 := s.k2
      refine ⟨?_, ?_, ?_, ?_, s.j2, s.k2, s.jk⟩
      · rw [List.getElem?_set_ne (by omega), ← hst1, List.getElem?_set_ne (by omega)]; exact s.h0
      · rw [List.getElem?_set_ne (by omega), ← hst1]; exact List.getElem?_set_self l1
      · rw [List.getElem?_set_ne (Ne.symm s.jk), ← hst1, List.getElem?_set_ne (by omega)]; exact s.hJ
      · rw [List.getElem?_set_self lk1]
        simp [iL]
    · rw [List.length_set, ← hst1, List.length_set]
  · rw [decide_eq_false k] at cc
    rw [if_neg k]
    refine ⟨st, ?_, s, rfl⟩
    rw [ex, cc]
    rfl
abbrev inB7 : S := .for (.one 15) (.cons (.bin .sub (.bin .mul (.lit (.int (.ofNat 2))) (.var 2)) (.var 14)) (.cons (.bin .sub (.bin .mul (.lit (.int (.ofNat 2))) (.var 3)) (.var 14)) .nil)) tyB
theorem in_ok (s : St7 st o F J P K Q) (hF : F.length ≤ 900) (hQ : Q.length ≤ 900) (h : Int) (a15 : Option Val) :
    ∃ st' b15, ex C inB7 (eB a b x c J (some (.ref K)) (some (.int h)) a15) st = .nx (eB a b x c J (some (.ref K)) (some (.int h)) b15) st' ∧ St7 st' o (one7 a b c h (F, Q)).1 J P K (one7 a b c h (F, Q)).2 ∧ st'.length = st.length := by
  obtain ⟨st1, e1, s1, n1⟩ := ty_ok (C := C) (a := a) (b := b) (x := x) (c := c) s (by omega) (by omega) (2 * a - h) (some (.int h))
  have lf : (tryY c (2 * a - h) (F, Q)).1.length ≤ F.length + 1 ∧ (tryY c (2 * a - h) (F, Q)).2.length ≤ Q.length + 1 := by
    unfold tryY
    split <;> simp
  obtain ⟨st2, e2, s2, n2⟩ := ty_ok (C := C) (a := a) (b := b) (x := x) (c := c) s1 (by omega) (by omega) (2 * b - h) (some (.int h))
  refine ⟨st2, some (.int (2 * b - h)), ?_, s2, by rw [n2, n1]⟩
  have sm : smallI (Int.ofNat 2) = true := rfl
  have it : ev C (.cons (.bin .sub (.bin .mul (.lit (.int (.ofNat 2))) (.var 2)) (.var 14)) (.cons (.bin .sub (.bin .mul (.lit (.int (.ofNat 2))) (.var 3)) (.var 14)) .nil)) (eB a b x c J (some (.ref K)) (some (.int h)) a15) st = .ok (.tup [.int (2 * a - h), .int (2 * b - h)]) st := by
    simp only [ev, Rs.bind, List.getElem?_cons_zero, List.getElem?_cons_succ, binV, sm]
    rfl
  rw [ex, it]
  simp only [Rs.run, srcOf, List.length_cons, List.length_nil]
  exact for2 (e1 := eB a b x c J (some (.ref K)) (some (.int h)) (some (.int (2 * a - h)))) (e2 := eB a b x c J (some (.ref K)) (some (.int h)) (some (.int (2 * b - h)))) rfl e1 rfl e2
theorem line_for {n0 : Nat} (h1 : a < b) (h2 : b ≤ a + 8) : ∀ (rest pre : List Int) (s : Fd7 × List Int) (st : Sto) (a14 a15 : Option Val), P = pre ++ rest → Mid a b x c rest n0 s → St7 st o s.1 J P K s.2 →
    ∃ st' b14 b15, forI (.one 14) (.lv J) (ex C inB7) (rest.length + 1) pre.length (eB a b x (c + 1) J (some (.ref K)) a14 a15) st = .nx (eB a b x (c + 1) J (some (.ref K)) b14 b15) st' ∧ St7 st' o (lvl a b (c + 1) rest s).1 J P K (lvl a b (c + 1) rest s).2
  | [], pre, s, st, a14, a15, hP, m, z => by
    refine ⟨st, a14, a15, ?_, z⟩
    have g0 : (iL P)[pre.length]? = none := by rw [hP]; simp
    simp only [forI, Src.get, z.hJ, g0]
  | h :: rest, pre, s, st, a14, a15, hP, m, z => by
    have lF := m.kb.len
    have lQ := m.ln
    obtain ⟨st1, b15, e1, z1, n1⟩ := in_ok (C := C) (a := a) (b := b) (x := x) (c := c + 1) z (by omega) (by omega) h a15
    obtain ⟨st', c14, c15, e2, z2⟩ := line_for h1 h2 rest (pre ++ [h]) (one7 a b (c + 1) h s) st1 (some (.int h)) b15 (by rw [hP]; simp) (m.one h1 h2) z1
    refine ⟨st', c14, c15, ?_, z2⟩
    have g1 : (iL P)[pre.length]? = some (.int h) := by rw [hP]; simp
    have ea : asg (.one 14) (.int h) (eB a b x (c + 1) J (some (.ref K)) a14 a15) = some (eB a b x (c + 1) J (some (.ref K)) (some (.int h)) a15) := rfl
    rw [List.length_append, List.length_singleton] at e2
    rw [List.length_cons, forI]
    simp only [Src.get, z.hJ, g1, ea]
    rw [e1]
    exact e2
abbrev whE : E := .cmp .ne (.var 11) (.lst .nil)
abbrev whB : S := .seq (.aug 12 .add (.lit (.int (.ofNat 1)))) (.seq (.set 13 (.lstM .nil)) (.seq (.for (.one 14) (.var 11) inB7) (.set 11 (.var 13))))
theorem wh7 (h1 : a < b) (h2 : b ≤ a + 8) : ∀ (k fu : Nat) (c : Int) (F F' : Fd7) (line : List Int) (st : Sto) (J : Nat) (a13 a14 a15 : Option Val), k < fu → bfs a b k c F line = some F' → Bet a b x c F line → st[0]? = some o → st[1]? = some (dF F) → st[J]? = some (.lst (iL line)) → 2 ≤ J →
    ∃ st' c' J' b13 b14 b15, whlI (ev C whE) (ex C whB) fu (eB a b x c J a13 a14 a15) st = .nx (eB a b x c' J' b13 b14 b15) st' ∧ st'[0]? = some o ∧ st'[1]? = some (dF F') := by
  have cond : ∀ (c : Int) (line : List Int) (st : Sto) (J : Nat) (a13 a14 a15 : Option Val), st[J]? = some (.lst (iL line)) → ev C whE (eB a b x c J a13 a14 a15) st = .ok (.bl (!(decide (line = [])))) st := by
    intro c line st J a13 a14 a15 hJ
    have z : frz 6 st (.ref J) = some (.tl (iL line)) := by
      show (match st[J]? with | some (.lst xs) => (match mapO (frz 5 st) xs with | some ys => some (Val.tl ys) | none => none) | _ => none) = _
      rw [hJ]
      show (match mapO (frz 5 st) (iL line) with | some ys => some (Val.tl ys) | none => none) = _
      rw [mapO_ints]
    have z2 : frz 6 st (.tl (iL [])) = some (.tl (iL [])) := rfl
    have e : eqS st (.ref J) (.tl (iL [])) = some (decide (line = [])) := by
      simp only [eqS, z, z2, eqv, eqvL_ints]
    have e0 : ∀ (C : Calls) o a b env s, ev C (.cmp o a b) env s = (ev C a env s).bind fun x st1 => (ev C b env st1).bind fun y st2 => cmpV o x y st2 := fun _ _ _ _ _ _ => rfl
    have v11 : ev C (.var 11) (eB a b x c J a13 a14 a15) st = .ok (.ref J) st := rfl
    rw [e0, v11]
    show ob (notO (eqS st (.ref J) (.tl (iL [])))) st = _
    rw [e]
    rfl
  intro k
  induction k with
  | zero =>
    intro fu c F F' line st J a13 a14 a15 hf hb bt g0 g1 gJ j2
    obtain ⟨fu, rfl⟩ : ∃ j, fu = j + 1 := ⟨fu - 1, by omega⟩
    cases line with
    | nil =>
      cases (show some F = some F' from hb)
      refine ⟨st, c, J, a13, a14, a15, ?_, g0, g1⟩
      rw [whlI, cond c [] st J a13 a14 a15 gJ]
      rfl
    | cons h l => cases hb
  | succ k ih =>
    intro fu c F F' line st J a13 a14 a15 hf hb bt g0 g1 gJ j2
    obtain ⟨fu, rfl⟩ : ∃ j, fu = j + 1 := ⟨fu - 1, by omega⟩
    cases line with
    | nil =>
      cases (show some F = some F' from hb)
      refine ⟨st, c, J, a13, a14, a15, ?_, g0, g1⟩
      rw [whlI, cond c [] st J a13 a14 a15 gJ]
      rfl
    | cons h l =>
      have hb : bfs a b k (c + 1) (lvl a b (c + 1) (h :: l) (F, [])).1 (lvl a b (c + 1) (h :: l) (F, [])).2 = some F' := hb
      have m := bt.mid
      have m2 := Mid.all h1 h2 (h :: l) (F, []) m
      have l0 := (List.getElem?_eq_some_iff.mp g0).1
      have l1 := (List.getElem?_eq_some_iff.mp g1).1
      have lJ := (List.getElem?_eq_some_iff.mp gJ).1
      have z : St7 (st ++ [.lst (iL [])]) o (F, ([] : List Int)).1 J (h :: l) st.length (F, ([] : List Int)).2 := by
        refine ⟨?_, ?_, ?_, by simp, j2, by omega, by omega⟩
        · rw [List.getElem?_append_left l0]; exact g0
        · rw [List.getElem?_append_left l1]; exact g1
        · rw [List.getElem?_append_left lJ]; exact gJ
      obtain ⟨st2, b14, b15, f1, z2⟩ := line_for (C := C) h1 h2 (h :: l) [] (F, []) (st ++ [.lst (iL [])]) a14 a15 rfl m z
      obtain ⟨st', c', J', d13, d14, d15, w1, w2, w3⟩ := ih fu (c + 1) _ F' _ st2 st.length (some (.ref st.length)) b14 b15 (by omega) hb m2.bet z2.h0 z2.h1 z2.hK z2.k2
      refine ⟨st', c', J', d13, d14, d15, ?_, w2, w3⟩
      rw [whlI, cond c (h :: l) st J a13 a14 a15 gJ]
      have bd : ex C whB (eB a b x c J a13 a14 a15) st = .nx (eB a b x (c + 1) st.length (some (.ref st.length)) b14 b15) st2 := by
        have s1 : ex C (.aug 12 .add (.lit (.int (.ofNat 1)))) (eB a b x c J a13 a14 a15) st = .nx (eB a b x (c + 1) J a13 a14 a15) st := rfl
        rw [ex, s1]
        dsimp only
        rw [set_nx (.ref st.length) (st1 := st ++ [.lst (iL [])]) rfl]
        have es : (eB a b x (c + 1) J a13 a14 a15).set 13 (some (.ref st.length)) = eB a b x (c + 1) J (some (.ref st.length)) a14 a15 := rfl
        rw [es]
        have ef : ex C (.for (.one 14) (.var 11) inB7) (eB a b x (c + 1) J (some (.ref st.length)) a14 a15) (st ++ [.lst (iL [])]) = .nx (eB a b x (c + 1) J (some (.ref st.length)) b14 b15) st2 := by
          have v11 : ev C (.var 11) (eB a b x (c + 1) J (some (.ref st.length)) a14 a15) (st ++ [.lst (iL [])]) = .ok (.ref J) (st ++ [.lst (iL [])]) := rfl
          rw [ex, v11]
          simp only [Rs.run, srcOf, z.hJ, List.length_map]
          exact f1
        rw [ex, ef]
        rfl
      simp only [reduceCtorEq, decide_false, Bool.not_false]
      rw [bd]
      exact w1
end L

end

section
/-! The functions of the line, and what they refuse. -/
namespace L
open G
variable {dr : Nat → Int → Int} {d : Nat} {st : Sto}
def Ok99 (x : Int) : Prop := -99 ≤ x ∧ x ≤ 99
theorem r_num7 {v : Int} (h : Ok99 v) : run tab dr (d + 2) 19 [.int v, .int (-99), .int 99] st = .ok .non st := r_check_number h.1 h.2
theorem r_check1 {a b x : Int} (ha : Ok99 a) (hb : Ok99 b) (hx : Ok99 x) (h : a < b) : run tab dr (d + 3) 41 [.int a, .int b, .tup [.int x]] st = .ok .non st := by
  rw [run_df rfl rfl]
  have n1 := r_num7 (dr := dr) (d := d) (st := []) ha
  have n2 := r_num7 (dr := dr) (d := d) (st := []) hb
  have n3 := r_num7 (dr := dr) (d := d) (st := []) hx
  have h4 : ¬ b ≤ a := by omega
  simp [b_check_line, ex, ev, start, fin, Rs.bind, Rs.run, callV, pureL, pureV, frz, frzD, mapO, binV, srcOf, lineN, forI, Src.get, asg, cmpV, ile_eq, n1, n2, n3, h4]
theorem r_check3 {a b x y z : Int} (ha : Ok99 a) (hb : Ok99 b) (hx : Ok99 x) (hy : Ok99 y) (hz : Ok99 z) (h : a < b) : run tab dr (d + 3) 41 [.int a, .int b, .tup [.int x, .int y, .int z]] st = .ok .non st := by
  rw [run_df rfl rfl]
  have n1 := r_num7 (dr := dr) (d := d) (st := []) ha
  have n2 := r_num7 (dr := dr) (d := d) (st := []) hb
  have n3 := r_num7 (dr := dr) (d := d) (st := []) hx
  have n4 := r_num7 (dr := dr) (d := d) (st := []) hy
  have n5 := r_num7 (dr := dr) (d := d) (st := []) hz
  have h4 : ¬ b ≤ a := by omega
  simp [b_check_line, ex, ev, start, fin, Rs.bind, Rs.run, callV, pureL, pureV, frz, frzD, mapO, binV, srcOf, lineN, forI, Src.get, asg, cmpV, ile_eq, n1, n2, n3, n4, n5, h4]
theorem r_inner {a b x : Int} (ha : Ok99 a) (hb : Ok99 b) (hx : Ok99 x) (h : a < b) : run tab dr (d + 4) 43 [.int a, .int b, .int x] st = .ok (.int (inn a b x)) st := by
  rw [run_df rfl rfl]
  have c := r_check1 (dr := dr) (d := d) (st := []) ha hb hx h
  have h4 : (0 : Int) < 2 * (b - a) := by omega
  simp [b_inner_image, ex, ev, start, fin, Rs.bind, Rs.run, callV, pureL, pureV, frz, frzD, mapO, binV, biV, smallI, ilt_eq, c, h4, inn]
theorem r_depth {a b x : Int} (ha : Ok99 a) (hb : Ok99 b) (hx : Ok99 x) (h : a < b) : run tab dr (d + 4) 44 [.int a, .int b, .int x] st = .ok (.int (dep a b x)) st := by
  rw [run_df rfl rfl]
  have c := r_check1 (dr := dr) (d := d) (st := []) ha hb hx h
  have h5 : b - a < 1000000000 := by obtain ⟨_, _⟩ := ha; obtain ⟨_, _⟩ := hb; omega
  by_cases h1 : b < x
  · simp [b_line_depth, ex, ev, start, fin, Rs.bind, Rs.run, callV, pureL, pureV, frz, frzD, mapO, binV, cmpV, bigI, ilt_eq, c, h, h1, h5, dep]
  · by_cases h2 : x < a
    · simp [b_line_depth, ex, ev, start, fin, Rs.bind, Rs.run, callV, pureL, pureV, frz, frzD, mapO, binV, cmpV, bigI, ilt_eq, c, h, h1, h2, h5, dep]
    · simp [b_line_depth, ex, ev, start, fin, Rs.bind, Rs.run, callV, pureL, pureV, frz, frzD, mapO, binV, cmpV, bigI, ilt_eq, c, h, h1, h2, h5, dep]
theorem r_lims {a b x lo hi : Int} (ha : Ok99 a) (hb : Ok99 b) (hx : Ok99 x) (hl : Ok99 lo) (hh : Ok99 hi) (h : a < b) :
    run tab dr (d + 4) 42 [.int a, .int b, .int x, .int lo, .int hi] st = .ok (.tl (iL ((span lo (hi + 1 - lo).toNat).filter (hit a b x)))) st := by
  rw [run_df rfl rfl]
  have c := r_check3 (dr := dr) (d := d) (st := []) ha hb hx hl hh h
  have h4 : (0 : Int) < 2 * (b - a) := by omega
  obtain ⟨l1, l2⟩ := hl
  obtain ⟨l3, l4⟩ := hh
  have s1 : (-1000000000000 : Int) < lo := by omega
  have s2 : lo < 1000000000000 := by omega
  have s3 : (-1000000000000 : Int) < hi + 1 := by omega
  have s4 : hi + 1 < 1000000000000 := by omega
  have hk : (iL (span lo (hi + 1 - lo).toNat)).length ≤ lineN := by rw [List.length_map, span_len, lineN]; omega
  simp [b_line_images, ex, ev, start, fin, Rs.bind, Rs.run, callV, pureL, pureV, frz, frzD, mapO, binV, smallI, ilt_eq, rngV, upto_span, srcOf, wipeE, span_len, c, s1, s2, s3, s4]
  rw [lc_run (fun v => match v with | .int n => hit a b x n | _ => false) (fun v => v) _ (by rw [List.length_map, span_len]) hk ?h]
  case h =>
    intro v hv
    obtain ⟨n, _, rfl⟩ := List.mem_map.mp hv
    refine ⟨_, rfl, ?_, fun _ => by simp⟩
    by_cases z : (n - x) % (2 * (b - a)) = 0
    · simp [cmpV, eqS_int, ob, h4, hit, z]
    · simp [cmpV, eqS_int, ob, h4, hit, z]
  rw [filter_ints (hit a b x) _ (fun _ => rfl), List.map_id']
/-! refused -/
abbrev r4 : Val := .tup [.str [114, 97, 105, 115, 101, 100], .int (.ofNat 4)]
structure Off (dr : Nat → Int → Int) (v : Val) : Prop where
  pu : pureV v = true
  no : ∀ d, run tab dr (d + 2) 19 [v, .int (-99), .int 99] [] = .exc 4 []
  fz : frz 5 [] v = some v
theorem offs (v : Val) (hv : v ∈ ([.non, .int (.ofNat 100), .int (.negSucc 99), .str [49], .bl true, .tup [.int (.ofNat 1)]] : List Val)) : Off dr v := by
  simp only [List.mem_cons, List.not_mem_nil, or_false] at hv
  rcases hv with rfl | rfl | rfl | rfl | rfl | rfl <;> exact ⟨rfl, fun d => rfl, rfl⟩
section
variable {v : Val} {a b x y z : Int}
theorem q_0 (o : Off dr v) : run tab dr (d + 3) 41 [v, .non, .tup [.non]] st = .exc 4 st := by
  rw [run_df rfl rfl]
  have n := o.no d
  simp [b_check_line, ex, ev, start, fin, Rs.bind, Rs.run, callV, pureL, o.pu, pureV_int, binV, lineN, srcOf, forI, Src.get, asg, n]
theorem q_1 (o : Off dr v) (ha : Ok99 a) : run tab dr (d + 3) 41 [.int a, v, .tup [.int x]] st = .exc 4 st := by
  rw [run_df rfl rfl]
  have n := o.no d
  have n1 := r_num7 (dr := dr) (d := d) (st := []) ha
  simp [b_check_line, ex, ev, start, fin, Rs.bind, Rs.run, callV, pureL, o.pu, pureV_int, binV, lineN, srcOf, forI, Src.get, asg, n, n1, frzD_non]
theorem q_2 (o : Off dr v) (ha : Ok99 a) (hb : Ok99 b) : run tab dr (d + 3) 41 [.int a, .int b, .tup [v]] st = .exc 4 st := by
  rw [run_df rfl rfl]
  have n := o.no d
  have n1 := r_num7 (dr := dr) (d := d) (st := []) ha
  have n2 := r_num7 (dr := dr) (d := d) (st := []) hb
  simp [b_check_line, ex, ev, start, fin, Rs.bind, Rs.run, callV, pureL, o.pu, pureV_int, binV, lineN, srcOf, forI, Src.get, asg, n, n1, n2, frzD_non]
theorem q_3 (o : Off dr v) (ha : Ok99 a) (hb : Ok99 b) (hx : Ok99 x) : run tab dr (d + 3) 41 [.int a, .int b, .tup [.int x, v, .int z]] st = .exc 4 st := by
  rw [run_df rfl rfl]
  have n := o.no d
  have n1 := r_num7 (dr := dr) (d := d) (st := []) ha
  have n2 := r_num7 (dr := dr) (d := d) (st := []) hb
  have n3 := r_num7 (dr := dr) (d := d) (st := []) hx
  simp [b_check_line, ex, ev, start, fin, Rs.bind, Rs.run, callV, pureL, o.pu, pureV_int, binV, lineN, srcOf, forI, Src.get, asg, n, n1, n2, n3, frzD_non]
theorem q_4 (o : Off dr v) (ha : Ok99 a) (hb : Ok99 b) (hx : Ok99 x) (hy : Ok99 y) : run tab dr (d + 3) 41 [.int a, .int b, .tup [.int x, .int y, v]] st = .exc 4 st := by
  rw [run_df rfl rfl]
  have n := o.no d
  have n1 := r_num7 (dr := dr) (d := d) (st := []) ha
  have n2 := r_num7 (dr := dr) (d := d) (st := []) hb
  have n3 := r_num7 (dr := dr) (d := d) (st := []) hx
  have n4 := r_num7 (dr := dr) (d := d) (st := []) hy
  simp [b_check_line, ex, ev, start, fin, Rs.bind, Rs.run, callV, pureL, o.pu, pureV_int, binV, lineN, srcOf, forI, Src.get, asg, n, n1, n2, n3, n4, frzD_non]
theorem q_5 (ha : Ok99 a) (hb : Ok99 b) (hx : Ok99 x) (h : b ≤ a) : run tab dr (d + 3) 41 [.int a, .int b, .tup [.int x]] st = .exc 4 st := by
  rw [run_df rfl rfl]
  have n1 := r_num7 (dr := dr) (d := d) (st := []) ha
  have n2 := r_num7 (dr := dr) (d := d) (st := []) hb
  have n3 := r_num7 (dr := dr) (d := d) (st := []) hx
  simp [b_check_line, ex, ev, start, fin, Rs.bind, Rs.run, callV, pureL, pureV_int, binV, lineN, srcOf, forI, Src.get, asg, cmpV, ile_eq, n1, n2, n3, h, frzD_non]
theorem q_6 (ha : Ok99 a) (hb : Ok99 b) (hx : Ok99 x) (hy : Ok99 y) (hz : Ok99 z) (h : b ≤ a) : run tab dr (d + 3) 41 [.int a, .int b, .tup [.int x, .int y, .int z]] st = .exc 4 st := by
  rw [run_df rfl rfl]
  have n1 := r_num7 (dr := dr) (d := d) (st := []) ha
  have n2 := r_num7 (dr := dr) (d := d) (st := []) hb
  have n3 := r_num7 (dr := dr) (d := d) (st := []) hx
  have n4 := r_num7 (dr := dr) (d := d) (st := []) hy
  have n5 := r_num7 (dr := dr) (d := d) (st := []) hz
  simp [b_check_line, ex, ev, start, fin, Rs.bind, Rs.run, callV, pureL, pureV_int, binV, lineN, srcOf, forI, Src.get, asg, cmpV, ile_eq, n1, n2, n3, n4, n5, h, frzD_non]
end
/-- a def that asks check_line first -/
theorem ask_no {u1 u2 u3 : Val} (p1 : pureV u1 = true) (p2 : pureV u2 = true) (p3 : pureV u3 = true) (p4 : pureV (.tup [u3]) = true) (h : ∀ st, run tab dr d 41 [u1, u2, .tup [u3]] st = .exc 4 st) : run tab dr (d + 2) 71 [.int (.ofNat 0), u1, u2, u3] [] = .ok r4 [] ∧ run tab dr (d + 2) 71 [.int (.ofNat 1), u1, u2, u3] [] = .ok r4 [] := by
  have i43 : run tab dr (d + 1) 43 [u1, u2, u3] [] = .exc 4 [] := by
    rw [run_df (i := 43) (np := 3) (ns := 4) (b := b_inner_image) rfl rfl]
    simp [b_inner_image, ex, ev, start, fin, Rs.bind, Rs.run, callV, pureL, p1, p2, p4, h]
  have i44 : run tab dr (d + 1) 44 [u1, u2, u3] [] = .exc 4 [] := by
    rw [run_df (i := 44) (np := 3) (ns := 3) (b := b_line_depth) rfl rfl]
    simp [b_line_depth, ex, ev, start, fin, Rs.bind, Rs.run, callV, pureL, p1, p2, p4, h]
  have b45 : Nat.blt 4 5 = true := rfl
  have b48 : Nat.blt 4 8 = true := rfl
  have s0 : ∀ st, subV (.tl [.fn 43, .fn 44]) (.int (.ofNat 0)) st = .ok (.fn 43) st := fun _ => rfl
  have s1 : ∀ st, subV (.tl [.fn 43, .fn 44]) (.int (.ofNat 1)) st = .ok (.fn 44) st := fun _ => rfl
  refine ⟨?_, ?_⟩
  · rw [run_df (i := 71) (np := 4) (ns := 5) (b := b__law_ask) rfl rfl]
    simp only [b__law_ask, ex, ev, start, fin, Rs.bind, Rs.run, List.map, List.cons_append, List.nil_append, List.length_cons, List.length_nil, List.replicate, List.getElem?_cons_zero, List.getElem?_cons_succ, b45, b48, s0, callV, pureL, p1, p2, p3, i43]
  · rw [run_df (i := 71) (np := 4) (ns := 5) (b := b__law_ask) rfl rfl]
    simp only [b__law_ask, ex, ev, start, fin, Rs.bind, Rs.run, List.map, List.cons_append, List.nil_append, List.length_cons, List.length_nil, List.replicate, List.getElem?_cons_zero, List.getElem?_cons_succ, b45, b48, s1, callV, pureL, p1, p2, p3, i44]
theorem list_no {u1 u2 u3 u4 u5 : Val} (p1 : pureV u1 = true) (p2 : pureV u2 = true) (p3 : pureV u3 = true) (p4 : pureV u4 = true) (p5 : pureV u5 = true) (p6 : pureV (.tup [u3, u4, u5]) = true) (h : ∀ st, run tab dr d 41 [u1, u2, .tup [u3, u4, u5]] st = .exc 4 st) : run tab dr (d + 2) 72 [u1, u2, u3, u4, u5] [] = .ok r4 [] := by
  have i42 : run tab dr (d + 1) 42 [u1, u2, u3, u4, u5] [] = .exc 4 [] := by
    rw [run_df (i := 42) (np := 5) (ns := 7) (b := b_line_images) rfl rfl]
    simp [b_line_images, ex, ev, start, fin, Rs.bind, Rs.run, callV, pureL, p1, p2, p6, h]
  have b45 : Nat.blt 5 6 = true := rfl
  have b48 : Nat.blt 4 8 = true := rfl
  rw [run_df (i := 72) (np := 5) (ns := 6) (b := b__law_list) rfl rfl]
  simp only [b__law_list, ex, ev, start, fin, Rs.bind, Rs.run, List.map, List.cons_append, List.nil_append, List.length_cons, List.length_nil, List.replicate, List.getElem?_cons_zero, List.getElem?_cons_succ, b45, b48, callV, pureL, p1, p2, p3, p4, p5, i42]
theorem pu1 {v : Val} (h : frz 5 [] v = some v) : pureV (.tup [v]) = true := by
  show (match mapO (frz 5 []) [v] with | some ys => some (Val.tup ys) | none => none).isSome = true
  simp only [mapO, h]
  rfl
theorem pu3 {v w u : Val} (h : frz 5 [] v = some v) (h2 : frz 5 [] w = some w) (h3 : frz 5 [] u = some u) : pureV (.tup [v, w, u]) = true := by
  show (match mapO (frz 5 []) [v, w, u] with | some ys => some (Val.tup ys) | none => none).isSome = true
  simp only [mapO, h, h2, h3]
  rfl
end L

end

section
/-! Ascending lists of numbers; how many mirrors lie between. -/
namespace L
open G
def insI7 (a : Int) : List Int → List Int
  | [] => [a]
  | x :: r => if a < x then a :: x :: r else x :: insI7 a r
def srtI7 : List Int → List Int
  | [] => []
  | x :: r => insI7 x (srtI7 r)
theorem insV_i (a : Int) : ∀ l : List Int, insV (.int a) (iL l) = iL (insI7 a l)
  | [] => rfl
  | x :: l => by
    show (match vlt (.int a) (.int x) with | true => Val.int a :: Val.int x :: iL l | false => Val.int x :: insV (.int a) (iL l)) = _
    have e : vlt (.int a) (.int x) = decide (a < x) := ilt_eq a x
    rw [e, insV_i a l]
    have e2 : insI7 a (x :: l) = if a < x then a :: x :: l else x :: insI7 a l := rfl
    rw [e2]
    by_cases h : a < x
    · rw [decide_eq_true h, if_pos h]; rfl
    · rw [decide_eq_false h, if_neg h]; rfl
theorem sortV_i : ∀ l : List Int, sortV (iL l) = iL (srtI7 l)
  | [] => rfl
  | x :: l => by
    show insV (.int x) (sortV (iL l)) = _
    rw [sortV_i l, insV_i]
    rfl
theorem insI7_mem (a y : Int) : ∀ l : List Int, y ∈ insI7 a l ↔ y = a ∨ y ∈ l
  | [] => by simp [insI7]
  | x :: l => by
    unfold insI7
    split
    · simp
    · simp only [List.mem_cons, insI7_mem a y l]
      constructor
      · rintro (h | h | h)
        · exact .inr (.inl h)
        · exact .inl h
        · exact .inr (.inr h)
      · rintro (h | h | h)
        · exact .inr (.inl h)
        · exact .inl h
        · exact .inr (.inr h)
theorem srtI7_mem (y : Int) : ∀ l : List Int, y ∈ srtI7 l ↔ y ∈ l
  | [] => Iff.rfl
  | x :: l => by
    show y ∈ insI7 x (srtI7 l) ↔ _
    rw [insI7_mem, srtI7_mem y l, List.mem_cons]
theorem insI7_asc (a : Int) : ∀ l : List Int, l.Pairwise (· < ·) → a ∉ l → (insI7 a l).Pairwise (· < ·)
  | [], _, _ => by simp [insI7]
  | x :: l, h, k => by
    obtain ⟨h1, h2⟩ := List.pairwise_cons.mp h
    unfold insI7
    by_cases c : a < x
    · rw [if_pos c]
      refine List.pairwise_cons.mpr ⟨fun y hy => ?_, h⟩
      rcases List.mem_cons.mp hy with e | e
      · rw [e]; exact c
      · have := h1 y e; omega
    · rw [if_neg c]
      refine List.pairwise_cons.mpr ⟨fun y hy => ?_, insI7_asc a l h2 fun z => k (by simp [z])⟩
      rcases (insI7_mem a y l).mp hy with e | e
      · have : a ≠ x := fun z => k (by simp [z])
        omega
      · exact h1 y e
theorem srtI7_asc : ∀ l : List Int, l.Nodup → (srtI7 l).Pairwise (· < ·)
  | [], _ => List.Pairwise.nil
  | x :: l, h => by
    obtain ⟨h1, h2⟩ := List.nodup_cons.mp h
    exact insI7_asc x (srtI7 l) (srtI7_asc l h2) fun z => h1 ((srtI7_mem x l).mp z)
theorem asc_eq : ∀ l m : List Int, l.Pairwise (· < ·) → m.Pairwise (· < ·) → (∀ x, x ∈ l ↔ x ∈ m) → l = m
  | [], [], _, _, _ => rfl
  | [], y :: m, _, _, h => by have := (h y).mpr (by simp); cases this
  | x :: l, [], _, _, h => by have := (h x).mp (by simp); cases this
  | x :: l, y :: m, hl, hm, h => by
    obtain ⟨l1, l2⟩ := List.pairwise_cons.mp hl
    obtain ⟨m1, m2⟩ := List.pairwise_cons.mp hm
    have e : x = y := by
      rcases List.mem_cons.mp ((h x).mp (by simp)) with a | a
      · exact a
      · rcases List.mem_cons.mp ((h y).mpr (by simp)) with b | b
        · exact b.symm
        · have := m1 x a
          have := l1 y b
          omega
    subst e
    congr 1
    refine asc_eq l m l2 m2 fun z => ⟨fun hz => ?_, fun hz => ?_⟩
    · rcases List.mem_cons.mp ((h z).mp (by simp [hz])) with a | a
      · have := l1 z hz; omega
      · exact a
    · rcases List.mem_cons.mp ((h z).mpr (by simp [hz])) with a | a
      · have := m1 z hz; omega
      · exact a
theorem span_asc : ∀ (n : Nat) (lo : Int), (span lo n).Pairwise (· < ·)
  | 0, _ => List.Pairwise.nil
  | n + 1, lo => List.pairwise_cons.mpr ⟨fun y hy => by
      have := (span_mem n (lo + 1) y).mp hy
      omega, span_asc n (lo + 1)⟩
theorem asc_nodup {l : List Int} (h : l.Pairwise (· < ·)) : l.Nodup := h.imp fun k z => by omega
/-- what is found between two bounds, ascending -/
theorem found_eq {a b x c : Int} {F : Fd7} (h : Bet a b x c F []) (h1 : a < b) (h2 : b ≤ a + 8) (hx : -30 ≤ x ∧ x ≤ 30) (ha : -10 ≤ a ∧ a ≤ 10) {lo hi : Int} (hl : -40 ≤ lo) (hh : hi ≤ 49) : srtI7 ((kys F).filter fun y => decide (lo ≤ y) && decide (y ≤ hi)) = (span lo (hi + 1 - lo).toNat).filter (hit a b x) := by
  refine asc_eq _ _ (srtI7_asc _ (h.kb.nd.sublist List.filter_sublist)) ((span_asc _ _).sublist List.filter_sublist) fun y => ?_
  rw [srtI7_mem, List.mem_filter, List.mem_filter, span_mem, Bool.and_eq_true, decide_eq_true_eq, decide_eq_true_eq]
  constructor
  · rintro ⟨k, k1, k2⟩
    exact ⟨⟨k1, by omega⟩, (h.mem h1 h2 hx ha ⟨by omega, by omega⟩).mp k⟩
  · rintro ⟨⟨k1, k2⟩, k⟩
    exact ⟨(h.mem h1 h2 hx ha ⟨by omega, by omega⟩).mpr k, k1, by omega⟩
theorem inner_eq {a b x c : Int} {F : Fd7} (h : Bet a b x c F []) (h1 : a < b) (h2 : b ≤ a + 8) (hx : -30 ≤ x ∧ x ≤ 30) (ha : -10 ≤ a ∧ a ≤ 10) : (kys F).filter (fun y => decide (a ≤ y) && decide (y ≤ b)) = [inn a b x] := by
  obtain ⟨m, un⟩ := h.inner h1 h2 hx ha
  obtain ⟨⟨i1, i2⟩, _⟩ := inn_facts x h1 h2
  have nd : ((kys F).filter fun y => decide (a ≤ y) && decide (y ≤ b)).Nodup := h.kb.nd.sublist List.filter_sublist
  have mem : ∀ y, y ∈ (kys F).filter (fun y => decide (a ≤ y) && decide (y ≤ b)) ↔ y = inn a b x := fun y => by
    rw [List.mem_filter, Bool.and_eq_true, decide_eq_true_eq, decide_eq_true_eq]
    constructor
    · rintro ⟨k, k1, k2⟩
      exact un y k k1 k2
    · rintro rfl
      exact ⟨List.mem_map.mpr ⟨_, m, rfl⟩, i1, i2⟩
  generalize (kys F).filter (fun y => decide (a ≤ y) && decide (y ≤ b)) = l at nd mem
  match l, nd, mem with
  | [], _, mem => have := (mem (inn a b x)).mpr rfl; cases this
  | [y], _, mem => rw [(mem y).mp (by simp)]
  | y :: z :: l, nd, mem =>
    have e1 := (mem y).mp (by simp)
    have e2 := (mem z).mp (by simp)
    exact absurd (by rw [e1, e2]; simp) (List.nodup_cons.mp nd).1
/-! mirrors between -/
theorem len_of {n : Nat} (f : Nat → Int) {l : List Int} (hl : l.Nodup) (inj : ∀ i j, i < j → f i ≠ f j) (h1 : ∀ y ∈ l, ∃ i, i < n ∧ f i = y) (h2 : ∀ i, i < n → f i ∈ l) : l.length = n := by
  have nd : ((List.range n).map f).Nodup := by
    show List.Pairwise _ _
    rw [List.pairwise_map]
    exact List.pairwise_lt_range.imp fun k => inj _ _ k
  have a := len_sub l ((List.range n).map f) hl fun y hy => by
    obtain ⟨i, hi, e⟩ := h1 y hy
    exact List.mem_map.mpr ⟨i, List.mem_range.mpr hi, e⟩
  have b := len_sub ((List.range n).map f) l nd fun y hy => by
    obtain ⟨i, hi, rfl⟩ := List.mem_map.mp hy
    exact h2 i (List.mem_range.mp hi)
  simp only [List.length_map, List.length_range] at a b
  omega
def btw (a b x : Int) : List Int := ((span (-60) 120).filter fun i => decide ((i - a) % (b - a) = 0)).filter fun i => decide ((if a + b < 2 * x then a + b else 2 * x) < 2 * i) && decide (2 * i < (if 2 * x < a + b then a + b else 2 * x))
theorem btw_len {a b x : Int} (h1 : a < b) (h2 : b ≤ a + 8) (hx : -30 ≤ x ∧ x ≤ 30) (ha : -10 ≤ a ∧ a ≤ 10) : ((btw a b x).length : Int) = dep a b x := by
  have nd : (btw a b x).Nodup := ((asc_nodup (span_asc 120 (-60))).sublist List.filter_sublist).sublist List.filter_sublist
  have mem : ∀ i, i ∈ btw a b x ↔ (-60 ≤ i ∧ i < 60) ∧ (i - a) % (b - a) = 0 ∧ (if a + b < 2 * x then a + b else 2 * x) < 2 * i ∧ 2 * i < (if 2 * x < a + b then a + b else 2 * x) := fun i => by
    unfold btw
    rw [List.mem_filter, List.mem_filter, span_mem, Bool.and_eq_true, decide_eq_true_eq, decide_eq_true_eq, decide_eq_true_eq]
    constructor
    · rintro ⟨⟨k1, k2⟩, k3, k4⟩
      exact ⟨⟨k1.1, by omega⟩, k2, k3, k4⟩
    · rintro ⟨k1, k2, k3, k4⟩
      exact ⟨⟨⟨k1.1, by omega⟩, k2⟩, k3, k4⟩
  have d0 := (dep_facts x h1 h2).1
  have go : (btw a b x).length = (dep a b x).toNat := by
    generalize btw a b x = l at nd mem
    unfold dep at d0 ⊢
    obtain ⟨j, hj⟩ : ∃ j, b = a + j := ⟨b - a, by omega⟩
    subst hj
    by_cases c1 : a + j < x
    · simp only [if_pos c1] at d0 ⊢
      refine len_of (fun i => a + j * ((i : Int) + 1)) nd ?_ ?_ ?_
      · intro i k hik
        rcases nine (j := j) (by omega) (by omega) with rfl | rfl | rfl | rfl | rfl | rfl | rfl | rfl <;> omega
      · intro y hy
        have hy := (mem y).mp hy
        rw [if_pos (by omega), if_neg (by omega)] at hy
        rcases nine (j := j) (by omega) (by omega) with rfl | rfl | rfl | rfl | rfl | rfl | rfl | rfl <;> (simp only [show ∀ k, a + k - a = k by intro k; omega] at hy ⊢)
        · exact ⟨((y - a) / 1 - 1).toNat, by omega, by omega⟩
        · exact ⟨((y - a) / 2 - 1).toNat, by omega, by omega⟩
        · exact ⟨((y - a) / 3 - 1).toNat, by omega, by omega⟩
        · exact ⟨((y - a) / 4 - 1).toNat, by omega, by omega⟩
        · exact ⟨((y - a) / 5 - 1).toNat, by omega, by omega⟩
        · exact ⟨((y - a) / 6 - 1).toNat, by omega, by omega⟩
        · exact ⟨((y - a) / 7 - 1).toNat, by omega, by omega⟩
        · exact ⟨((y - a) / 8 - 1).toNat, by omega, by omega⟩
      · intro i hi
        refine (mem _).mpr ?_
        rw [if_pos (by omega), if_neg (by omega)]
        rcases nine (j := j) (by omega) (by omega) with rfl | rfl | rfl | rfl | rfl | rfl | rfl | rfl <;> (simp only [show ∀ k, a + k - a = k by intro k; omega] at hi ⊢; omega)
    · by_cases c2 : x < a
      · simp only [if_neg c1, if_pos c2] at d0 ⊢
        refine len_of (fun i => a - j * (i : Int)) nd ?_ ?_ ?_
        · intro i k hik
          rcases nine (j := j) (by omega) (by omega) with rfl | rfl | rfl | rfl | rfl | rfl | rfl | rfl <;> omega
        · intro y hy
          have hy := (mem y).mp hy
          rw [if_neg (by omega), if_pos (by omega)] at hy
          rcases nine (j := j) (by omega) (by omega) with rfl | rfl | rfl | rfl | rfl | rfl | rfl | rfl <;> (simp only [show ∀ k, a + k - a = k by intro k; omega] at hy ⊢)
          · exact ⟨((a - y) / 1).toNat, by omega, by omega⟩
          · exact ⟨((a - y) / 2).toNat, by omega, by omega⟩
          · exact ⟨((a - y) / 3).toNat, by omega, by omega⟩
          · exact ⟨((a - y) / 4).toNat, by omega, by omega⟩
          · exact ⟨((a - y) / 5).toNat, by omega, by omega⟩
          · exact ⟨((a - y) / 6).toNat, by omega, by omega⟩
          · exact ⟨((a - y) / 7).toNat, by omega, by omega⟩
          · exact ⟨((a - y) / 8).toNat, by omega, by omega⟩
        · intro i hi
          refine (mem _).mpr ?_
          rw [if_neg (by omega), if_pos (by omega)]
          rcases nine (j := j) (by omega) (by omega) with rfl | rfl | rfl | rfl | rfl | rfl | rfl | rfl <;> (simp only [show ∀ k, a + k - a = k by intro k; omega] at hi ⊢; omega)
      · simp only [if_neg c1, if_neg c2] at d0 ⊢
        have : l = [] := List.eq_nil_iff_forall_not_mem.mpr fun y hy => by
          have hy := (mem y).mp hy
          rcases nine (j := j) (by omega) (by omega) with rfl | rfl | rfl | rfl | rfl | rfl | rfl | rfl <;> (simp only [show ∀ k, a + k - a = k by intro k; omega] at hy; omega)
        rw [this]
        rfl
  omega
end L

end

section
/-! _law_refused. -/
namespace L
open G
variable {dr : Nat → Int → Int} {st : Sto} {a b x lo hi : Int}
abbrev rE (a b x lo hi : Int) (v w : Option Val) : G.Env := [some (.int a), some (.int b), some (.int x), some (.int lo), some (.int hi), v, w]
abbrev lcA (e1 e2 e3 : E) : E := .lc [6] (.one 6) (.cons (.lit (.int (.ofNat 0))) (.cons (.lit (.int (.ofNat 1))) .nil)) (.lit (.bl true)) (.call 71 (.cons (.var 6) (.cons e1 (.cons e2 (.cons e3 .nil)))))
abbrev rN (n : Nat) : E := .bin .mul (.lst (.cons (.cons (.lit (.str [114, 97, 105, 115, 101, 100])) (.cons (.lit (.int (.ofNat 4))) .nil)) .nil)) (.lit (.int (.ofNat n)))
abbrev no7 (c : E) : S := .ite c (.ret (.lit (.bl false))) .skip
abbrev rfB : S := .seq (no7 (.cmp .ne (lcA (.var 5) (.lit .non) (.lit .non)) (rN 2))) (.seq (no7 (.cmp .ne (lcA (.var 0) (.var 5) (.var 2)) (rN 2))) (.seq (no7 (.cmp .ne (lcA (.var 0) (.var 1) (.var 5)) (rN 2))) (no7 (.cmp .ne (.lst (.cons (.call 72 (.cons (.var 0) (.cons (.var 1) (.cons (.var 2) (.cons (.var 5) (.cons (.var 4) .nil)))))) (.cons (.call 72 (.cons (.var 0) (.cons (.var 1) (.cons (.var 2) (.cons (.var 3) (.cons (.var 5) .nil)))))) .nil))) (rN 2)))))
abbrev offE : E := .lst (.cons (.lit .non) (.cons (.lit (.int (.ofNat 100))) (.cons (.bin .sub (.lit (.int (.ofNat 0))) (.lit (.int (.ofNat 100)))) (.cons (.lit (.str [49])) (.cons (.lit (.bl true)) (.cons (.cons (.lit (.int (.ofNat 1))) .nil) .nil))))))
abbrev enE : E := .cmp .eq (.lst (.cons (.call 71 (.cons (.lit (.int (.ofNat 0))) (.cons (.var 1) (.cons (.var 0) (.cons (.var 2) .nil))))) (.cons (.call 71 (.cons (.lit (.int (.ofNat 1))) (.cons (.var 0) (.cons (.var 0) (.cons (.var 2) .nil))))) (.cons (.call 72 (.cons (.var 1) (.cons (.var 0) (.cons (.var 2) (.cons (.lit (.int (.ofNat 0))) (.cons (.lit (.int (.ofNat 1))) .nil)))))) .nil)))) (rN 3)
theorem rf_eq : b__law_refused = .seq (.for (.one 5) offE rfB) (.ret enE) := rfl
theorem ev_ne {C : Calls} {e f : E} {env : G.Env} {u w : Val} (h1 : ev C e env st = .ok u st) (h2 : ev C f env st = .ok w st) (h : eqS st u w = some true) : ev C (.cmp .ne e f) env st = .ok (.bl false) st := by
  have e0 : ∀ (C : Calls) o a b env s, ev C (.cmp o a b) env s = (ev C a env s).bind fun x st1 => (ev C b env st1).bind fun y st2 => cmpV o x y st2 := fun _ _ _ _ _ _ => rfl
  rw [e0, h1]
  simp only [Rs.bind, h2, cmpV, h, notO, ob, Bool.not_true]
theorem lcA_ok {C : Calls} {e1 e2 e3 : E} {u1 u2 u3 v : Val} (E1 : ∀ w, ev C e1 (rE a b x lo hi (some v) w) st = .ok u1 st) (E2 : ∀ w, ev C e2 (rE a b x lo hi (some v) w) st = .ok u2 st) (E3 : ∀ w, ev C e3 (rE a b x lo hi (some v) w) st = .ok u3 st)
    (p1 : pureV u1 = true) (p2 : pureV u2 = true) (p3 : pureV u3 = true) (h : C 71 [.int (.ofNat 0), u1, u2, u3] [] = .ok r4 [] ∧ C 71 [.int (.ofNat 1), u1, u2, u3] [] = .ok r4 []) : ev C (lcA e1 e2 e3) (rE a b x lo hi (some v) none) st = .ok (.tl [r4, r4]) st := by
  have it : ev C (.cons (.lit (.int (.ofNat 0))) (.cons (.lit (.int (.ofNat 1))) .nil)) (rE a b x lo hi (some v) none) st = .ok (.tup [.int (.ofNat 0), .int (.ofNat 1)]) st := rfl
  rw [ev_lc_tup it]
  show lcI (.one 6) (.fz [.int (.ofNat 0), .int (.ofNat 1)]) _ _ (rE a b x lo hi (some v) none) _ _ _ _ = _
  rw [lc_run (fun _ => true) (fun _ => r4) [.int (.ofNat 0), .int (.ofNat 1)] rfl (by decide)]
  · rfl
  · intro w hw
    have f4 : frzD [] r4 = some r4 := rfl
    refine ⟨rE a b x lo hi (some v) (some w), rfl, rfl, fun _ => ?_⟩
    have k : C 71 [w, u1, u2, u3] [] = .ok r4 [] ∧ pureV w = true := by
      simp only [List.mem_cons, List.not_mem_nil, or_false] at hw
      rcases hw with rfl | rfl
      · exact ⟨h.1, rfl⟩
      · exact ⟨h.2, rfl⟩
    simp only [ev, Rs.bind, E1, E2, E3, List.getElem?_cons_zero, List.getElem?_cons_succ, callV, pureL, k.2, p1, p2, p3, k.1, f4]
theorem r2_eq (C : Calls) (env : G.Env) : ev C (rN 2) env st = .ok (.tl [r4, r4]) st := rfl
theorem r3_eq (C : Calls) (env : G.Env) : ev C (rN 3) env st = .ok (.tl [r4, r4, r4]) st := rfl
theorem rf_body {v : Val} (o : Off dr v) (ha : Ok99 a) (hb : Ok99 b) (hx : Ok99 x) (hl : Ok99 lo) (hh : Ok99 hi) : ex (run tab dr 11) rfB (rE a b x lo hi (some v) none) st = .nx (rE a b x lo hi (some v) none) st := by
  have fi : ∀ i : Int, frz 5 [] (.int i) = some (.int i) := fun _ => rfl
  have e2 : eqS st (.tl [r4, r4]) (.tl [r4, r4]) = some true := rfl
  have c1 := lcA_ok (C := run tab dr 11) (a := a) (b := b) (x := x) (lo := lo) (hi := hi) (st := st) (v := v) (e1 := .var 5) (e2 := .lit .non) (e3 := .lit .non) (fun _ => rfl) (fun _ => rfl) (fun _ => rfl) o.pu rfl rfl (ask_no (d := 9) o.pu rfl rfl rfl fun st => q_0 (d := 6) o)
  have c2 := lcA_ok (C := run tab dr 11) (a := a) (b := b) (x := x) (lo := lo) (hi := hi) (st := st) (v := v) (e1 := .var 0) (e2 := .var 5) (e3 := .var 2) (fun _ => rfl) (fun _ => rfl) (fun _ => rfl) rfl o.pu rfl (ask_no (d := 9) rfl o.pu rfl rfl fun st => q_1 (d := 6) o ha)
  have c3 := lcA_ok (C := run tab dr 11) (a := a) (b := b) (x := x) (lo := lo) (hi := hi) (st := st) (v := v) (e1 := .var 0) (e2 := .var 1) (e3 := .var 5) (fun _ => rfl) (fun _ => rfl) (fun _ => rfl) rfl rfl o.pu (ask_no (d := 9) rfl rfl o.pu (pu1 o.fz) fun st => q_2 (d := 6) o ha hb)
  have l1 := list_no (dr := dr) (d := 9) (u1 := .int a) (u2 := .int b) (u3 := .int x) (u4 := v) (u5 := .int hi) rfl rfl rfl o.pu rfl (pu3 (fi x) o.fz (fi hi)) fun st => q_3 (d := 6) o ha hb hx
  have l2 := list_no (dr := dr) (d := 9) (u1 := .int a) (u2 := .int b) (u3 := .int x) (u4 := .int lo) (u5 := v) rfl rfl rfl rfl o.pu (pu3 (fi x) (fi lo) o.fz) fun st => q_4 (d := 6) o ha hb hx hl
  have f4 : frzD [] r4 = some r4 := rfl
  have c4 : ev (run tab dr 11) (.lst (.cons (.call 72 (.cons (.var 0) (.cons (.var 1) (.cons (.var 2) (.cons (.var 5) (.cons (.var 4) .nil)))))) (.cons (.call 72 (.cons (.var 0) (.cons (.var 1) (.cons (.var 2) (.cons (.var 3) (.cons (.var 5) .nil)))))) .nil))) (rE a b x lo hi (some v) none) st = .ok (.tl [r4, r4]) st := by
    simp only [ev, Rs.bind, List.getElem?_cons_zero, List.getElem?_cons_succ, callV, pureL, pureV_int, o.pu, l1, l2, f4]
  rw [ite_skip (ev_ne c1 (r2_eq _ _) e2), ite_skip (ev_ne c2 (r2_eq _ _) e2), ite_skip (ev_ne c3 (r2_eq _ _) e2), ex, ev_ne c4 (r2_eq _ _) e2]
  rfl
theorem rf_for (ha : Ok99 a) (hb : Ok99 b) (hx : Ok99 x) (hl : Ok99 lo) (hh : Ok99 hi) : ∀ (vs pre : List Val) (a5 : Option Val), (∀ v ∈ vs, Off dr v) → ∃ b5, forI (.one 5) (.fz (pre ++ vs)) (ex (run tab dr 11) rfB) (vs.length + 1) pre.length (rE a b x lo hi a5 none) st = .nx (rE a b x lo hi b5 none) st
  | [], pre, a5, _ => ⟨a5, by simp [forI, Src.get]⟩
  | v :: vs, pre, a5, h => by
    obtain ⟨b5, f⟩ := rf_for ha hb hx hl hh vs (pre ++ [v]) (some v) fun w hw => h w (by simp [hw])
    refine ⟨b5, ?_⟩
    have g1 : (pre ++ v :: vs)[pre.length]? = some v := by simp
    have g2 : pre ++ [v] ++ vs = pre ++ v :: vs := by simp
    have g3 : (pre ++ [v]).length = pre.length + 1 := by simp
    rw [g2, g3] at f
    have ea : asg (.one 5) v (rE a b x lo hi a5 none) = some (rE a b x lo hi (some v) none) := rfl
    rw [List.length_cons, forI]
    simp only [Src.get, g1, ea]
    rw [rf_body (h v (by simp)) ha hb hx hl hh]
    exact f
theorem r_refused (h : a < b) (ha : Ok99 a) (hb : Ok99 b) (hx : Ok99 x) (hl : Ok99 lo) (hh : Ok99 hi) : run tab dr 12 73 [.int a, .int b, .int x, .int lo, .int hi] [] = .ok (.bl true) [] := by
  rw [run_df (i := 73) (np := 5) (ns := 7) (b := b__law_refused) rfl rfl, rf_eq]
  show fin (ex (run tab dr 11) (.seq (.for (.one 5) offE rfB) (.ret enE)) (rE a b x lo hi none none) []) = _
  obtain ⟨b5, f⟩ := rf_for (dr := dr) (st := []) ha hb hx hl hh [.non, .int (.ofNat 100), .int (.negSucc 99), .str [49], .bl true, .tup [.int (.ofNat 1)]] [] none (fun v hv => offs v hv)
  have eo : ev (run tab dr 11) offE (rE a b x lo hi none none) [] = .ok (.tl [.non, .int (.ofNat 100), .int (.negSucc 99), .str [49], .bl true, .tup [.int (.ofNat 1)]]) [] := rfl
  have ef : ex (run tab dr 11) (.for (.one 5) offE rfB) (rE a b x lo hi none none) [] = .nx (rE a b x lo hi b5 none) [] := by
    rw [ex, eo]
    simp only [Rs.run, srcOf]
    exact f
  rw [ex, ef]
  dsimp only
  refine fin_ret ?_
  have fi : ∀ i : Int, frz 5 [] (.int i) = some (.int i) := fun _ => rfl
  have k1 := (ask_no (dr := dr) (d := 9) (u1 := .int b) (u2 := .int a) (u3 := .int x) rfl rfl rfl rfl fun st => q_5 (d := 6) hb ha hx (by omega)).1
  have k2 := (ask_no (dr := dr) (d := 9) (u1 := .int a) (u2 := .int a) (u3 := .int x) rfl rfl rfl rfl fun st => q_5 (d := 6) ha ha hx (by omega)).2
  have k3 := list_no (dr := dr) (d := 9) (u1 := .int b) (u2 := .int a) (u3 := .int x) (u4 := .int (.ofNat 0)) (u5 := .int (.ofNat 1)) rfl rfl rfl rfl rfl rfl fun st => q_6 (d := 6) hb ha hx (show Ok99 0 from ⟨by omega, by omega⟩) (show Ok99 1 from ⟨by omega, by omega⟩) (by omega)
  have f4 : frzD [] r4 = some r4 := rfl
  have c : ev (run tab dr 11) (.lst (.cons (.call 71 (.cons (.lit (.int (.ofNat 0))) (.cons (.var 1) (.cons (.var 0) (.cons (.var 2) .nil))))) (.cons (.call 71 (.cons (.lit (.int (.ofNat 1))) (.cons (.var 0) (.cons (.var 0) (.cons (.var 2) .nil))))) (.cons (.call 72 (.cons (.var 1) (.cons (.var 0) (.cons (.var 2) (.cons (.lit (.int (.ofNat 0))) (.cons (.lit (.int (.ofNat 1))) .nil)))))) .nil)))) (rE a b x lo hi b5 none) [] = .ok (.tl [r4, r4, r4]) [] := by
    simp only [ev, Rs.bind, List.getElem?_cons_zero, List.getElem?_cons_succ, callV, pureL, pureV_int, k1, k2, k3, f4]
  have e3 : eqS [] (.tl [r4, r4, r4]) (.tl [r4, r4, r4]) = some true := rfl
  have e0 : ∀ (C : Calls) o a b env s, ev C (.cmp o a b) env s = (ev C a env s).bind fun x st1 => (ev C b env st1).bind fun y st2 => cmpV o x y st2 := fun _ _ _ _ _ _ => rfl
  rw [e0, c]
  simp only [Rs.bind, r3_eq, cmpV, e3, ob]
end L

end

section
/-! The law. -/
namespace L
open G
variable {dr : Nat → Int → Int} {a b x lo hi : Int}
theorem num_ok (a : Int) : run tab dr 12 57 [.int a, .int a] [] = .ok (.bl true) [] := by
  rw [run_df (i := 57) (np := 2) (ns := 2) (b := b__law_same_number) rfl rfl]
  simp [b__law_same_number, ex, ev, start, fin, Rs.bind, Rs.run, biV, isiV, ob, cmpV, eqS_int]
theorem asks (ha : Ok99 a) (hb : Ok99 b) (hx : Ok99 x) (h : a < b) : run tab dr 12 71 [.int (.ofNat 0), .int a, .int b, .int x] [] = .ok (.int (inn a b x)) [] ∧ run tab dr 12 71 [.int (.ofNat 1), .int a, .int b, .int x] [] = .ok (.int (dep a b x)) [] := by
  have i43 := r_inner (dr := dr) (d := 7) (st := []) ha hb hx h
  have i44 := r_depth (dr := dr) (d := 7) (st := []) ha hb hx h
  have i43 : run tab dr 11 43 [.int a, .int b, .int x] [] = .ok (.int (inn a b x)) [] := i43
  have i44 : run tab dr 11 44 [.int a, .int b, .int x] [] = .ok (.int (dep a b x)) [] := i44
  have b45 : Nat.blt 4 5 = true := rfl
  have s0 : ∀ st, subV (.tl [.fn 43, .fn 44]) (.int (.ofNat 0)) st = .ok (.fn 43) st := fun _ => rfl
  have s1 : ∀ st, subV (.tl [.fn 43, .fn 44]) (.int (.ofNat 1)) st = .ok (.fn 44) st := fun _ => rfl
  refine ⟨?_, ?_⟩
  · rw [run_df (i := 71) (np := 4) (ns := 5) (b := b__law_ask) rfl rfl]
    simp only [b__law_ask, ex, ev, start, fin, Rs.bind, Rs.run, List.map, List.cons_append, List.nil_append, List.length_cons, List.length_nil, List.replicate, List.getElem?_cons_zero, List.getElem?_cons_succ, b45, s0, callV, pureL, pureV_int, i43, frzD_int]
  · rw [run_df (i := 71) (np := 4) (ns := 5) (b := b__law_ask) rfl rfl]
    simp only [b__law_ask, ex, ev, start, fin, Rs.bind, Rs.run, List.map, List.cons_append, List.nil_append, List.length_cons, List.length_nil, List.replicate, List.getElem?_cons_zero, List.getElem?_cons_succ, b45, s1, callV, pureL, pureV_int, i44, frzD_int]
theorem lists (ha : Ok99 a) (hb : Ok99 b) (hx : Ok99 x) (hl : Ok99 lo) (hh : Ok99 hi) (h : a < b) : run tab dr 12 72 [.int a, .int b, .int x, .int lo, .int hi] [] = .ok (.tl (iL ((span lo (hi + 1 - lo).toNat).filter (hit a b x)))) [] := by
  have i42 := r_lims (dr := dr) (d := 7) (st := []) ha hb hx hl hh h
  have i42 : run tab dr 11 42 [.int a, .int b, .int x, .int lo, .int hi] [] = .ok (.tl (iL ((span lo (hi + 1 - lo).toNat).filter (hit a b x)))) [] := i42
  have b45 : Nat.blt 5 6 = true := rfl
  rw [run_df (i := 72) (np := 5) (ns := 6) (b := b__law_list) rfl rfl]
  simp only [b__law_list, ex, ev, start, fin, Rs.bind, Rs.run, List.map, List.cons_append, List.nil_append, List.length_cons, List.length_nil, List.replicate, List.getElem?_cons_zero, List.getElem?_cons_succ, b45, callV, pureL, pureV_int, i42, frzD_iL]
theorem allInt_i : ∀ l : List Int, allInt (iL l) = true
  | [] => rfl
  | x :: l => allInt_i l
abbrev e2 (a b x lo hi : Int) (a7 a8 a9 a11 a12 a13 a14 a15 : Option Val) (w : Option Val) : G.Env := [some .scr, some (.ref 0), some (.int a), some (.int b), some (.int x), some (.int lo), some (.int hi), a7, a8, a9, some (.ref 1), a11, a12, a13, a14, a15, w]
/-- the keys between two bounds -/
theorem lc_keys {C : Calls} {F : Fd7} {st : Sto} (h1 : st[1]? = some (.fdi (iL (kys F)) (iL (vls F)))) (hl : F.length ≤ 1000) {p q : E} {u w : Int} {a7 a8 a9 a11 a12 a13 a14 a15 : Option Val}
    (hp : ∀ z, ev C p (e2 a b x lo hi a7 a8 a9 a11 a12 a13 a14 a15 z) st = .ok (.int u) st) (hq : ∀ z, ev C q (e2 a b x lo hi a7 a8 a9 a11 a12 a13 a14 a15 z) st = .ok (.int w) st) :
    ev C (.lc [16] (.one 16) (.keysI (.var 10)) (.chain .le .le p (.var 16) q) (.var 16)) (e2 a b x lo hi a7 a8 a9 a11 a12 a13 a14 a15 none) st = .ok (.tl (iL ((kys F).filter fun y => decide (u ≤ y) && decide (y ≤ w)))) st := by
  have it : ev C (.keysI (.var 10)) (e2 a b x lo hi a7 a8 a9 a11 a12 a13 a14 a15 none) st = .ok (.tl (iL (kys F))) st := by
    simp only [ev, Rs.bind, List.getElem?_cons_zero, List.getElem?_cons_succ, h1, allInt_i]
  have hk : (iL (kys F)).length ≤ lineN := by simp only [List.length_map, kys, lineN]; omega
  rw [ev_lc_tl it]
  show lcI (.one 16) (.fz (iL (kys F))) _ _ (e2 a b x lo hi a7 a8 a9 a11 a12 a13 a14 a15 none) _ _ _ _ = _
  rw [lc_run (fun v => match v with | .int y => decide (u ≤ y) && decide (y ≤ w) | _ => false) (fun v => v) _ rfl hk ?h]
  case h =>
    intro v hv
    obtain ⟨n, _, rfl⟩ := List.mem_map.mp hv
    refine ⟨e2 a b x lo hi a7 a8 a9 a11 a12 a13 a14 a15 (some (.int n)), rfl, ?_, fun _ => rfl⟩
    have ec : ∀ (C : Calls) o p a b c env s, ev C (.chain o p a b c) env s = (ev C a env s).bind fun x st1 => (ev C b env st1).bind fun y st2 => (cmpV o x y st2).bind fun r st3 => match r with | .bl true => (ev C c env st3).bind fun z st4 => cmpV p y z st4 | .bl false => .ok (.bl false) st3 | _ => .no := fun _ _ _ _ _ _ _ _ => rfl
    have v16 : ∀ s, ev C (.var 16) (e2 a b x lo hi a7 a8 a9 a11 a12 a13 a14 a15 (some (.int n))) s = .ok (.int n) s := fun _ => rfl
    rw [ec, hp]
    simp only [Rs.bind, v16, cmpV, ile_eq]
    by_cases k : u ≤ n
    · rw [decide_eq_true k]
      simp only [hq, Bool.true_and]
    · rw [decide_eq_false k]
      rfl
  rw [filter_ints (fun y => decide (u ≤ y) && decide (y ≤ w)) _ (fun _ => rfl), List.map_id']
abbrev ask7 (w : Nat) : E := .call 71 (.cons (.lit (.int (.ofNat w))) (.cons (.var 2) (.cons (.var 3) (.cons (.var 4) .nil))))
abbrev lcW (p q : E) : E := .lc [16] (.one 16) (.keysI (.var 10)) (.chain .le .le p (.var 16) q) (.var 16)
abbrev fIn : E := .sub (.var 10) (.sub (.var 7) (.lit (.int (.ofNat 0))))
abbrev psE : E := .lc [16] (.one 16) (.rng (.cons (.bin .sub (.lit (.int (.ofNat 0))) (.lit (.int (.ofNat 60)))) (.cons (.lit (.int (.ofNat 60))) .nil))) (.cmp .eq (.bin .mod (.bin .sub (.var 16) (.var 2)) (.bin .sub (.var 3) (.var 2))) (.lit (.int (.ofNat 0)))) (.var 16)
abbrev bwE : E := .lc [16] (.one 16) (.var 8) (.chain .lt .lt (.bi .min2 (.cons (.bin .mul (.lit (.int (.ofNat 2))) (.var 4)) (.cons (.bin .add (.var 2) (.var 3)) .nil))) (.bin .mul (.lit (.int (.ofNat 2))) (.var 16)) (.bi .max2 (.cons (.bin .mul (.lit (.int (.ofNat 2))) (.var 4)) (.cons (.bin .add (.var 2) (.var 3)) .nil)))) (.var 16)
abbrev tail7 : S := .seq (no7 (.cmp .ne (.call 72 (.cons (.var 2) (.cons (.var 3) (.cons (.var 4) (.cons (.var 5) (.cons (.var 6) .nil)))))) (.bi .sorted (.cons (lcW (.var 5) (.var 6)) .nil)))) (.seq (.set 7 (lcW (.var 2) (.var 3))) (.seq (no7 (.or (.cmp .ne (.bi .len (.cons (.var 7) .nil)) (.lit (.int (.ofNat 1)))) (.not (.call 57 (.cons (ask7 0) (.cons (.sub (.var 7) (.lit (.int (.ofNat 0)))) .nil)))))) (.seq (no7 (.not (.call 57 (.cons (ask7 1) (.cons fIn .nil))))) (.seq (.set 8 psE) (.seq (.set 9 bwE) (.seq (no7 (.cmp .ne (.bi .len (.cons (.var 9) .nil)) fIn)) (.ret (.call 73 (.cons (.var 2) (.cons (.var 3) (.cons (.var 4) (.cons (.var 5) (.cons (.var 6) .nil)))))))))))))
theorem tail_ok {c : Int} {F : Fd7} (bt : Bet a b x c F []) (h1 : a < b) (h2 : b ≤ a + 8) (hx : -30 ≤ x ∧ x ≤ 30) (ha : -10 ≤ a ∧ a ≤ 10) (hl : -40 ≤ lo) (hh : hi ≤ 49) (hl2 : lo ≤ 20) (hh2 : lo ≤ hi) {st : Sto} (g1 : st[1]? = some (.fdi (iL (kys F)) (iL (vls F)))) (a11 a12 a13 a14 a15 : Option Val) :
    isRT (ex (run tab dr 12) tail7 (e2 a b x lo hi none none none a11 a12 a13 a14 a15 none) st) = true := by
  have oa : Ok99 a := ⟨by omega, by omega⟩
  have ob' : Ok99 b := ⟨by omega, by omega⟩
  have ox : Ok99 x := ⟨by omega, by omega⟩
  have ol : Ok99 lo := ⟨by omega, by omega⟩
  have oh : Ok99 hi := ⟨by omega, by omega⟩
  have fl := bt.kb.len
  obtain ⟨k0, k1⟩ := asks (dr := dr) oa ob' ox h1
  have k2 := lists (dr := dr) oa ob' ox ol oh h1
  have k3 := r_refused (dr := dr) h1 oa ob' ox ol oh
  have fe := found_eq bt h1 h2 hx ha hl hh
  have ie := inner_eq bt h1 h2 hx ha
  have im := (bt.inner h1 h2 hx ha).1
  have dg := dget_of F bt.kb.nd _ _ im
  have e0 : ∀ (C : Calls) o a b env s, ev C (.cmp o a b) env s = (ev C a env s).bind fun x st1 => (ev C b env st1).bind fun y st2 => cmpV o x y st2 := fun _ _ _ _ _ _ => rfl
  have e6 : ∀ (C : Calls) b a env s, ev C (.bi b (.cons a .nil)) env s = (ev C a env s).bind fun x st1 => biV b [x] st1 := fun C b a env s => by
    simp only [ev, Rs.bind]
    cases ev C a env s <;> rfl
  -- the first
  have c1 : ev (run tab dr 12) (.call 72 (.cons (.var 2) (.cons (.var 3) (.cons (.var 4) (.cons (.var 5) (.cons (.var 6) .nil)))))) (e2 a b x lo hi none none none a11 a12 a13 a14 a15 none) st = .ok (.tl (iL ((span lo (hi + 1 - lo).toNat).filter (hit a b x)))) st := by
    simp only [ev, Rs.bind, List.getElem?_cons_zero, List.getElem?_cons_succ, callV, pureL, pureV_int, k2, frzD_iL]
  have s1 : ∀ l : List Int, biV .sorted [.tl (iL l)] st = .ok (.tl (iL (srtI7 l))) st := fun l => by
    have so : sortable (iL l) = true := by unfold sortable; rw [allInt_i]; rfl
    simp only [biV, walkOf, so, sortV_i]
  have c2 : ev (run tab dr 12) (.bi .sorted (.cons (lcW (.var 5) (.var 6)) .nil)) (e2 a b x lo hi none none none a11 a12 a13 a14 a15 none) st = .ok (.tl (iL ((span lo (hi + 1 - lo).toNat).filter (hit a b x)))) st := by
    rw [e6, lc_keys (u := lo) (w := hi) g1 (by omega) (fun _ => rfl) (fun _ => rfl)]
    show biV .sorted [.tl (iL _)] st = _
    rw [s1, fe]
  have q1 : ∀ l : List Int, eqS st (.tl (iL l)) (.tl (iL l)) = some true := fun l => by rw [eqS_ints]; simp
  rw [ite_skip (ev_ne c1 c2 (q1 _))]
  -- the inner image
  have c3 := lc_keys (C := run tab dr 12) (lo := lo) (hi := hi) (x := x) (u := a) (w := b) (p := .var 2) (q := .var 3) (a7 := none) (a8 := none) (a9 := none) (a11 := a11) (a12 := a12) (a13 := a13) (a14 := a14) (a15 := a15) (a := a) (b := b) g1 (by omega) (fun _ => rfl) (fun _ => rfl)
  rw [ie] at c3
  rw [set_nx (.tl (iL [inn a b x])) c3]
  have es : (e2 a b x lo hi none none none a11 a12 a13 a14 a15 none).set 7 (some (.tl (iL [inn a b x]))) = e2 a b x lo hi (some (.tl (iL [inn a b x]))) none none a11 a12 a13 a14 a15 none := rfl
  rw [es]
  have sb : ∀ s, subV (.tl (iL [inn a b x])) (.int (.ofNat 0)) s = .ok (.int (inn a b x)) s := fun _ => rfl
  have sf : subV (.ref 1) (.int (inn a b x)) st = .ok (.int (dep a b x)) st := by
    have ko : keyOk false (.int (inn a b x)) = true := rfl
    simp only [subV, g1, ko, dg]
  have n0 := num_ok (dr := dr) (inn a b x)
  have n1 := num_ok (dr := dr) (dep a b x)
  have ln : ∀ s, biV .len [.tl (iL [inn a b x])] s = .ok (.int (.ofNat 1)) s := fun _ => rfl
  have q2 : eqS st (.int (.ofNat 1)) (.int (.ofNat 1)) = some true := rfl
  have c4 : ev (run tab dr 12) (.cmp .ne (.bi .len (.cons (.var 7) .nil)) (.lit (.int (.ofNat 1)))) (e2 a b x lo hi (some (.tl (iL [inn a b x]))) none none a11 a12 a13 a14 a15 none) st = .ok (.bl false) st := by
    refine ev_ne (u := .int (.ofNat 1)) (w := .int (.ofNat 1)) ?_ rfl q2
    rw [e6]
    rfl
  have c5 : ev (run tab dr 12) (.not (.call 57 (.cons (ask7 0) (.cons (.sub (.var 7) (.lit (.int (.ofNat 0)))) .nil)))) (e2 a b x lo hi (some (.tl (iL [inn a b x]))) none none a11 a12 a13 a14 a15 none) st = .ok (.bl false) st := by
    simp only [ev, Rs.bind, List.getElem?_cons_zero, List.getElem?_cons_succ, sb, callV, pureL, pureV_int, k0, frzD_int, n0, frzD_bl, Bool.not_true]
  rw [ite_skip (ev_or_ff c4 c5)]
  have c6 : ev (run tab dr 12) (.not (.call 57 (.cons (ask7 1) (.cons fIn .nil)))) (e2 a b x lo hi (some (.tl (iL [inn a b x]))) none none a11 a12 a13 a14 a15 none) st = .ok (.bl false) st := by
    simp only [ev, Rs.bind, List.getElem?_cons_zero, List.getElem?_cons_succ, sb, sf, callV, pureL, pureV_int, k1, frzD_int, n1, frzD_bl, Bool.not_true]
  rw [ite_skip c6]
  -- mirrors between
  have hd : (0 : Int) < b - a := by omega
  have c7 : ev (run tab dr 12) psE (e2 a b x lo hi (some (.tl (iL [inn a b x]))) none none a11 a12 a13 a14 a15 none) st = .ok (.tl (iL ((span (-60) 120).filter fun i => decide ((i - a) % (b - a) = 0)))) st := by
    have it : ev (run tab dr 12) (.rng (.cons (.bin .sub (.lit (.int (.ofNat 0))) (.lit (.int (.ofNat 60)))) (.cons (.lit (.int (.ofNat 60))) .nil))) (e2 a b x lo hi (some (.tl (iL [inn a b x]))) none none a11 a12 a13 a14 a15 none) st = .ok (.tl (iL (span (-60) 120))) st := by
      rw [← upto_span]
      rfl
    have hk : (iL (span (-60) 120)).length ≤ lineN := by rw [List.length_map, span_len]; decide
    rw [ev_lc_tl it]
    show lcI (.one 16) (.fz (iL (span (-60) 120))) _ _ (e2 a b x lo hi (some (.tl (iL [inn a b x]))) none none a11 a12 a13 a14 a15 none) _ _ _ _ = _
    rw [lc_run (fun v => match v with | .int i => decide ((i - a) % (b - a) = 0) | _ => false) (fun v => v) _ rfl hk ?h]
    case h =>
      intro v hv
      obtain ⟨n, _, rfl⟩ := List.mem_map.mp hv
      refine ⟨e2 a b x lo hi (some (.tl (iL [inn a b x]))) none none a11 a12 a13 a14 a15 (some (.int n)), rfl, ?_, fun _ => rfl⟩
      have il : ilt 0 (b - a) = true := by rw [ilt_eq]; exact decide_eq_true hd
      have z0 : (Int.ofNat 0) = 0 := rfl
      simp only [ev, Rs.bind, List.getElem?_cons_zero, List.getElem?_cons_succ, binV, il, cmpV, eqS_int, ob, z0]
    rw [filter_ints (fun i => decide ((i - a) % (b - a) = 0)) _ (fun _ => rfl), List.map_id']
  rw [set_nx (.tl (iL ((span (-60) 120).filter fun i => decide ((i - a) % (b - a) = 0)))) c7]
  generalize hps : (span (-60) 120).filter (fun i => decide ((i - a) % (b - a) = 0)) = ps
  have psl : ps.length ≤ 120 := by
    rw [← hps]
    refine Nat.le_trans (List.length_filter_le _ _) ?_
    rw [span_len]
    exact Nat.le_refl _
  have es2 : (e2 a b x lo hi (some (.tl (iL [inn a b x]))) none none a11 a12 a13 a14 a15 none).set 8 (some (.tl (iL ps))) = e2 a b x lo hi (some (.tl (iL [inn a b x]))) (some (.tl (iL ps))) none a11 a12 a13 a14 a15 none := rfl
  rw [es2]
  have c8 : ev (run tab dr 12) bwE (e2 a b x lo hi (some (.tl (iL [inn a b x]))) (some (.tl (iL ps))) none a11 a12 a13 a14 a15 none) st = .ok (.tl (iL (btw a b x))) st := by
    have it : ev (run tab dr 12) (.var 8) (e2 a b x lo hi (some (.tl (iL [inn a b x]))) (some (.tl (iL ps))) none a11 a12 a13 a14 a15 none) st = .ok (.tl (iL ps)) st := rfl
    have hk : (iL ps).length ≤ lineN := by rw [List.length_map]; simp only [lineN]; omega
    rw [ev_lc_tl it]
    show lcI (.one 16) (.fz (iL ps)) _ _ (e2 a b x lo hi (some (.tl (iL [inn a b x]))) (some (.tl (iL ps))) none a11 a12 a13 a14 a15 none) _ _ _ _ = _
    rw [lc_run (fun v => match v with | .int i => decide ((if a + b < 2 * x then a + b else 2 * x) < 2 * i) && decide (2 * i < (if 2 * x < a + b then a + b else 2 * x)) | _ => false) (fun v => v) _ rfl hk ?h]
    case h =>
      intro v hv
      obtain ⟨n, _, rfl⟩ := List.mem_map.mp hv
      refine ⟨e2 a b x lo hi (some (.tl (iL [inn a b x]))) (some (.tl (iL ps))) none a11 a12 a13 a14 a15 (some (.int n)), rfl, ?_, fun _ => rfl⟩
      have sm : smallI (Int.ofNat 2) = true := rfl
      have sm2 : smallI 2 = true := rfl
      have z2 : (Int.ofNat 2) = 2 := rfl
      simp only [ev, Rs.bind, List.getElem?_cons_zero, List.getElem?_cons_succ, binV, sm, sm2, biV, cmpV, ilt_eq, z2, decide_eq_true_eq]
      by_cases k : (if a + b < 2 * x then a + b else 2 * x) < 2 * n
      · rw [decide_eq_true k]
        simp only [Bool.true_and]
      · rw [decide_eq_false k]
        simp only [Bool.false_and]
    rw [filter_ints (fun i => decide ((if a + b < 2 * x then a + b else 2 * x) < 2 * i) && decide (2 * i < (if 2 * x < a + b then a + b else 2 * x))) _ (fun _ => rfl), List.map_id', ← hps]
    rfl
  rw [set_nx (.tl (iL (btw a b x))) c8]
  have es3 : (e2 a b x lo hi (some (.tl (iL [inn a b x]))) (some (.tl (iL ps))) none a11 a12 a13 a14 a15 none).set 9 (some (.tl (iL (btw a b x)))) = e2 a b x lo hi (some (.tl (iL [inn a b x]))) (some (.tl (iL ps))) (some (.tl (iL (btw a b x)))) a11 a12 a13 a14 a15 none := rfl
  rw [es3]
  have bl := btw_len h1 h2 hx ha
  have c9 : ev (run tab dr 12) (.cmp .ne (.bi .len (.cons (.var 9) .nil)) fIn) (e2 a b x lo hi (some (.tl (iL [inn a b x]))) (some (.tl (iL ps))) (some (.tl (iL (btw a b x)))) a11 a12 a13 a14 a15 none) st = .ok (.bl false) st := by
    refine ev_ne (u := .int (.ofNat (iL (btw a b x)).length)) (w := .int (dep a b x)) ?_ ?_ ?_
    · rw [e6]
      rfl
    · simp only [ev, Rs.bind, List.getElem?_cons_zero, List.getElem?_cons_succ, sb, sf]
    · rw [eqS_int, List.length_map]
      congr 1
      exact decide_eq_true bl
  rw [ite_skip c9]
  have c10 : ev (run tab dr 12) (.call 73 (.cons (.var 2) (.cons (.var 3) (.cons (.var 4) (.cons (.var 5) (.cons (.var 6) .nil)))))) (e2 a b x lo hi (some (.tl (iL [inn a b x]))) (some (.tl (iL ps))) (some (.tl (iL (btw a b x)))) a11 a12 a13 a14 a15 none) st = .ok (.bl true) st := by
    simp only [ev, Rs.bind, List.getElem?_cons_zero, List.getElem?_cons_succ, callV, pureL, pureV_int, k3, frzD_bl]
  rw [ex, c10]
  rfl
theorem par3_nx {C : Calls} {env : G.Env} {st st1 : Sto} {b : S} {i j k : Nat} {l : E} {x y z : Val} (h : ev C l env st = .ok (.tup [x, y, z]) st1) : ex C (.seq (.par3 i j k l) b) env st = ex C b (((env.set i (some x)).set j (some y)).set k (some z)) st1 := by
  simp only [ex, h, Rs.run]
theorem sure : Sure tab 74 13 := by
  intro dr hf
  rw [run_df (i := 74) (np := 1) (ns := 17) (b := b_law) rfl rfl]
  have h49 : tab[49]? = some .draw := rfl
  have d1 := r_drw (dr := dr) (d := 11) h49 (n := 0) (m := 21) (by decide) (by decide) (by omega)
  have d2 := r_drw (dr := dr) (d := 11) h49 (n := 1) (m := 8) (by decide) (by decide) (by omega)
  have d3 := r_drw (dr := dr) (d := 11) h49 (n := 2) (m := 61) (by decide) (by decide) (by omega)
  obtain ⟨r1, r2⟩ := hf 1 21 (by decide)
  obtain ⟨r3, r4⟩ := hf 2 8 (by decide)
  obtain ⟨r5, r6⟩ := hf 3 61 (by decide)
  have d1 : run tab dr 12 49 [.scr, .ref 0, .int 21] (tw 0) = .ok (.int (dr 1 21)) (tw 1) := d1
  have d2 : run tab dr 12 49 [.scr, .ref 0, .int 8] (tw 1) = .ok (.int (dr 2 8)) (tw 2) := d2
  have d3 : run tab dr 12 49 [.scr, .ref 0, .int 61] (tw 2) = .ok (.int (dr 3 61)) (tw 3) := d3
  generalize dr 1 21 = u1 at *
  generalize dr 2 8 = u2 at *
  generalize dr 3 61 = u3 at *
  refine fin_rt ?_
  show isRT (ex (run tab dr 12) (.seq (.set 1 (.lstM .nil)) (.seq (.set 2 (.bin .sub _ (.lit (.int (.ofNat 10))))) (.seq (.set 3 (.bin .add (.bin .add (.var 2) (.lit (.int (.ofNat 1)))) _)) (.seq (.set 4 (.bin .sub _ (.lit (.int (.ofNat 30))))) (.seq (.par3 10 11 12 _) (.seq (.whl whE whB) (.seq (.frz 10) (.seq (.set 5 (.bin .sub (.call 49 (.cons (.var 0) (.cons (.var 1) (.cons (.lit (.int (.ofNat 61))) .nil)))) (.lit (.int (.ofNat 40))))) (.seq (.set 6 (.bin .add (.var 5) (.call 49 (.cons (.var 0) (.cons (.var 1) (.cons (.lit (.int (.ofNat 30))) .nil)))))) tail7))))))))) (start 1 17 [.scr]) []) = true
  rw [set_nx (.ref 0) (st1 := tw 0) rfl]
  rw [set_nx (.int (u1 - 10)) (st1 := tw 1) (by simp [ev, start, Rs.bind, callV_scr, binV]; rw [d1])]
  rw [set_nx (.int (u1 - 10 + 1 + u2)) (st1 := tw 2) (by simp [ev, start, Rs.bind, callV_scr, binV]; rw [d2])]
  rw [set_nx (.int (u3 - 30)) (st1 := tw 3) (by simp [ev, start, Rs.bind, callV_scr, binV]; rw [d3])]
  generalize ha : u1 - 10 = a
  generalize hb : a + 1 + u2 = b
  generalize hx : u3 - 30 = x
  have h1 : a < b := by omega
  have h2 : b ≤ a + 8 := by omega
  have ax : -30 ≤ x ∧ x ≤ 30 := by omega
  have aa : -10 ≤ a ∧ a ≤ 10 := by omega
  rw [par3_nx (x := .ref 1) (y := .ref 2) (z := .int (.ofNat 0)) (st1 := [.lst (List.replicate 3 (.int 0)), .dic false [.int x] [.int (.ofNat 0)], .lst [.int x]]) rfl]
  obtain ⟨F, c, hF, bt⟩ := bfs_ok (x := x) h1 h2 200 0 [(x, 0)] [x] (bet0 ⟨by omega, by omega⟩) (by simp)
  obtain ⟨st, c', J', b13, b14, b15, w1, w2, w3⟩ := wh7 (C := run tab dr 12) (x := x) (o := .lst (List.replicate 3 (.int 0))) h1 h2 200 fuel 0 [(x, 0)] F [x] [.lst (List.replicate 3 (.int 0)), .dic false [.int x] [.int (.ofNat 0)], .lst [.int x]] 2 none none none (by decide) hF (bet0 ⟨by omega, by omega⟩) rfl rfl rfl (by decide)
  have ew : ex (run tab dr 12) (.whl whE whB) (eB a b x 0 2 none none none) [.lst (List.replicate 3 (.int 0)), .dic false [.int x] [.int (.ofNat 0)], .lst [.int x]] = .nx (eB a b x c' J' b13 b14 b15) st := by
    rw [ex]
    exact w1
  show isRT (ex (run tab dr 12) (.seq (.whl whE whB) _) (eB a b x 0 2 none none none) [.lst (List.replicate 3 (.int 0)), .dic false [.int x] [.int (.ofNat 0)], .lst [.int x]]) = true
  rw [ex, ew]
  dsimp only
  have l1 := (List.getElem?_eq_some_iff.mp w3).1
  have ez : ex (run tab dr 12) (.frz 10) (eB a b x c' J' b13 b14 b15) st = .nx (eB a b x c' J' b13 b14 b15) (st.set 1 (.fdi (iL (kys F)) (iL (vls F)))) := by
    have e10 : (eB a b x c' J' b13 b14 b15)[10]? = some (some (.ref 1)) := rfl
    have w3 : st[1]? = some (.dic false (iL (kys F)) (iL (vls F))) := w3
    rw [ex, e10]
    simp only [w3]
  rw [ex, ez]
  dsimp only
  have y0 : (st.set 1 (.fdi (iL (kys F)) (iL (vls F))))[0]? = some (.lst (List.replicate 3 (.int 0))) := by rw [List.getElem?_set_ne (by decide)]; exact w2
  have y1 : (st.set 1 (.fdi (iL (kys F)) (iL (vls F))))[1]? = some (.fdi (iL (kys F)) (iL (vls F))) := List.getElem?_set_self l1
  generalize st.set 1 (.fdi (iL (kys F)) (iL (vls F))) = st1 at y0 y1
  cases st1 with
  | nil => cases y0
  | cons o rest =>
    have y0 : some o = some (.lst (List.replicate 3 (.int 0))) := y0
    cases y0
    have d4 := r_drw2 (dr := dr) (d := 11) (n := 3) h49 (m := 61) (by decide) (by decide) (by omega) rest
    have d5 := r_drw2 (dr := dr) (d := 11) (n := 4) h49 (m := 30) (by decide) (by decide) (by omega) rest
    have d4 : run tab dr 12 49 [.scr, .ref 0, .int (.ofNat 61)] (.lst (List.replicate 3 (.int 0)) :: rest) = .ok (.int (dr 4 61)) (.lst (List.replicate 4 (.int 0)) :: rest) := d4
    have d5 : run tab dr 12 49 [.scr, .ref 0, .int (.ofNat 30)] (.lst (List.replicate 4 (.int 0)) :: rest) = .ok (.int (dr 5 30)) (.lst (List.replicate 5 (.int 0)) :: rest) := d5
    obtain ⟨r7, r8⟩ := hf 4 61 (by decide)
    obtain ⟨r9, r10⟩ := hf 5 30 (by decide)
    generalize dr 4 61 = u4 at *
    generalize dr 5 30 = u5 at *
    rw [set_nx (.int (u4 - 40)) (st1 := .lst (List.replicate 4 (.int 0)) :: rest) (by simp only [ev, Rs.bind, List.getElem?_cons_zero, List.getElem?_cons_succ, callV_scr, d4, binV]; rfl)]
    rw [set_nx (.int (u4 - 40 + u5)) (st1 := .lst (List.replicate 5 (.int 0)) :: rest) (by simp only [List.set_cons_succ, List.set_cons_zero, ev, Rs.bind, List.getElem?_cons_zero, List.getElem?_cons_succ, callV_scr, d5, binV])]
    exact tail_ok bt h1 h2 ax aa (lo := u4 - 40) (hi := u4 - 40 + u5) (by omega) (by omega) (by omega) (by omega) (st := .lst (List.replicate 5 (.int 0)) :: rest) y1 (some (.ref J')) (some (.int c')) b13 b14 b15
end L

end

open PySem PySem.W PyProof.Rows
theorem PySem.Challenge.cw_gridmirrors_k07_whole_parallel_holds : PySem.Challenge.rw_gridmirrors_k07_whole_parallel.Holds := by
  w_on; o_law; k_head; (case hw => w_witness2)
  k_fill
  refine L2.walk_of (l := PySem.Challenge.rw_gridmirrors_k07_whole_parallel) (n := 63) (k := 28) (x := "script") (CX := fun w => L2N.CX (PySem.Challenge.rw_gridmirrors_k07_whole_parallel).prog w) (sp := fun w => G.spTop _) rfl (by decide) rfl ⟨rfl, by decide, by decide⟩ (fun w h Y => PySem.W.kIn_of Y) ?F (fun _ _ a ns _ hO hS => ⟨a, ns, rfl, hO, hS, fun _ => rfl⟩) (fun _ => G.no_cx)
  case F =>
    intro w mg fa h KX G hmg
    refine' L.all_mk (D := 12) L.sure KX G hmg ?a0 ?l0 ?c0 ?k0 ?a1 ?l1 ?c1 ?k1 ?a2 ?l2 ?c2 ?k2 ?a3 ?l3 ?c3 ?k3 ?a4 ?l4 ?c4 ?k4 ?a5 ?l5 ?c5 ?k5 ?a6 ?l6 ?c6 ?k6 ?a7 ?l7 ?c7 ?k7 ?a8 ?l8 ?c8 ?k8 ?a9 ?l9 ?c9 ?k9 ?a10 ?l10 ?c10 ?k10 ?a11 ?l11 ?c11 ?k11 ?a12 ?l12 ?c12 ?k12 ?a13 ?l13 ?c13 ?k13 ?a14 ?l14 ?c14 ?k14 ?z_ValueError ?z_bool ?z_int ?z_isinstance ?z_len ?z_max ?z_min ?z_range ?z_sorted ?xg0 ?xx0 ?xk0 ?xb0 ?xt0 ?xg1 ?xx1 ?xk1 ?xb1 ?xt1 ?xg2 ?xx2 ?xk2 ?xb2 ?xt2 ?xg3 ?xx3 ?xk3 ?xb3 ?xt3 ?xg4 ?xx4 ?xk4 ?xb4 ?xt4 ?xg5 ?xx5 ?xk5 ?xb5 ?xt5 ?xg6 ?xx6 ?xk6 ?xb6 ?xt6 ?xg7 ?xx7 ?xk7 ?xb7 ?xt7 ?gme ?eB ?xnd ?e0 ?e1 ?e2 ?e3 ?e4 ?e5 ?e6 ?e7
    (case a0 => k_is); (case l0 => k_is); (case c0 => k_is); (case k0 => k_is); (case a1 => k_is); (case l1 => k_is); (case c1 => k_is); (case k1 => k_is); (case a2 => k_is); (case l2 => k_is); (case c2 => k_is); (case k2 => k_is); (case a3 => k_is); (case l3 => k_is); (case c3 => k_is); (case k3 => k_is); (case a4 => k_is); (case l4 => k_is); (case c4 => k_is); (case k4 => k_is); (case a5 => k_is); (case l5 => k_is); (case c5 => k_is); (case k5 => k_is); (case a6 => k_is); (case l6 => k_is); (case c6 => k_is); (case k6 => k_is); (case a7 => k_is); (case l7 => k_is); (case c7 => k_is); (case k7 => k_is); (case a8 => k_is); (case l8 => k_is); (case c8 => k_is); (case k8 => k_is); (case a9 => k_is); (case l9 => k_is); (case c9 => k_is); (case k9 => k_is); (case a10 => k_is); (case l10 => k_is); (case c10 => k_is); (case k10 => k_is); (case a11 => k_is); (case l11 => k_is); (case c11 => k_is); (case k11 => k_is); (case a12 => k_is); (case l12 => k_is); (case c12 => k_is); (case k12 => k_is); (case a13 => k_is); (case l13 => k_is); (case c13 => k_is); (case k13 => k_is); (case a14 => k_is); (case l14 => k_is); (case c14 => k_is); (case k14 => k_is); (case z_ValueError => k_is); (case z_bool => k_is); (case z_int => k_is); (case z_isinstance => k_is); (case z_len => k_is); (case z_max => k_is); (case z_min => k_is); (case z_range => k_is); (case z_sorted => k_is); (case xg0 => k_is); (case xx0 => k_exc); (case xk0 => k_is); (case xb0 => k_is); (case xt0 => k_is); (case xg1 => k_is); (case xx1 => k_exc); (case xk1 => k_is); (case xb1 => k_is); (case xt1 => k_is); (case xg2 => k_is); (case xx2 => k_exc); (case xk2 => k_is); (case xb2 => k_is); (case xt2 => k_is); (case xg3 => k_is); (case xx3 => k_exc); (case xk3 => k_is); (case xb3 => k_is); (case xt3 => k_is); (case xg4 => k_is); (case xx4 => k_exc); (case xk4 => k_is); (case xb4 => k_is); (case xt4 => k_is); (case xg5 => k_is); (case xx5 => k_exc); (case xk5 => k_is); (case xb5 => k_is); (case xt5 => k_is); (case xg6 => k_is); (case xx6 => k_exc); (case xk6 => k_is); (case xb6 => k_is); (case xt6 => k_is); (case xg7 => k_is); (case xx7 => k_exc); (case xk7 => k_is); (case xb7 => k_is); (case xt7 => k_is); (case gme => k_is); (case eB => exact ⟨by k_is, by k_is, by k_is, by k_is, by k_is⟩); (case xnd => decide); (case e0 => exact ⟨by k_is, by k_is, by k_is, by k_is, by k_is, by k_is, by k_is, by k_is, by k_is, by k_is, by k_is, by k_is, by k_is, by k_is, by k_is, by k_is⟩); (case e1 => exact ⟨by k_is, by k_is, by k_is, by k_is, by k_is, by k_is, by k_is, by k_is, by k_is, by k_is, by k_is, by k_is, by k_is, by k_is, by k_is, by k_is⟩); (case e2 => exact ⟨by k_is, by k_is, by k_is, by k_is, by k_is, by k_is, by k_is, by k_is, by k_is, by k_is, by k_is, by k_is, by k_is, by k_is, by k_is, by k_is⟩); (case e3 => exact ⟨by k_is, by k_is, by k_is, by k_is, by k_is, by k_is, by k_is, by k_is, by k_is, by k_is, by k_is, by k_is, by k_is, by k_is, by k_is, by k_is⟩); (case e4 => exact ⟨by k_is, by k_is, by k_is, by k_is, by k_is, by k_is, by k_is, by k_is, by k_is, by k_is, by k_is, by k_is, by k_is, by k_is, by k_is, by k_is⟩); (case e5 => exact ⟨by k_is, by k_is, by k_is, by k_is, by k_is, by k_is, by k_is, by k_is, by k_is, by k_is, by k_is, by k_is, by k_is, by k_is, by k_is, by k_is⟩); (case e6 => exact ⟨by k_is, by k_is, by k_is, by k_is, by k_is, by k_is, by k_is, by k_is, by k_is, by k_is, by k_is, by k_is, by k_is, by k_is, by k_is, by k_is⟩); (case e7 => exact ⟨by k_is, by k_is, by k_is, by k_is, by k_is, by k_is, by k_is, by k_is, by k_is, by k_is, by k_is, by k_is, by k_is, by k_is, by k_is, by k_is⟩)
